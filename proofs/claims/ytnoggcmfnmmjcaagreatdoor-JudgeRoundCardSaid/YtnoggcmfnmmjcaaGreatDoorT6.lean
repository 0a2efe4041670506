import Derived.Test.YtnoggcmfnmmjcaaGreatDoorT3
import Derived.Test.YtnoggcmfnmmjcaaGreatDoorT5
set_option linter.unusedVariables false
set_option linter.unusedSimpArgs false
namespace Go.Am
open Go.Proofs

/-! ### addresses -/
structure Addr4 where
  hi : Int
  lo : Int
@[simp] def Addr4.av (a : Addr4) : AV := .agg [.int .u64 a.hi, .int .u64 a.lo]
structure Pfx where
  six : Bool
  addr : Addr4
  len : Int
@[simp] def Pfx.av (p : Pfx) : AV := .agg [.bool p.six, .int .u64 p.addr.hi, .int .u64 p.addr.lo, .int .i64 p.len]

def wide (six : Bool) : Int := if six then 128 else 32
theorem wide_spec (six : Bool) : FSpec Tryz.prog 100 [.bool six] [] (.int .i64 (wide six)) [] := by
  refine FSpec.of_flat (q := []) Tryz.func100 (by kernel_rfl) rfl Tryz.ntmps100 Tryz.results100 hP (by kernel_rfl) (by simp) (by first | rfl | simp) ?_
  simp [wide]


def rightA (six : Bool) (a : Addr4) : Bool := six || (a.hi == 0 && a.lo.fdiv (2 ^ 32) == 0)
theorem rightA_spec (six : Bool) (a : Addr4) : FSpec Tryz.prog 22 [.bool six, a.av] [] (.bool (rightA six a)) [] := by
  refine FSpec.of_flat (q := []) Tryz.func22 (by kernel_rfl) rfl Tryz.ntmps22 Tryz.results22 hP (by kernel_rfl) (by simp) (by first | rfl | simp) ?_
  simp [rightA, IntKind.bits]
  intro h; by_cases h0 : a.hi = 0 <;> simp [h, h0]

def orInt : List Int → Int
  | [] => 0
  | x :: l => if x ≠ 0 then x else orInt l
theorem orInt_spec (l : List Int) : FSpec Tryz.prog 95 [.im (.sl 1 (l.map fun x => [.int .i64 x]))] [] (.int .i64 (orInt l)) [] := by
  refine FSpec.bd (enters_of Tryz.func95 (by kernel_rfl) rfl) fun hbd => ?_
  have hl : l.length ≤ 9223372036854775807 := by simpa [maxLen] using hbd
  refine FSpec.of_flat (q := []) Tryz.func95 (by kernel_rfl) rfl Tryz.ntmps95 Tryz.results95 hP (by kernel_rfl) (by simp) (by first | rfl | simp) ?_
  simp
  refine LoopK.plain (fun k : Nat => [(2, .int .i64 0), (3, .int .i64 0), (6, .im (.sl 1 (l.map fun x => [.int .i64 x]))), (7, .int .i64 l.length), (8, .int .i64 k)]) (fun k => k ≤ l.length ∧ orInt (l.drop k) = orInt l)
    (fun k => l.length - k) 0 (by simp) (by simp) ?_
  rintro k ⟨hk, hR⟩
  by_cases hlt : k < l.length
  · have hs : l[k]? = some l[k] := List.getElem?_eq_getElem hlt
    have hw : IntKind.i64.wrap (k + 1) = (k + 1 : Nat) := wrap64 (by omega) (by omega)
    rw [List.drop_eq_getElem_cons hlt, orInt] at hR
    simp [hlt, hs, hw]
    refine ⟨fun h => by simpa [h] using hR, fun h => ?_⟩
    refine Again.plain (k + 1) ⟨hlt, by simpa [h] using hR⟩ (by omega) (by simp)
  · simp at hlt
    have : k = l.length := by omega
    subst this
    simp [orInt] at hR
    simp [← hR]

/-! ### comparing -/
def cmpI (a b : Int) : Int := if a < b then -1 else if a > b then 1 else 0
theorem isNaNI_spec (a : Int) : FSpec Tryz.prog 78 [.int .i64 a] [] (.bool false) [] := by
  refine FSpec.of_flat (q := []) Tryz.func78 (by kernel_rfl) rfl Tryz.ntmps78 Tryz.results78 hP (by kernel_rfl) (by simp) (by first | rfl | simp) ?_
  simp
theorem isNaNU_spec (a : Int) : FSpec Tryz.prog 114 [.int .u64 a] [] (.bool false) [] := by
  refine FSpec.of_flat (q := []) Tryz.func114 (by kernel_rfl) rfl Tryz.ntmps114 Tryz.results114 hP (by kernel_rfl) (by simp) (by first | rfl | simp) ?_
  simp
theorem cmpI_spec (a b : Int) : FSpec Tryz.prog 61 [.int .i64 a, .int .i64 b] [] (.int .i64 (cmpI a b)) [] := by
  refine FSpec.of_flat (q := []) Tryz.func61 (by kernel_rfl) rfl Tryz.ntmps61 Tryz.results61 hP (by kernel_rfl) (by simp) (by first | rfl | simp) ?_
  simp
  refine CallK.same (isNaNI_spec _) rfl rfl ?_
  simp
  refine CallK.same (isNaNI_spec _) rfl rfl ?_
  simp [cmpI]
  refine ⟨fun h h' => by omega, fun h => ⟨fun h' => ?_, fun h' => ?_⟩⟩
  all_goals (repeat' split) <;> omega
theorem cmpU_spec (a b : Int) : FSpec Tryz.prog 109 [.int .u64 a, .int .u64 b] [] (.int .i64 (cmpI a b)) [] := by
  refine FSpec.of_flat (q := []) Tryz.func109 (by kernel_rfl) rfl Tryz.ntmps109 Tryz.results109 hP (by kernel_rfl) (by simp) (by first | rfl | simp) ?_
  simp
  refine CallK.same (isNaNU_spec _) rfl rfl ?_
  simp
  refine CallK.same (isNaNU_spec _) rfl rfl ?_
  simp [cmpI]
  refine ⟨fun h h' => by omega, fun h => ⟨fun h' => ?_, fun h' => ?_⟩⟩
  all_goals (repeat' split) <;> omega

def cmpA (a b : Addr4) : Int := orInt [cmpI a.hi b.hi, cmpI a.lo b.lo]
theorem cmpA_spec (a b : Addr4) : FSpec Tryz.prog 97 [a.av, b.av] [] (.int .i64 (cmpA a b)) [] := by
  refine FSpec.of_flat (q := [(1, .n 9)]) Tryz.func97 (by kernel_rfl) rfl Tryz.ntmps97 Tryz.results97 hP (by kernel_rfl) (by simp) (by first | rfl | simp) ?_
  simp
  refine CallQ.same (cmpU_spec _ _) rfl rfl ?_
  simp
  refine CallK.same (cmpU_spec _ _) rfl rfl ?_
  simp
  refine CallK.fz [2] (orInt_spec [cmpI a.hi b.hi, cmpI a.lo b.lo]) (by simp) (by simp) rfl ?_
  simp [cmpA]
end Go.Am

set_option linter.unusedVariables false
set_option linter.unusedSimpArgs false
namespace Go.Am
open Go.Proofs

/-! ### prefixes -/
def below (n : Int) : Addr4 :=
  if n ≥ 128 then ⟨18446744073709551615, 18446744073709551615⟩
  else if n ≥ 64 then ⟨IntKind.u64.wrap (IntKind.u64.wrap (2 ^ min (n - 64).toNat 64) - 1), 18446744073709551615⟩
  else ⟨0, IntKind.u64.wrap (IntKind.u64.wrap (2 ^ min n.toNat 64) - 1)⟩
theorem below_spec (n : Int) (h0 : 0 ≤ n) : FSpec Tryz.prog 113 [.int .i64 n] [] (below n).av [] := by
  refine FSpec.of_flat (q := []) Tryz.func113 (by kernel_rfl) rfl Tryz.ntmps113 Tryz.results113 hP (by kernel_rfl) (by simp) (by first | rfl | simp) ?_
  simp [below]
  refine ⟨fun h => by simp [h], fun h => ⟨fun h' => ?_, fun h' => ?_⟩⟩
  · have hw : IntKind.i64.wrap (n - 64) = n - 64 := wrap64 (by omega) (by omega)
    simp [show ¬ 128 ≤ n by omega, h', hw]
  · simp [show ¬ 128 ≤ n by omega, show ¬ 64 ≤ n by omega, h0]
def host (p : Pfx) : Addr4 := below (wide p.six - p.len)
theorem wide_le (b : Bool) : 0 ≤ wide b ∧ wide b ≤ 128 := by cases b <;> decide
theorem host_spec (p : Pfx) (h0 : p.len ≤ wide p.six) (h1 : 0 ≤ p.len) : FSpec Tryz.prog 108 [p.av] [] (host p).av [] := by
  have hw : IntKind.i64.wrap (wide p.six - p.len) = wide p.six - p.len := wrap64 (by have := wide_le p.six; omega) (by have := wide_le p.six; omega)
  refine FSpec.of_flat (q := [(1, .n 5)]) Tryz.func108 (by kernel_rfl) rfl Tryz.ntmps108 Tryz.results108 hP (by kernel_rfl) (by simp) (by first | rfl | simp) ?_
  simp
  refine CallQ.same (wide_spec _) rfl rfl ?_
  simp [hw]
  refine CallK.same (below_spec _ (by omega)) rfl rfl ?_
  simp [host]

abbrev and64 := andI .u64
abbrev or64 := orI .u64
def checkP (p : Pfx) : Int :=
  if p.len < 0 || wide p.six < p.len || !rightA p.six p.addr then 2
  else if or64 (and64 p.addr.hi (host p).hi) (and64 p.addr.lo (host p).lo) ≠ 0 then 2 else 0
theorem checkP_spec (p : Pfx) : FSpec Tryz.prog 94 [p.av] [] (.int .i64 (checkP p)) [] := by
  refine FSpec.of_flat (q := [(1, .n 16)]) Tryz.func94 (by kernel_rfl) rfl Tryz.ntmps94 Tryz.results94 hP (by kernel_rfl) (by simp) (by first | rfl | simp) ?_
  simp
  refine CallQG.same _ (wide_spec _) rfl ?_
  simp
  refine CallG.same _ (rightA_spec p.six p.addr) rfl ?_
  simp
  refine ⟨?_, fun h0 h1 h2 => ?_⟩
  · rintro ((h | h) | h) <;> simp [checkP, h]
  · refine CallK.same (host_spec p h1 h0) rfl rfl ?_
    simp [checkP, h2, show ¬ p.len < 0 by omega, show ¬ wide p.six < p.len by omega]
end Go.Am

set_option linter.unusedVariables false
set_option linter.unusedSimpArgs false
namespace Go.Am
open Go.Proofs

/-! ### seats -/
structure Seat where
  router : Int
  seq : Int
  time : Int
  up : Bool
@[simp] def Seat.iv (s : Seat) : List IV := [.sc (.int .i64 s.router), .sc (.int .u64 s.seq), .sc (.int .i64 s.time), .sc (.bool s.up)]
@[simp] def Seat.av (s : Seat) : AV := .agg [.int .i64 s.router, .int .u64 s.seq, .int .i64 s.time, .bool s.up]
def rightS (s : Seat) : Bool := decide (0 ≤ s.router) && decide (s.router ≤ 1048576) && decide (1 ≤ s.seq) && decide (s.seq ≤ 1099511627776) && decide (0 ≤ s.time) && decide (s.time ≤ 1099511627776)
theorem rightS_spec (s : Seat) : FSpec Tryz.prog 55 [s.av] [] (.bool (rightS s)) [] := by
  refine FSpec.of_flat (q := []) Tryz.func55 (by kernel_rfl) rfl Tryz.ntmps55 Tryz.results55 hP (by kernel_rfl) (by simp) (by first | rfl | simp) ?_
  simp [rightS]

def checkSL : List Seat → Int → Int
  | [], _ => 0
  | s :: t, ah => if !rightS s || decide (s.router ≤ ah) then 2 else checkSL t s.router
def checkS (l : List Seat) : Int := if l.length > 64 then 2 else checkSL l (-1)
theorem checkS_spec (l : List Seat) : FSpec Tryz.prog 31 [.im (.sl 4 (l.map Seat.iv))] [] (.int .i64 (checkS l)) [] := by
  refine FSpec.of_flat (q := []) Tryz.func31 (by kernel_rfl) rfl Tryz.ntmps31 Tryz.results31 hP (by kernel_rfl) (by simp) (by first | rfl | simp) ?_
  simp [checkS]
  refine ⟨fun h h' => by omega, fun hle => ?_⟩
  refine LoopK.plain (fun g : Nat × Int => [(3, .int .i64 g.2), (9, .im (.sl 4 (l.map Seat.iv))), (10, .int .i64 l.length), (11, .int .i64 g.1)]) (fun g => g.1 ≤ l.length ∧ checkSL (l.drop g.1) g.2 = checkSL l (-1))
    (fun g => l.length - g.1) (0, -1) (by simp) (by simp) ?_
  rintro ⟨k, ah⟩ ⟨hk, hR⟩
  simp only at hk hR
  by_cases hlt : k < l.length
  · have hs : l[k]? = some l[k] := List.getElem?_eq_getElem hlt
    have hw : IntKind.i64.wrap (k + 1) = (k + 1 : Nat) := wrap64 (by omega) (by omega)
    rw [List.drop_eq_getElem_cons hlt, checkSL] at hR
    simp [hlt, hs, hw]
    refine CallK.same (rightS_spec l[k]) rfl rfl ?_
    simp [hw]
    refine ⟨fun h _ => ?_, fun h h' => ?_⟩
    · rw [← hR, if_pos (by simpa using h)]
    · refine Again.plain (k + 1, l[k].router) ⟨hlt, ?_⟩ (by simp only; omega) (by simp)
      rw [← hR, if_neg (by simp [h]; omega)]
  · simp at hlt
    have : k = l.length := by omega
    subst this
    simp [checkSL] at hR
    simp [← hR]
    omega
end Go.Am

set_option linter.unusedVariables false
set_option linter.unusedSimpArgs false
namespace Go.Am
open Go.Proofs

/-! ### links -/
structure Link where
  iface : Int
  peer : Int
@[simp] def Link.iv (s : Link) : List IV := [.sc (.int .i64 s.iface), .sc (.int .i64 s.peer)]
@[simp] def Link.av (s : Link) : AV := .agg [.int .i64 s.iface, .int .i64 s.peer]
def rightL (s : Link) : Bool := decide (0 ≤ s.iface) && decide (s.iface ≤ 65536) && decide (0 ≤ s.peer) && decide (s.peer ≤ 1048576)
theorem rightL_spec (s : Link) : FSpec Tryz.prog 77 [s.av] [] (.bool (rightL s)) [] := by
  refine FSpec.of_flat (q := []) Tryz.func77 (by kernel_rfl) rfl Tryz.ntmps77 Tryz.results77 hP (by kernel_rfl) (by simp) (by first | rfl | simp) ?_
  simp [rightL]
def idOk (n : Int) : Bool := decide (0 ≤ n) && decide (n ≤ 1048576)
theorem idOk_spec (n : Int) : FSpec Tryz.prog 56 [.int .i64 n] [] (.bool (idOk n)) [] := by
  refine FSpec.of_flat (q := []) Tryz.func56 (by kernel_rfl) rfl Tryz.ntmps56 Tryz.results56 hP (by kernel_rfl) (by simp) (by first | rfl | simp) ?_
  simp [idOk]

def checkLL : List Link → Int → Int
  | [], _ => 0
  | s :: t, ah => if !rightL s || decide (s.iface ≤ ah) then 2 else checkLL t s.iface
def checkL (l : List Link) : Int := if l.length > 32 then 2 else checkLL l (-1)
theorem checkL_spec (l : List Link) : FSpec Tryz.prog 58 [.im (.sl 2 (l.map Link.iv))] [] (.int .i64 (checkL l)) [] := by
  refine FSpec.of_flat (q := []) Tryz.func58 (by kernel_rfl) rfl Tryz.ntmps58 Tryz.results58 hP (by kernel_rfl) (by simp) (by first | rfl | simp) ?_
  simp [checkL]
  refine ⟨fun h h' => by omega, fun hle => ?_⟩
  refine LoopK.plain (fun g : Nat × Int => [(3, .int .i64 g.2), (9, .im (.sl 2 (l.map Link.iv))), (10, .int .i64 l.length), (11, .int .i64 g.1)]) (fun g => g.1 ≤ l.length ∧ checkLL (l.drop g.1) g.2 = checkLL l (-1))
    (fun g => l.length - g.1) (0, -1) (by simp) (by simp) ?_
  rintro ⟨k, ah⟩ ⟨hk, hR⟩
  simp only at hk hR
  by_cases hlt : k < l.length
  · have hs : l[k]? = some l[k] := List.getElem?_eq_getElem hlt
    have hw : IntKind.i64.wrap (k + 1) = (k + 1 : Nat) := wrap64 (by omega) (by omega)
    rw [List.drop_eq_getElem_cons hlt, checkLL] at hR
    simp [hlt, hs, hw]
    refine CallK.same (rightL_spec l[k]) rfl rfl ?_
    simp [hw]
    refine ⟨fun h _ => ?_, fun h h' => ?_⟩
    · rw [← hR, if_pos (by simpa using h)]
    · refine Again.plain (k + 1, l[k].iface) ⟨hlt, ?_⟩ (by simp only; omega) (by simp)
      rw [← hR, if_neg (by simp [h]; omega)]
  · simp at hlt
    have : k = l.length := by omega
    subst this
    simp [checkLL] at hR
    simp [← hR]
    omega
end Go.Am

set_option linter.unusedVariables false
set_option linter.unusedSimpArgs false
namespace Go.Am
open Go.Proofs

def prevL (l : List Link) (k : Nat) : Int := if k = 0 then -1 else ((l[k - 1]?).map Link.iface).getD 0
end Go.Am

set_option linter.unusedVariables false
set_option linter.unusedSimpArgs false
namespace Go.Am
open Go.Proofs

def prevS (l : List Seat) (k : Nat) : Int := if k = 0 then -1 else ((l[k - 1]?).map Seat.router).getD 0
end Go.Am

set_option linter.unusedVariables false
set_option linter.unusedSimpArgs false
namespace Go.Am
open Go.Proofs

/-! ### routers -/
structure Act where
  kind : Int
  iface : Int
structure Route where
  pfx : Pfx
  act : Act
@[simp] def Route.iv (r : Route) : List IV := [.sc (.bool r.pfx.six), .sc (.int .u64 r.pfx.addr.hi), .sc (.int .u64 r.pfx.addr.lo), .sc (.int .i64 r.pfx.len), .sc (.int .u8 r.act.kind), .sc (.int .i64 r.act.iface)]
@[simp] def Route.av (r : Route) : AV := .agg (r.iv.map .im)
structure Router where
  id : Int
  up : Bool
  routes : List Route
  links : List Link
@[simp] def Router.iv (r : Router) : List IV := [.sc (.int .i64 r.id), .sc (.bool r.up), .sl 6 (r.routes.map Route.iv), .sl 2 (r.links.map Link.iv)]
def many : List Router → Int → Int
  | [], n => n
  | r :: l, n => many l (IntKind.i64.wrap (n + IntKind.i64.wrap (r.routes.length + r.links.length)))
theorem total_spec (l : List Router) : FSpec Tryz.prog 32 [.im (.sl 4 (l.map Router.iv))] [] (.int .i64 (many l 0)) [] := by
  refine FSpec.bd (enters_of Tryz.func32 (by kernel_rfl) rfl) fun hbd => ?_
  have hl : l.length ≤ 9223372036854775807 := by simp [maxLen] at hbd; exact hbd.1
  refine FSpec.of_flat (q := []) Tryz.func32 (by kernel_rfl) rfl Tryz.ntmps32 Tryz.results32 hP (by kernel_rfl) (by simp) (by first | rfl | simp) ?_
  simp
  refine LoopK.plain (fun g : Nat × Int => [(3, .int .i64 g.2), (6, .im (.sl 4 (l.map Router.iv))), (7, .int .i64 l.length), (8, .int .i64 g.1)]) (fun g => g.1 ≤ l.length ∧ many (l.drop g.1) g.2 = many l 0)
    (fun g => l.length - g.1) (0, 0) (by simp) (by simp) ?_
  rintro ⟨k, n⟩ ⟨hk, hR⟩
  simp only at hk hR
  by_cases hlt : k < l.length
  · have hs : l[k]? = some l[k] := List.getElem?_eq_getElem hlt
    have hw : IntKind.i64.wrap (k + 1) = (k + 1 : Nat) := wrap64 (by omega) (by omega)
    rw [List.drop_eq_getElem_cons hlt, many] at hR
    simp [hlt, hs, hw]
    exact Again.plain (k + 1, IntKind.i64.wrap (n + IntKind.i64.wrap (l[k].routes.length + l[k].links.length))) ⟨hlt, hR⟩ (by simp only; omega) (by simp)
  · simp at hlt
    have : k = l.length := by omega
    subst this
    simp [many] at hR
    simp [← hR]
end Go.Am

set_option linter.unusedVariables false
set_option linter.unusedSimpArgs false
namespace Go.Am
open Go.Proofs

/-! ### comparing prefixes -/
def kindP (p : Pfx) : Int := if p.six then 1 else 0
theorem kindP_spec (p : Pfx) : FSpec Tryz.prog 96 [p.av] [] (.int .i64 (kindP p)) [] := by
  refine FSpec.of_flat (q := []) Tryz.func96 (by kernel_rfl) rfl Tryz.ntmps96 Tryz.results96 hP (by kernel_rfl) (by simp) (by first | rfl | simp) ?_
  simp [kindP]
def cmpP (p q : Pfx) : Int := orInt [cmpI (kindP p) (kindP q), cmpA p.addr q.addr, cmpI p.len q.len]
theorem cmpP_spec (p q : Pfx) : FSpec Tryz.prog 76 [p.av, q.av] [] (.int .i64 (cmpP p q)) [] := by
  refine FSpec.of_flat (q := [(1, .n 14)]) Tryz.func76 (by kernel_rfl) rfl Tryz.ntmps76 Tryz.results76 hP (by kernel_rfl) (by simp) (by first | rfl | simp) ?_
  simp
  refine CallQ.same (kindP_spec p) rfl rfl ?_
  simp
  refine CallQ.same (kindP_spec q) rfl rfl ?_
  simp
  refine CallQ.same (cmpI_spec _ _) rfl rfl ?_
  simp
  refine CallQ.same (cmpA_spec p.addr q.addr) rfl rfl ?_
  simp
  refine CallK.same (cmpI_spec _ _) rfl rfl ?_
  simp
  refine CallK.fz [2] (orInt_spec [cmpI (kindP p) (kindP q), cmpA p.addr q.addr, cmpI p.len q.len]) (by simp) (by simp) rfl ?_
  simp [cmpP]
end Go.Am

set_option linter.unusedVariables false
set_option linter.unusedSimpArgs false
namespace Go.Am
open Go.Proofs

theorem cmpI_vals (a b : Int) : cmpI a b = -1 ∧ a < b ∨ cmpI a b = 0 ∧ a = b ∨ cmpI a b = 1 ∧ b < a := by unfold cmpI; split <;> (try split) <;> omega
theorem cmpP_lt (p q : Pfx) : (cmpP p q < 0) = (if p.six ≠ q.six then q.six = true else cmpA p.addr q.addr < 0 ∨ cmpA p.addr q.addr = 0 ∧ p.len < q.len) := by
  have h1 := cmpI_vals (kindP p) (kindP q)
  have h3 := cmpI_vals p.len q.len
  simp only [cmpP, orInt]
  generalize cmpA p.addr q.addr = c at *
  generalize cmpI p.len q.len = d at *
  generalize he : cmpI (kindP p) (kindP q) = e at *
  revert h1
  unfold kindP
  cases p.six <;> cases q.six <;> simp <;> intro h1 <;> (repeat' split) <;> omega
end Go.Am

set_option linter.unusedVariables false
set_option linter.unusedSimpArgs false
namespace Go.Am
open Go.Proofs

/-! ### actions -/
@[simp] def Act.av (a : Act) : AV := .agg [.int .u8 a.kind, .int .i64 a.iface]
def ifaceOk (n : Int) : Bool := decide (0 ≤ n) && decide (n ≤ 65536)
theorem ifaceOk_spec (n : Int) : FSpec Tryz.prog 111 [.int .i64 n] [] (.bool (ifaceOk n)) [] := by
  refine FSpec.of_flat (q := []) Tryz.func111 (by kernel_rfl) rfl Tryz.ntmps111 Tryz.results111 hP (by kernel_rfl) (by simp) (by first | rfl | simp) ?_
  simp [ifaceOk]
def actOk (a : Act) : Bool := if a.kind = 1 then ifaceOk a.iface else (a.kind == 2 || a.kind == 3) && a.iface == 0
theorem actOk_spec (a : Act) : FSpec Tryz.prog 106 [a.av] [] (.bool (actOk a)) [] := by
  refine FSpec.of_flat (q := []) Tryz.func106 (by kernel_rfl) rfl Tryz.ntmps106 Tryz.results106 hP (by kernel_rfl) (by simp) (by first | rfl | simp) ?_
  simp
  refine ⟨fun h => ?_, fun h => ?_⟩
  · refine CallK.same (ifaceOk_spec _) rfl rfl ?_
    simp [actOk, h]
  · simp [actOk, h]
    omega
end Go.Am

set_option linter.unusedVariables false
set_option linter.unusedSimpArgs false
set_option pp.deepTerms false
set_option pp.deepTerms.threshold 40
namespace Go.Am
open Go.Proofs

/-! ### addresses as bits -/
def Addr4.wf (a : Addr4) : Prop := 0 ≤ a.hi ∧ a.hi < 18446744073709551616 ∧ 0 ≤ a.lo ∧ a.lo < 18446744073709551616
def Addr4.num (a : Addr4) : Nat := a.hi.toNat * 18446744073709551616 + a.lo.toNat
def wideN (six : Bool) : Nat := if six then 128 else 32
def loK (V k : Nat) : Int := ((V / 2 ^ k % 18446744073709551616 : Nat) : Int)
def hiK (V k : Nat) : Int := ((V / 2 ^ k / 18446744073709551616 : Nat) : Int)
def bitAt (W V j : Nat) : Int := ((V / 2 ^ (W - 1 - j) % 2 : Nat) : Int)
def bitsL (W V k : Nat) : List Int := (List.range W).map fun j => if W ≤ j + k then bitAt W V j else 0
def bitsA (six : Bool) (a : Addr4) : List Int := bitsL (wideN six) a.num (wideN six)
def rowI (l : List Int) : List (List IV) := l.map fun x => [.sc (.int .i64 x)]

theorem bitsL_step (W V k : Nat) (h : k < W) : (bitsL W V k).set (W - 1 - k) (bitAt W V (W - 1 - k)) = bitsL W V (k + 1) := by
  apply List.ext_getElem?
  intro j
  unfold bitsL
  by_cases hj : j < W
  · rw [List.getElem?_set]
    simp only [List.length_map, List.length_range, List.getElem?_map, List.getElem?_range hj, Option.map_some]
    by_cases e : W - 1 - k = j
    · subst e
      rw [if_pos rfl, if_pos (by omega), if_pos (by omega)]
    · rw [if_neg e]
      by_cases h2 : W ≤ j + k
      · rw [if_pos h2, if_pos (by omega)]
      · rw [if_neg h2, if_neg (by omega)]
  · rw [List.getElem?_eq_none (by simp; omega), List.getElem?_eq_none (by simp; omega)]
theorem rowI_modify (l : List Int) (i : Nat) (x : Int) (f : List IV → List IV) (hf : ∀ y, f [y] = [.sc (.int .i64 x)]) : (rowI l).modify i f = rowI (l.set i x) := by
  apply List.ext_getElem?
  intro j
  unfold rowI
  rw [List.getElem?_modify, List.getElem?_map, List.getElem?_map, List.getElem?_set]
  by_cases e : i = j
  · subst e
    cases h : l[i]? with
    | none => simp; have := List.getElem?_eq_none_iff.1 h; omega
    | some y => simp [hf]; have := (List.getElem?_eq_some_iff.1 h).1; omega
  · simp [e]
@[simp] theorem rowI_length (l : List Int) : (rowI l).length = l.length := by simp [rowI]
@[simp] theorem bitsL_length (W V k : Nat) : (bitsL W V k).length = W := by simp [bitsL]
theorem bit_eq (W V k : Nat) (h : k < W) : IntKind.i64.wrap ((loK V k).tmod 2) = bitAt W V (W - 1 - k) := by
  unfold loK bitAt
  rw [show W - 1 - (W - 1 - k) = k by omega]
  generalize V / 2 ^ k = x
  rw [Int.tmod_eq_emod_of_nonneg (by omega)]
  rw [wrap64 (by omega) (by omega)]
  omega
theorem wrapU {x : Int} (h0 : 0 ≤ x) (h1 : x < 18446744073709551616) : IntKind.u64.wrap x = x := by
  simp [IntKind.wrap, IntKind.signed, IntKind.bits]
  omega
theorem hi_step (V k : Nat) (hV : V < 340282366920938463463374607431768211456) : IntKind.u64.wrap ((hiK V k).tdiv 2) = hiK V (k + 1) := by
  unfold hiK
  have : V / 2 ^ (k + 1) = V / 2 ^ k / 2 := by rw [Nat.pow_succ, Nat.div_div_eq_div_mul]
  rw [this]
  have hx : V / 2 ^ k ≤ V := Nat.div_le_self _ _
  generalize V / 2 ^ k = x at *
  rw [Int.tdiv_eq_ediv_of_nonneg (by omega), wrapU (by omega) (by omega)]
  omega
theorem lo_step (V k : Nat) (hV : V < 340282366920938463463374607431768211456) : IntKind.u64.wrap (IntKind.u64.wrap ((loK V k).tdiv 2) + IntKind.u64.wrap ((hiK V k).tmod 2 * 9223372036854775808)) = loK V (k + 1) := by
  unfold hiK loK
  have : V / 2 ^ (k + 1) = V / 2 ^ k / 2 := by rw [Nat.pow_succ, Nat.div_div_eq_div_mul]
  rw [this]
  have hx : V / 2 ^ k ≤ V := Nat.div_le_self _ _
  generalize V / 2 ^ k = x at *
  rw [Int.tdiv_eq_ediv_of_nonneg (by omega), Int.tmod_eq_emod_of_nonneg (by omega), wrapU (x := ((x % 18446744073709551616 : Nat) : Int) / 2) (by omega) (by omega), wrapU (x := ((x / 18446744073709551616 : Nat) : Int) % 2 * 9223372036854775808) (by omega) (by omega), wrapU (by omega) (by omega)]
  omega
theorem rowI_replicate (n : Nat) : List.replicate n ([Value.int .i64 0].map IV.sc) = rowI (List.replicate n 0) := by simp [rowI]
theorem bitsL_zero (W V : Nat) : bitsL W V 0 = List.replicate W 0 := by
  apply List.ext_getElem?
  intro j
  unfold bitsL
  by_cases hj : j < W
  · simp [hj]; omega
  · rw [List.getElem?_eq_none (by simp; omega), List.getElem?_eq_none (by simp; omega)]

theorem wide_N (six : Bool) : wide six = wideN six := by cases six <;> rfl
/-! ### what is behind a prefix -/
theorem low_bits : ∀ (n V : Nat), V % 2 ^ n = 0 ↔ ∀ i, i < n → V / 2 ^ i % 2 = 0
  | 0, V => by simp [Nat.mod_one]
  | n + 1, V => by
    have ih := low_bits n V
    have e : V % 2 ^ (n + 1) = V % 2 ^ n + 2 ^ n * (V / 2 ^ n % 2) := by rw [Nat.pow_succ]; exact Nat.mod_mul
    have hp : 0 < 2 ^ n := Nat.two_pow_pos n
    constructor
    · intro h i hi
      have h1 : V % 2 ^ n = 0 := by omega
      have h2 : V / 2 ^ n % 2 = 0 := by
        have : 2 ^ n * (V / 2 ^ n % 2) = 0 := by omega
        rcases Nat.mul_eq_zero.1 this with h | h <;> omega
      rcases Nat.lt_or_ge i n with h3 | h3
      · exact ih.1 h1 i h3
      · have : i = n := by omega
        subst this; exact h2
    · intro h
      have h1 := ih.2 fun i hi => h i (by omega)
      have h2 := h n (by omega)
      rw [e, h1, h2]; simp
theorem and_mask (x : Int) (n : Nat) (h0 : 0 ≤ x) (h1 : x < 18446744073709551616) (hn : n ≤ 64) : and64 x (2 ^ n - 1) = ((x.toNat % 2 ^ n : Nat) : Int) := by
  have hp : 0 < 2 ^ n := Nat.two_pow_pos n
  have hle : 2 ^ n ≤ 2 ^ 64 := Nat.pow_le_pow_right (by omega) hn
  have h64 : (2 : Nat) ^ 64 = 18446744073709551616 := by decide
  have hcast : ((2 : Int) ^ n) = ((2 ^ n : Nat) : Int) := by simp
  unfold and64 andI
  rw [hcast]
  have e1 : (BitVec.ofInt 64 x).toNat = x.toNat := by rw [BitVec.toNat_ofInt]; simp; omega
  have e2 : (BitVec.ofInt 64 (((2 ^ n : Nat) : Int) - 1)).toNat = 2 ^ n - 1 := by
    rw [BitVec.toNat_ofInt, Int.emod_eq_of_lt (by omega) (by rw [h64]; rw [h64] at hle; omega)]; omega
  show IntKind.u64.wrap (((BitVec.ofInt 64 x &&& BitVec.ofInt 64 (((2 ^ n : Nat) : Int) - 1)).toNat : Nat) : Int) = _
  rw [BitVec.toNat_and, e1, e2, Nat.and_two_pow_sub_one_eq_mod]
  have := Nat.mod_lt x.toNat hp
  rw [wrapU (by omega) (by rw [h64] at hle; omega)]
theorem or_zero (x y : Int) (h0 : 0 ≤ x) (h1 : x < 18446744073709551616) (h2 : 0 ≤ y) (h3 : y < 18446744073709551616) : or64 x y = 0 ↔ x = 0 ∧ y = 0 := by
  unfold or64 orI
  have e1 : (BitVec.ofInt 64 x).toNat = x.toNat := by rw [BitVec.toNat_ofInt]; simp; omega
  have e2 : (BitVec.ofInt 64 y).toNat = y.toNat := by rw [BitVec.toNat_ofInt]; simp; omega
  show IntKind.u64.wrap (((BitVec.ofInt 64 x ||| BitVec.ofInt 64 y).toNat : Nat) : Int) = 0 ↔ _
  have hb := (BitVec.ofInt 64 x ||| BitVec.ofInt 64 y).isLt
  rw [wrapU (by omega) (by omega), BitVec.toNat_or, e1, e2]
  constructor
  · intro h
    have h : x.toNat ||| y.toNat = 0 := by omega
    have := Nat.or_eq_zero_iff.1 h
    omega
  · rintro ⟨rfl, rfl⟩; rfl
theorem host_zero (p : Pfx) (hw : p.addr.wf) (h0 : 0 ≤ p.len) (h1 : p.len ≤ wide p.six) (hr : rightA p.six p.addr = true) :
    or64 (and64 p.addr.hi (host p).hi) (and64 p.addr.lo (host p).lo) = 0 ↔ p.addr.num % 2 ^ (wideN p.six - p.len.toNat) = 0 := by
  obtain ⟨a1, a2, a3, a4⟩ := hw
  rw [wide_N] at h1
  have hn : p.addr.num = p.addr.hi.toNat * 18446744073709551616 + p.addr.lo.toNat := rfl
  have hW : wideN p.six ≤ 128 := by cases p.six <;> decide
  obtain ⟨n, hnn⟩ : ∃ n, n = wideN p.six - p.len.toNat := ⟨_, rfl⟩
  have hn128 : n ≤ 128 := by omega
  have hhost : host p = ⟨2 ^ (n - 64) - 1, 2 ^ min n 64 - 1⟩ := by
    unfold host below
    rw [wide_N, show (wideN p.six : Int) - p.len = n by omega]
    by_cases c1 : (n : Int) ≥ 128
    · have : n = 128 := by omega
      subst this; rfl
    · rw [if_neg c1]
      by_cases c2 : (n : Int) ≥ 64
      · rw [if_pos c2]
        have e : min ((n : Int) - 64).toNat 64 = n - 64 := by omega
        have hp : (2 : Nat) ^ (n - 64) < 2 ^ 64 := Nat.pow_lt_pow_right (by omega) (by omega)
        have hp0 : 0 < 2 ^ (n - 64) := Nat.two_pow_pos _
        have h64 : (2 : Nat) ^ 64 = 18446744073709551616 := by decide
        have hcast : ((2 : Int) ^ (n - 64)) = ((2 ^ (n - 64) : Nat) : Int) := by simp
        rw [e, hcast, wrapU (x := ((2 ^ (n - 64) : Nat) : Int)) (by omega) (by omega), wrapU (by omega) (by omega), show min n 64 = 64 by omega]
        rfl
      · rw [if_neg c2]
        have e : min (n : Int).toNat 64 = n := by omega
        have hp : (2 : Nat) ^ n < 2 ^ 64 := Nat.pow_lt_pow_right (by omega) (by omega)
        have hp0 : 0 < 2 ^ n := Nat.two_pow_pos _
        have h64 : (2 : Nat) ^ 64 = 18446744073709551616 := by decide
        have hcast : ((2 : Int) ^ n) = ((2 ^ n : Nat) : Int) := by simp
        rw [e, hcast, wrapU (x := ((2 ^ n : Nat) : Int)) (by omega) (by omega), wrapU (by omega) (by omega), show min n 64 = n by omega, show n - 64 = 0 by omega]
        rfl
  rw [hhost, ← hnn]
  simp only
  rw [and_mask _ _ a1 a2 (by omega), and_mask _ _ a3 a4 (by omega)]
  have m1 := Nat.mod_le p.addr.hi.toNat (2 ^ (n - 64))
  have m2 := Nat.mod_le p.addr.lo.toNat (2 ^ min n 64)
  rw [or_zero _ _ (by omega) (by omega) (by omega) (by omega), hn]
  by_cases c : n ≤ 64
  · rw [show n - 64 = 0 by omega, show min n 64 = n by omega]
    have hd : (2 : Nat) ^ 64 = 2 ^ n * 2 ^ (64 - n) := by rw [← Nat.pow_add]; congr 1; omega
    have h64 : (2 : Nat) ^ 64 = 18446744073709551616 := by decide
    have : (p.addr.hi.toNat * 18446744073709551616 + p.addr.lo.toNat) % 2 ^ n = p.addr.lo.toNat % 2 ^ n := by
      rw [← h64, hd, show p.addr.hi.toNat * (2 ^ n * 2 ^ (64 - n)) = 2 ^ n * (p.addr.hi.toNat * 2 ^ (64 - n)) by rw [Nat.mul_left_comm]]
      exact Nat.mul_add_mod _ _ _
    rw [this, show p.addr.hi.toNat % 2 ^ 0 = 0 from Nat.mod_one _]
    omega
  · rw [show min n 64 = 64 by omega]
    have h64 : (2 : Nat) ^ 64 = 18446744073709551616 := by decide
    have hd : (2 : Nat) ^ n = 18446744073709551616 * 2 ^ (n - 64) := by rw [← h64, ← Nat.pow_add]; congr 1; omega
    rw [hd, Nat.mod_mul, h64]
    rw [show (p.addr.hi.toNat * 18446744073709551616 + p.addr.lo.toNat) % 18446744073709551616 = p.addr.lo.toNat by omega, show (p.addr.hi.toNat * 18446744073709551616 + p.addr.lo.toNat) / 18446744073709551616 = p.addr.hi.toNat by omega]
    omega
theorem bits_zero (p : Pfx) (h0 : 0 ≤ p.len) : (∃ j, j < wideN p.six ∧ p.len ≤ (j : Int) ∧ bitAt (wideN p.six) p.addr.num j ≠ 0) ↔ p.addr.num % 2 ^ (wideN p.six - p.len.toNat) ≠ 0 := by
  rw [Ne, low_bits]
  constructor
  · rintro ⟨j, h1, h2, h3⟩ h4
    refine h3 ?_
    unfold bitAt
    rw [h4 _ (by omega)]; rfl
  · intro h
    have : ∃ i, i < wideN p.six - p.len.toNat ∧ p.addr.num / 2 ^ i % 2 ≠ 0 := by
      apply Classical.byContradiction
      intro hc
      exact h fun i hi => Classical.byContradiction fun hc2 => hc ⟨i, hi, hc2⟩
    obtain ⟨i, hi, h1⟩ := this
    refine ⟨wideN p.six - 1 - i, by omega, by omega, ?_⟩
    unfold bitAt
    rw [show wideN p.six - 1 - (wideN p.six - 1 - i) = i by omega]
    omega
theorem bitsA_get (six : Bool) (a : Addr4) (k : Nat) (h : k < wideN six) : (bitsA six a)[k]? = some (bitAt (wideN six) a.num k) := by
  unfold bitsA bitsL
  rw [List.getElem?_map, List.getElem?_range h]
  simp
@[simp] theorem bitsA_length (six : Bool) (a : Addr4) : (bitsA six a).length = wideN six := by simp [bitsA]
@[simp] theorem rowI_getElem (l : List Int) (k : Nat) (h : k < (rowI l).length) : (rowI l)[k] = [.sc (.int .i64 (l[k]'(by simpa using h)))] := by simp [rowI]
@[simp] theorem bitsA_getElem (six : Bool) (a : Addr4) (k : Nat) (h : k < (bitsA six a).length) : (bitsA six a)[k] = bitAt (wideN six) a.num k := by
  have := bitsA_get six a k (by simpa using h)
  rw [List.getElem?_eq_getElem h] at this
  exact Option.some.inj this
theorem rowI_get (l : List Int) (k : Nat) (x : Int) (h : l[k]? = some x) : (rowI l)[k]? = some [.sc (.int .i64 x)] := by simp [rowI, h]
end Go.Am

set_option linter.unusedVariables false
set_option linter.unusedSimpArgs false
set_option pp.deepTerms false
set_option pp.deepTerms.threshold 40
namespace Go.Am
open Go.Proofs

/-! ### a number's bytes -/
def moreB (n : Int) : Int := orI .u8 (IntKind.u8.wrap n) 128
def addL : Nat → Int → List Int
  | 0, n => [IntKind.u8.wrap n]
  | f + 1, n => if 128 ≤ n then moreB n :: addL f (n.fdiv 128) else [IntKind.u8.wrap n]
def rowB (l : List Int) : List (List IV) := l.map fun x => [.sc (.int .u8 x)]
@[simp] theorem rowB_append (l m : List Int) : rowB l ++ rowB m = rowB (l ++ m) := by simp [rowB]
@[simp] theorem rowB_length (l : List Int) : (rowB l).length = l.length := by simp [rowB]
theorem rowB_one (x : Int) : [[IV.sc (.int .u8 x)]] = rowB [x] := rfl
@[simp] theorem bytesOf_rowB (l : List Int) : bytesOf (rowB l) = some l := by
  induction l with
  | nil => rfl
  | cons x l ih => simp only [rowB, List.map_cons, bytesOf] at ih ⊢; rw [ih]; rfl

theorem addN_spec (l : List Int) (n : Int) (h0 : 0 ≤ n) (h1 : n ≤ 65536) (hl : l.length ≤ 1000) :
    FSpec Tryz.prog 112 [.row 0, .int .u64 n] [.row 5 1 (rowB l)] (.row 1) [.gone, .row 5 1 (rowB (l ++ addL n.toNat n))] := by
  refine FSpec.of_o (q := []) Tryz.func112 (by kernel_rfl) rfl Tryz.ntmps112 Tryz.results112 hP (by kernel_rfl) (by simp) (by first | rfl | simp) ?_
  simp
  refine LoopK.os (fun g : Bool × List Int × Int × Nat => [(0, if g.1 then .row 1 else .row 0), (1, .int .u64 g.2.2.1)])
    (fun g => if g.1 then [.gone, .row 5 1 (rowB g.2.1)] else [.row 5 1 (rowB g.2.1)])
    (fun g => 0 ≤ g.2.2.1 ∧ (g.2.1.length : Int) + g.2.2.1 ≤ 66536 ∧ g.2.2.1 ≤ g.2.2.2 ∧ g.2.1 ++ addL g.2.2.2 g.2.2.1 = l ++ addL n.toNat n) (fun g => g.2.2.1.toNat) (false, l, n, n.toNat) [0]
    ⟨h0, by simp only; omega, by simp only; omega, rfl⟩ (by simp) ?_
  rintro ⟨b, l', n', f⟩ ⟨a1, a2, a3, a4⟩
  simp only at a1 a2 a3 a4
  cases b
  all_goals
    have hfd : n'.fdiv 128 = n' / 128 := Int.fdiv_eq_ediv_of_nonneg _ (by omega)
    have hone : ∀ x, rowB l' ++ [[IV.sc (.int .u8 x)]] = rowB (l' ++ [x]) := fun x => by simp [rowB]
    simp [hone]
    refine ⟨fun hge => ⟨⟨by omega, by unfold maxLen; omega⟩, ?_⟩, fun hlt => ⟨⟨by omega, by unfold maxLen; omega⟩, ?_⟩⟩
    · cases f with
      | zero => omega
      | succ f =>
        rw [addL, if_pos hge] at a4
        have h5 : 0 ≤ (l' ++ [moreB n'], n'.fdiv 128, f).2.1 := by simp only [hfd]; omega
        have h6 : ((l' ++ [moreB n']).length : Int) + n'.fdiv 128 ≤ 66536 := by simp [hfd]; omega
        have h7 : n'.fdiv 128 ≤ (f : Int) := by rw [hfd]; omega
        have h8 : (l' ++ [moreB n']) ++ addL f (n'.fdiv 128) = l ++ addL n.toNat n := by simpa using a4
        have h9 : (n'.fdiv 128).toNat < n'.toNat := by rw [hfd]; omega
        first
          | (refine Again.os (true, l' ++ [moreB n'], n'.fdiv 128, f) [0, 2] ⟨h5, h6, h7, h8⟩ h9 ?_; simp [moreB]; done)
          | exact Again.os (true, l' ++ [moreB n'], n'.fdiv 128, f) [0, 3] ⟨h5, h6, h7, h8⟩ h9 (by simp [moreB])
    · have h5 : addL f n' = [IntKind.u8.wrap n'] := by cases f <;> simp [addL]; omega
      rw [h5] at a4
      rw [← a4]
      first
        | exact EndO.ret [] [0, 2] (.row 2) rfl (by simp)
        | exact EndO.ret [] [0, 3] (.row 3) rfl (by simp)

/-! ### actions' bytes -/
theorem action_spec (a : Act) (h : actOk a = true) : ∃ l, FSpec Tryz.prog 107 [.im (.sc (.slice none 0 0)), a.av] [] (.im (.sl 1 (rowB l))) [] := by
  by_cases hk : a.kind = 1
  · have hi : 0 ≤ a.iface ∧ a.iface ≤ 65536 := by simpa [actOk, hk, ifaceOk] using h
    have hw : IntKind.u64.wrap a.iface = a.iface := wrapU (by omega) (by omega)
    refine ⟨[a.kind] ++ addL a.iface.toNat a.iface, ?_⟩
    refine FSpec.of_z (q := []) Tryz.func107 (by kernel_rfl) rfl Tryz.ntmps107 Tryz.results107 hP (by kernel_rfl) (by simp) (by first | rfl | simp) ?_
    simp [hk, hw]
    refine ⟨by unfold maxLen; omega, ?_⟩
    refine CallO.mk [] [2] (addN_spec [1] a.iface hi.1 hi.2 (by simp)) (by simp) rfl (by simp) (by simp [rowB]) (by simp) ?_
    simp
    refine EndZ.ret [3] _ rfl ?_
    simp
  · refine ⟨[a.kind], ?_⟩
    refine FSpec.of_z (q := []) Tryz.func107 (by kernel_rfl) rfl Tryz.ntmps107 Tryz.results107 hP (by kernel_rfl) (by simp) (by first | rfl | simp) ?_
    simp [hk]
    refine ⟨by unfold maxLen; omega, ?_⟩
    refine EndZ.ret [2] _ rfl ?_
    simp [rowB]
theorem putAction_spec (a : Act) : ∃ s, FSpec Tryz.prog 93 [a.av] [] (.tup [.im (.sc (.string s)), .int .i64 (if actOk a then 0 else 2)]) [] := by
  cases h : actOk a with
  | false =>
    refine ⟨ByteArray.empty, ?_⟩
    refine FSpec.of_flat (q := []) Tryz.func93 (by kernel_rfl) rfl Tryz.ntmps93 Tryz.results93 hP (by kernel_rfl) (by simp) (by first | rfl | simp) ?_
    simp
    first | refine CallK.same (actOk_spec a) rfl rfl ?_ | refine CallQ.same (actOk_spec a) rfl rfl ?_ | refine CallQG.same _ (actOk_spec a) rfl ?_ | refine CallG.same _ (actOk_spec a) rfl ?_ | refine CallK.pv (actOk_spec a) rfl rfl ?_
    simp [h]
    rfl
  | true =>
    obtain ⟨l, hl⟩ := action_spec a h
    refine ⟨l.foldl (fun r n => r.push (UInt8.ofNat n.toNat)) ByteArray.empty, ?_⟩
    refine FSpec.of_flat (q := []) Tryz.func93 (by kernel_rfl) rfl Tryz.ntmps93 Tryz.results93 hP (by kernel_rfl) (by simp) (by first | rfl | simp) ?_
    simp
    first | refine CallK.same (actOk_spec a) rfl rfl ?_ | refine CallQ.same (actOk_spec a) rfl rfl ?_ | refine CallQG.same _ (actOk_spec a) rfl ?_ | refine CallG.same _ (actOk_spec a) rfl ?_ | refine CallK.pv (actOk_spec a) rfl rfl ?_
    simp [h]
    refine CallK.pv hl rfl rfl ?_
    simp

/-! ### routes -/
def routeOk (r : Route) : Bool := actOk r.act && checkP r.pfx == 0
theorem routeOk_spec (r : Route) : FSpec Tryz.prog 75 [r.av] [] (.bool (routeOk r)) [] := by
  obtain ⟨s, hs⟩ := putAction_spec r.act
  refine FSpec.of_flat (q := []) Tryz.func75 (by kernel_rfl) rfl Tryz.ntmps75 Tryz.results75 hP (by kernel_rfl) (by simp) (by first | rfl | simp) ?_
  simp
  refine CallK.pv hs rfl rfl ?_
  simp
  cases h : actOk r.act with
  | false =>
    simp
    first | refine CallK.same (checkP_spec r.pfx) rfl rfl ?_ | refine CallQ.same (checkP_spec r.pfx) rfl rfl ?_ | refine CallQG.same _ (checkP_spec r.pfx) rfl ?_ | refine CallG.same _ (checkP_spec r.pfx) rfl ?_ | refine CallK.pv (checkP_spec r.pfx) rfl rfl ?_
    simp [routeOk, h]
  | true =>
    simp
    first | refine CallK.same (checkP_spec r.pfx) rfl rfl ?_ | refine CallQ.same (checkP_spec r.pfx) rfl rfl ?_ | refine CallQG.same _ (checkP_spec r.pfx) rfl ?_ | refine CallG.same _ (checkP_spec r.pfx) rfl ?_ | refine CallK.pv (checkP_spec r.pfx) rfl rfl ?_
    simp [routeOk, h]
end Go.Am

set_option linter.unusedVariables false
set_option linter.unusedSimpArgs false
set_option pp.deepTerms false
set_option pp.deepTerms.threshold 40
namespace Go.Am
open Go.Proofs

/-! ### routes in order -/
def aheadR (pv : Option Pfx) (r : Route) : Bool := match pv with | none => true | some p => decide (cmpP p r.pfx < 0)
def checkRL : List Route → Option Pfx → Int
  | [], _ => 0
  | r :: t, pv => if !routeOk r || !aheadR pv r then 2 else checkRL t (some r.pfx)
def checkR (l : List Route) : Int := if l.length > 256 then 2 else checkRL l none
def prevR (l : List Route) (k : Nat) : Option Pfx := if k = 0 then none else (l[k - 1]?).map Route.pfx
set_option maxRecDepth 4000 in
theorem checkR_spec (l : List Route) : FSpec Tryz.prog 57 [.im (.sl 6 (l.map Route.iv))] [] (.int .i64 (checkR l)) [] := by
  refine FSpec.of_flat (q := [(6, .n 15)]) Tryz.func57 (by kernel_rfl) rfl Tryz.ntmps57 Tryz.results57 hP (by kernel_rfl) (by simp) (by first | rfl | simp) ?_
  simp [checkR]
  refine ⟨fun h h' => by omega, fun hle => ?_⟩
  refine LoopK.plain (fun k : Nat => [(0, .im (.sl 6 (l.map Route.iv))), (8, .im (.sl 6 (l.map Route.iv))), (9, .int .i64 l.length), (10, .int .i64 k)]) (fun k => k ≤ l.length ∧ checkRL (l.drop k) (prevR l k) = checkRL l none)
    (fun k => l.length - k) 0 (by simp [prevR]) (by simp) ?_
  rintro k ⟨hk, hR⟩
  by_cases hlt : k < l.length
  · have hs : l[k]? = some l[k] := List.getElem?_eq_getElem hlt
    have hw : IntKind.i64.wrap (k + 1) = (k + 1 : Nat) := wrap64 (by omega) (by omega)
    have hw1 : IntKind.i64.wrap (k - 1) = (k : Int) - 1 := wrap64 (by omega) (by omega)
    rw [List.drop_eq_getElem_cons hlt, checkRL] at hR
    simp [hlt, hs, hw]
    first | refine CallK.same (routeOk_spec l[k]) rfl rfl ?_ | refine CallQ.same (routeOk_spec l[k]) rfl rfl ?_ | refine CallQG.same _ (routeOk_spec l[k]) rfl ?_ | refine CallG.same _ (routeOk_spec l[k]) rfl ?_ | refine CallK.pv (routeOk_spec l[k]) rfl rfl ?_
    obtain ⟨y, hy, hp⟩ : ∃ y, l[k - 1]? = some y ∧ (0 < k → prevR l k = some y.pfx) := by
      refine ⟨l[k - 1]'(by omega), List.getElem?_eq_getElem (by omega), fun h => ?_⟩
      simp [prevR, show k ≠ 0 by omega, List.getElem?_eq_getElem (show k - 1 < l.length by omega)]
    have hp0 : k = 0 → prevR l k = none := by intro h; simp [prevR, h]
    simp [hw, hw1, hy]
    refine ⟨fun _ _ => ⟨by omega, by omega⟩, ?_⟩
    first | refine CallK.same (cmpP_spec y.pfx l[k].pfx) rfl rfl ?_ | refine CallQ.same (cmpP_spec y.pfx l[k].pfx) rfl rfl ?_ | refine CallQG.same _ (cmpP_spec y.pfx l[k].pfx) rfl ?_ | refine CallG.same _ (cmpP_spec y.pfx l[k].pfx) rfl ?_ | refine CallK.pv (cmpP_spec y.pfx l[k].pfx) rfl rfl ?_
    have hah : aheadR (prevR l k) l[k] = (decide (k = 0) || decide (cmpP y.pfx l[k].pfx < 0)) := by
      rcases Nat.eq_zero_or_pos k with e | e
      · rw [hp0 e]; simp [aheadR, e]
      · rw [hp e]; simp [aheadR, show k ≠ 0 by omega]
    simp [hw, hw1, hy]
    cases h1 : routeOk l[k] with
    | false =>
      simp [h1] at hR
      simp [← hR]
    | true =>
      rcases Nat.eq_zero_or_pos k with e | e
      · subst e
        simp
        refine Again.plain 1 ⟨by omega, ?_⟩ (by omega) (by simp)
        rw [hah] at hR
        simpa [h1, prevR, hs] using hR
      · have e0 : k ≠ 0 := by omega
        simp [e, impB]
        refine ⟨fun h2 => ?_, fun h2 => ?_⟩
        · rw [hah] at hR
          rw [← hR, if_pos (by simp [h1, e0]; omega)]
          omega
        · refine Again.plain (k + 1) ⟨hlt, ?_⟩ (by omega) (by simp)
          rw [hah] at hR
          rw [← hR, if_neg (by simp [h1, e0]; omega)]
          simp [prevR, hs]
  · have : k = l.length := by omega
    subst this
    simp [checkRL] at hR
    simp [← hR]
    omega

end Go.Am

set_option linter.unusedVariables false
set_option linter.unusedSimpArgs false
set_option pp.deepTerms false
set_option pp.deepTerms.threshold 40
namespace Go.Am
open Go.Proofs

/-! ### routers -/
@[simp] def Router.av (r : Router) : AV := .agg [.int .i64 r.id, .bool r.up, .im (.sl 6 (r.routes.map Route.iv)), .im (.sl 2 (r.links.map Link.iv))]
def routerOk (r : Router) : Bool := idOk r.id && (r.up || (r.routes.isEmpty && r.links.isEmpty)) && checkR r.routes == 0 && checkL r.links == 0
def Router.wf (r : Router) : Prop := ∀ x ∈ r.routes, x.pfx.addr.wf
theorem checkR_len {l : List Route} (h : checkR l = 0) : l.length ≤ 256 := by
  unfold checkR at h
  split at h
  · cases h
  · omega
theorem checkL_len {l : List Link} (h : checkL l = 0) : l.length ≤ 32 := by
  unfold checkL at h
  split at h
  · cases h
  · omega
theorem up_sum (r : Router) (hu : r.up = false) (h : 0 < IntKind.i64.wrap ((r.routes.length : Int) + r.links.length)) : routerOk r = false := by
  unfold routerOk
  have : ¬ (r.routes.isEmpty = true ∧ r.links.isEmpty = true) := by
    rintro ⟨h1, h2⟩
    rw [List.isEmpty_iff] at h1 h2
    rw [h1, h2] at h
    simp [IntKind.wrap, IntKind.bits, IntKind.signed] at h
  cases h1 : r.routes.isEmpty <;> cases h2 : r.links.isEmpty <;> simp_all
theorem up_sum0 (r : Router) (hu : r.up = false → IntKind.i64.wrap ((r.routes.length : Int) + r.links.length) ≤ 0) (hi : idOk r.id = true) (hr : checkR r.routes = 0) (hl : checkL r.links = 0) : routerOk r = true := by
  have h1 := checkR_len hr
  have h2 := checkL_len hl
  rw [wrap64 (by omega) (by omega)] at hu
  unfold routerOk
  simp only [hi, hr, hl, Bool.true_and, beq_self_eq_true, Bool.and_true]
  cases hup : r.up with
  | true => rfl
  | false =>
    have := hu hup
    have e1 : r.routes = [] := List.eq_nil_of_length_eq_zero (by omega)
    have e2 : r.links = [] := List.eq_nil_of_length_eq_zero (by omega)
    simp [e1, e2]
theorem checkF_spec (r : Router) : FSpec Tryz.prog 33 [r.av] [] (.int .i64 (if routerOk r then 0 else 2)) [] := by
  refine FSpec.of_flat (q := []) Tryz.func33 (by kernel_rfl) rfl Tryz.ntmps33 Tryz.results33 hP (by kernel_rfl) (by simp) (by first | rfl | simp) ?_
  simp
  first | refine CallK.same (idOk_spec r.id) rfl rfl ?_ | refine CallQ.same (idOk_spec r.id) rfl rfl ?_ | refine CallQG.same _ (idOk_spec r.id) rfl ?_ | refine CallG.same _ (idOk_spec r.id) rfl ?_ | refine CallK.pv (idOk_spec r.id) rfl rfl ?_
  simp
  refine ⟨fun h => by simp [h], ?_, fun hi hu => ?_⟩
  · rintro (h | ⟨h1, h2⟩)
    · simp [routerOk, h]
    · exact up_sum r h1 h2
  first | refine CallK.same (checkR_spec r.routes) rfl rfl ?_ | refine CallQ.same (checkR_spec r.routes) rfl rfl ?_ | refine CallQG.same _ (checkR_spec r.routes) rfl ?_ | refine CallG.same _ (checkR_spec r.routes) rfl ?_ | refine CallK.pv (checkR_spec r.routes) rfl rfl ?_
  simp
  first | refine CallK.same (checkL_spec r.links) rfl rfl ?_ | refine CallQ.same (checkL_spec r.links) rfl rfl ?_ | refine CallQG.same _ (checkL_spec r.links) rfl ?_ | refine CallG.same _ (checkL_spec r.links) rfl ?_ | refine CallK.pv (checkL_spec r.links) rfl rfl ?_
  simp
  refine ⟨fun h => ?_, fun h1 h2 => up_sum0 r hu hi h1 h2⟩
  simp [routerOk]
  intro _ _ h1
  simpa [h1] using h
end Go.Am

set_option linter.unusedVariables false
set_option linter.unusedSimpArgs false
set_option pp.deepTerms false
set_option pp.deepTerms.threshold 40
namespace Go.Am
open Go.Proofs

/-! ### nets -/
structure Net where
  seats : List Seat
  routers : List Router
@[simp] def Net.av (n : Net) : AV := .agg [.im (.sl 4 (n.seats.map Seat.iv)), .im (.sl 4 (n.routers.map Router.iv))]
def Net.wf (n : Net) : Prop := ∀ r ∈ n.routers, r.wf
def zipOk : List Router → List Seat → Bool
  | [], [] => true
  | r :: l, s :: t => routerOk r && r.id == s.router && r.up == s.up && zipOk l t
  | _, _ => false
def netOk (n : Net) : Bool := checkS n.seats == 0 && n.routers.length == n.seats.length && zipOk n.routers n.seats && decide (many n.routers 0 ≤ 1024)
theorem checkS_len {l : List Seat} (h : checkS l = 0) : l.length ≤ 64 := by
  unfold checkS at h
  split at h
  · cases h
  · omega
theorem checkN_spec (n : Net) : FSpec Tryz.prog 21 [n.av] [] (.int .i64 (if netOk n then 0 else 2)) [] := by
  refine FSpec.of_flat (q := []) Tryz.func21 (by kernel_rfl) rfl Tryz.ntmps21 Tryz.results21 hP (by kernel_rfl) (by simp) (by first | rfl | simp) ?_
  simp
  first | refine CallK.same (checkS_spec n.seats) rfl rfl ?_ | refine CallQ.same (checkS_spec n.seats) rfl rfl ?_ | refine CallQG.same _ (checkS_spec n.seats) rfl ?_ | refine CallG.same _ (checkS_spec n.seats) rfl ?_ | refine CallK.pv (checkS_spec n.seats) rfl rfl ?_
  simp
  first | refine CallK.same (total_spec n.routers) rfl rfl ?_ | refine CallQ.same (total_spec n.routers) rfl rfl ?_ | refine CallQG.same _ (total_spec n.routers) rfl ?_ | refine CallG.same _ (total_spec n.routers) rfl ?_ | refine CallK.pv (total_spec n.routers) rfl rfl ?_
  simp
  refine ⟨?_, fun h1 h2 h3 => ?_⟩
  · rintro ((h | h) | h)
    · simp [netOk, h]
    · simp [netOk]; intro _ _; omega
    · simp [netOk]; intro _ _ _; omega
  have hlen := checkS_len h1
  refine LoopK.os (fun k : Nat => [(1, .ptr 0 0), (26, .im (.sl 4 (n.routers.map Router.iv))), (27, .int .i64 n.routers.length), (28, .int .i64 k)])
    (fun _ => [.box 25 [.im (.sl 4 (n.seats.map Seat.iv)), .im (.sl 4 (n.routers.map Router.iv))]])
    (fun k => k ≤ n.routers.length ∧ zipOk (n.routers.drop k) (n.seats.drop k) = zipOk n.routers n.seats) (fun k => n.routers.length - k) 0 [0] ⟨Nat.zero_le _, rfl⟩ (by simp) ?_
  rintro k ⟨hk, hR⟩
  by_cases hlt : k < n.routers.length
  · have hs : n.routers[k]? = some n.routers[k] := List.getElem?_eq_getElem hlt
    have hlt2 : k < n.seats.length := by omega
    have hs2 : n.seats[k]? = some n.seats[k] := List.getElem?_eq_getElem hlt2
    have hw : IntKind.i64.wrap (k + 1) = (k + 1 : Nat) := wrap64 (by omega) (by omega)
    rw [List.drop_eq_getElem_cons hlt, List.drop_eq_getElem_cons hlt2, zipOk] at hR
    simp [hlt, hlt2, hs, hs2, hw]
    first | refine CallK.same (checkF_spec n.routers[k]) rfl rfl ?_ | refine CallQ.same (checkF_spec n.routers[k]) rfl rfl ?_ | refine CallQG.same _ (checkF_spec n.routers[k]) rfl ?_ | refine CallG.same _ (checkF_spec n.routers[k]) rfl ?_ | refine CallK.pv (checkF_spec n.routers[k]) rfl rfl ?_
    simp [hw, hs2, hlt2]
    refine ⟨fun h => ?_, fun h1 h2 h3 => ?_⟩
    · have hz : zipOk n.routers n.seats = false := by
        rw [← hR]
        rcases h with (h | h) | h
        · simp [h]
        · simp [h]
        · simp [h]
      simp [netOk, hz]
    · refine Again.os (k + 1) [0] ⟨hlt, ?_⟩ (by omega) ?_
      · rw [← hR]; simp [h1, h2, h3]
      · simp
  · have : k = n.routers.length := by omega
    subst this
    have hz : zipOk n.routers n.seats = true := by
      rw [← hR, List.drop_of_length_le (by omega), List.drop_of_length_le (by omega)]; rfl
    simp [netOk, h1, hz]
    omega
end Go.Am

set_option linter.unusedVariables false
set_option linter.unusedSimpArgs false
set_option pp.deepTerms false
set_option pp.deepTerms.threshold 40
namespace Go.Am
open Go.Proofs

/-! ### a bit of an address -/
def bitN (W V j : Nat) : Nat := V / 2 ^ (W - 1 - j) % 2
theorem bitN_lt (W V j : Nat) : bitN W V j < 2 := Nat.mod_lt _ (by omega)
theorem bit1 (x : Int) (n : Nat) (h0 : 0 ≤ x) (h1 : x < 18446744073709551616) (hn : n < 64) : IntKind.i64.wrap (andI .u64 (x.fdiv (2 ^ min n 64)) 1) = ((x.toNat / 2 ^ n % 2 : Nat) : Int) := by
  rw [show min n 64 = n by omega]
  have hcast : ((2 : Int) ^ n) = ((2 ^ n : Nat) : Int) := by simp
  have hd : x.fdiv (2 ^ n) = ((x.toNat / 2 ^ n : Nat) : Int) := by
    have hp := Nat.two_pow_pos n
    rw [hcast, Int.fdiv_eq_ediv_of_nonneg _ (by omega), Int.natCast_ediv]
    congr 1; omega
  have hle : x.toNat / 2 ^ n ≤ x.toNat := Nat.div_le_self _ _
  rw [hd]
  generalize x.toNat / 2 ^ n = y at *
  have := and_mask ((y : Nat) : Int) 1 (by omega) (by omega) (by omega)
  simp only [Int.toNat_natCast] at this
  rw [show ((2 : Int) ^ 1 - 1) = 1 by decide, show (2 : Nat) ^ 1 = 2 by decide] at this
  rw [show andI .u64 ((y : Nat) : Int) 1 = and64 ((y : Nat) : Int) 1 from rfl, this]
  exact wrap64 (by omega) (by omega)
theorem bit_spec (six : Bool) (a : Addr4) (hw : a.wf) (j : Nat) (hj : j < wideN six) : FSpec Tryz.prog 98 [.bool six, a.av, .int .i64 j] [] (.int .i64 (bitN (wideN six) a.num j)) [] := by
  obtain ⟨a1, a2, a3, a4⟩ := hw
  have hW : wideN six ≤ 128 := by cases six <;> decide
  have hn : a.num = a.hi.toNat * 18446744073709551616 + a.lo.toNat := rfl
  have h64 : (2 : Nat) ^ 64 = 18446744073709551616 := by decide
  refine FSpec.of_flat (q := []) Tryz.func98 (by kernel_rfl) rfl Tryz.ntmps98 Tryz.results98 hP (by kernel_rfl) (by simp) (by first | rfl | simp) ?_
  simp
  first | refine CallK.same (wide_spec six) rfl rfl ?_ | refine CallQ.same (wide_spec six) rfl rfl ?_ | refine CallQG.same _ (wide_spec six) rfl ?_ | refine CallG.same _ (wide_spec six) rfl ?_ | refine CallK.pv (wide_spec six) rfl rfl ?_
  simp [wide_N]
  generalize wideN six = W at *
  obtain ⟨n, hnn⟩ : ∃ n, n = W - 1 - j := ⟨_, rfl⟩
  rw [wrap64 (x := (W : Int) - 1) (by omega) (by omega), wrap64 (x := (W : Int) - 1 - j) (by omega) (by omega), show (W : Int) - 1 - j = n by omega]
  unfold bitN
  rw [← hnn]
  refine ⟨fun h => ?_, fun h => ?_⟩
  · rw [wrap64 (x := (n : Int) - 64) (by omega) (by omega)]
    refine ⟨by omega, ?_⟩
    rw [show ((n : Int) - 64).toNat = n - 64 by omega, bit1 _ _ a1 a2 (by omega), hn]
    have hd : (2 : Nat) ^ n = 18446744073709551616 * 2 ^ (n - 64) := by rw [← h64, ← Nat.pow_add]; congr 1; omega
    rw [hd, ← Nat.div_div_eq_div_mul, show (a.hi.toNat * 18446744073709551616 + a.lo.toNat) / 18446744073709551616 = a.hi.toNat by omega]
  · refine ⟨by omega, ?_⟩
    rw [show ((n : Int)).toNat = n by omega, bit1 _ _ a3 a4 (by omega), hn]
    have hd : 18446744073709551616 = 2 ^ n * (2 * 2 ^ (63 - n)) := by
      rw [← h64, show (2 : Nat) * 2 ^ (63 - n) = 2 ^ (63 - n + 1) by rw [Nat.pow_succ]; omega, ← Nat.pow_add]; congr 1; omega
    rw [hd, show a.hi.toNat * (2 ^ n * (2 * 2 ^ (63 - n))) = 2 ^ n * (2 * (a.hi.toNat * 2 ^ (63 - n))) by
      rw [Nat.mul_left_comm, Nat.mul_left_comm a.hi.toNat 2], Nat.mul_add_div (Nat.two_pow_pos n), Nat.mul_add_mod]
end Go.Am

set_option linter.unusedVariables false
set_option linter.unusedSimpArgs false
set_option pp.deepTerms false
set_option pp.deepTerms.threshold 40
namespace Go.Am
open Go.Proofs

/-! ### a trie's memory -/
inductive Ent where
  | nd (p : List Nat) (v : Option Nat)
  | rt (r : Route)
  | pb (p : Pfx)
def Ent.isAt (p : List Nat) : Ent → Bool
  | .nd q _ => q == p
  | _ => false
def ix (T : List Ent) (p : List Nat) : Option Nat := T.findIdx? (Ent.isAt p)
def ptrO : Option Nat → AV
  | none => .im (.sc (.pointer none))
  | some k => .ptr k 0
def ndCells (T : List Ent) (p : List Nat) (v : Option Nat) : List AV := [ptrO v, ptrO (ix T (p ++ [0])), ptrO (ix T (p ++ [1]))]
def Ent.ob (six : Bool) (T : List Ent) (i : Nat) : Ent → AObj
  | .nd p v => if i = 0 then .box 161 (.bool six :: ndCells T p v) else .box 159 (ndCells T p v)
  | .rt r => .box 84 (r.iv.map .im)
  | .pb p => .box 82 [.bool p.six, .int .u64 p.addr.hi, .int .u64 p.addr.lo, .int .i64 p.len]
def obs (six : Bool) (T : List Ent) : List AObj := T.mapIdx (Ent.ob six T)
@[simp] theorem obs_length (six : Bool) (T : List Ent) : (obs six T).length = T.length := by simp [obs]
theorem obs_get (six : Bool) (T : List Ent) (i : Nat) : (obs six T)[i]? = T[i]?.map (Ent.ob six T i) := by simp [obs]
@[simp] theorem obs_noSv (six : Bool) (T : List Ent) : (obs six T).all AObj.noSv = true := by
  rw [List.all_eq_true]
  intro x hx
  obtain ⟨i, hi, rfl⟩ := List.mem_iff_getElem.1 hx
  have h := obs_get six T i
  rw [List.getElem?_eq_getElem hi] at h
  have hi' : i < T.length := by simpa using hi
  rw [List.getElem?_eq_getElem hi'] at h
  rw [Option.some.inj h]
  cases T[i] <;> simp only [Ent.ob] <;> (try split) <;> rfl
theorem ob_le (six : Bool) (T : List Ent) (i : Nat) (e : Ent) : (Ent.ob six T i e).le (Ent.ob six T i e) := by
  cases e <;> simp only [Ent.ob] <;> (try split) <;> exact ⟨rfl, AV.leL_refl _⟩
structure WT (T : List Ent) : Prop where
  root : ∃ v, T[0]? = some (.nd [] v)
  uniq : ∀ {i j : Nat} {p : List Nat} {v v' : Option Nat}, T[i]? = some (.nd p v) → T[j]? = some (.nd p v') → i = j
  pre : ∀ {i : Nat} {p : List Nat} {b : Nat} {v : Option Nat}, T[i]? = some (.nd (p ++ [b]) v) → ∃ (j : Nat) (v' : Option Nat), T[j]? = some (.nd p v')
  val : ∀ {i : Nat} {p : List Nat} {j : Nat}, T[i]? = some (.nd p (some j)) → ∃ r, T[j]? = some (.rt r)
theorem ix_some {T : List Ent} {p : List Nat} {k : Nat} (h : ix T p = some k) : ∃ v, T[k]? = some (.nd p v) := by
  obtain ⟨hk, h1, _⟩ := List.findIdx?_eq_some_iff_getElem.1 h
  rw [List.getElem?_eq_getElem hk]
  generalize T[k] = e at *
  cases e <;> simp [Ent.isAt] at h1
  subst h1
  exact ⟨_, rfl⟩
theorem ix_none {T : List Ent} {p : List Nat} (h : ix T p = none) (k : Nat) (v : Option Nat) : T[k]? ≠ some (.nd p v) := by
  intro hk
  have := List.findIdx?_eq_none_iff.1 h _ (List.mem_of_getElem? hk)
  simp [Ent.isAt] at this
theorem WT.ix {T : List Ent} (h : WT T) {p : List Nat} {k : Nat} {v : Option Nat} (hk : T[k]? = some (.nd p v)) : ix T p = some k := by
  cases hi : Go.Am.ix T p with
  | none => exact absurd hk (ix_none hi k v)
  | some j =>
    obtain ⟨v', h1⟩ := ix_some hi
    rw [h.uniq h1 hk]
theorem WT.ix_nil {T : List Ent} (h : WT T) : Go.Am.ix T [] = some 0 := by
  obtain ⟨v, hv⟩ := h.root
  exact h.ix hv
theorem ix_append (T U : List Ent) (p : List Nat) : ix (T ++ U) p = match ix T p with
    | some k => some k
    | none => (ix U p).map (· + T.length) := by
  unfold ix
  rw [List.findIdx?_append]
  cases List.findIdx? (Ent.isAt p) T <;> simp [Option.or]

/-- New values change no place. -/
theorem ix_vals (T : List Ent) (p : Pfx) (r : Route) (q : List Nat) : ix (T ++ [.pb p, .rt r]) q = ix T q := by
  rw [ix_append]
  cases ix T q <;> simp [ix, Ent.isAt]
theorem ob_congr (six : Bool) {T U : List Ent} (i : Nat) (e : Ent) (h : ∀ q v b, e = .nd q v → ix T (q ++ [b]) = ix U (q ++ [b])) : Ent.ob six T i e = Ent.ob six U i e := by
  cases e with
  | nd q v => simp only [Ent.ob, ndCells, h q v 0 rfl, h q v 1 rfl]
  | _ => rfl
theorem get_push2 {α : Type} (l : List α) (x y : α) (i : Nat) : (l ++ [x, y])[i]? = if i < l.length then l[i]? else if i = l.length then some x else if i = l.length + 1 then some y else none := by
  by_cases h : i < l.length
  · simp [h, List.getElem?_append]
  · rw [List.getElem?_append_right (by omega), if_neg h]
    by_cases h1 : i = l.length
    · simp [h1]
    · by_cases h2 : i = l.length + 1
      · simp [h2]
      · rw [if_neg h1, if_neg h2, List.getElem?_eq_none]
        simp; omega
theorem get_push1 {α : Type} (l : List α) (x : α) (i : Nat) : (l ++ [x])[i]? = if i < l.length then l[i]? else if i = l.length then some x else none := by
  by_cases h : i < l.length
  · simp [h, List.getElem?_append]
  · rw [List.getElem?_append_right (by omega), if_neg h]
    by_cases h1 : i = l.length
    · simp [h1]
    · rw [if_neg h1, List.getElem?_eq_none]
      simp; omega
theorem WT.vals {T : List Ent} (h : WT T) (p : Pfx) (r : Route) : WT (T ++ [.pb p, .rt r]) := by
  have hg : ∀ {i : Nat} {q : List Nat} {v : Option Nat}, (T ++ [Ent.pb p, Ent.rt r])[i]? = some (.nd q v) ↔ T[i]? = some (.nd q v) := by
    intro i q v
    rw [get_push2]
    by_cases h1 : i < T.length
    · simp [h1]
    · rw [if_neg h1, List.getElem?_eq_none (l := T) (by omega)]
      split
      · simp
      · split <;> simp
  refine ⟨?_, ?_, ?_, ?_⟩
  · obtain ⟨v, hv⟩ := h.root
    exact ⟨v, hg.2 hv⟩
  · intro i j q v v' h1 h2
    exact h.uniq (hg.1 h1) (hg.1 h2)
  · intro i q b v h1
    obtain ⟨j, v', h2⟩ := h.pre (hg.1 h1)
    exact ⟨j, v', hg.2 h2⟩
  · intro i q j h1
    obtain ⟨r', h2⟩ := h.val (hg.1 h1)
    refine ⟨r', ?_⟩
    rw [get_push2, if_pos (List.getElem?_eq_some_iff.1 h2).1]; exact h2

/-- A new place. -/
theorem ix_new {T : List Ent} {s : List Nat} (hn : ix T s = none) (q : List Nat) : ix (T ++ [.nd s none]) q = if q = s then some T.length else ix T q := by
  rw [ix_append]
  by_cases h : q = s
  · subst h; rw [hn]; simp [ix, Ent.isAt]
  · rw [if_neg h]
    cases ix T q with
    | some k => rfl
    | none => simp [ix, Ent.isAt, Ne.symm h]
theorem WT.new {T : List Ent} (h : WT T) {p : List Nat} {b k : Nat} {v : Option Nat} (hk : T[k]? = some (.nd p v)) (hn : Go.Am.ix T (p ++ [b]) = none) : WT (T ++ [.nd (p ++ [b]) none]) := by
  have hg : ∀ {i : Nat} {q : List Nat} {v : Option Nat}, (T ++ [Ent.nd (p ++ [b]) none])[i]? = some (.nd q v) ↔ T[i]? = some (.nd q v) ∨ (i = T.length ∧ q = p ++ [b] ∧ v = none) := by
    intro i q v
    rw [get_push1]
    by_cases h1 : i < T.length
    · simp [h1]; omega
    · rw [if_neg h1, List.getElem?_eq_none (l := T) (by omega)]
      by_cases h2 : i = T.length
      · simp [h2, eq_comm]
      · simp [h2]
  refine ⟨?_, ?_, ?_, ?_⟩
  · obtain ⟨v, hv⟩ := h.root
    exact ⟨v, hg.2 (.inl hv)⟩
  · intro i j q v v' h1 h2
    rcases hg.1 h1 with h1 | ⟨h1, h3, h4⟩ <;> rcases hg.1 h2 with h2 | ⟨h2, h5, h6⟩
    · exact h.uniq h1 h2
    · subst h5; exact absurd h1 (ix_none hn i v)
    · subst h3; exact absurd h2 (ix_none hn j v')
    · omega
  · intro i q b' v h1
    rcases hg.1 h1 with h1 | ⟨h1, h3, h4⟩
    · obtain ⟨j, v', h2⟩ := h.pre h1
      exact ⟨j, v', hg.2 (.inl h2)⟩
    · obtain ⟨rfl, _⟩ := List.append_inj' h3 rfl
      exact ⟨k, _, hg.2 (.inl hk)⟩
  · intro i q j h1
    rcases hg.1 h1 with h1 | ⟨h1, h3, h4⟩
    · obtain ⟨r', h2⟩ := h.val h1
      refine ⟨r', ?_⟩
      rw [get_push1, if_pos (List.getElem?_eq_some_iff.1 h2).1]; exact h2
    · cases h4

/-- A value is put. -/
theorem ix_set {T : List Ent} {k : Nat} {p : List Nat} {v v' : Option Nat} (hk : T[k]? = some (.nd p v)) (q : List Nat) : ix (T.set k (.nd p v')) q = ix T q := by
  unfold ix
  have : (T.set k (.nd p v')).map (Ent.isAt q) = T.map (Ent.isAt q) := by
    rw [List.map_set]
    apply List.ext_getElem?
    intro i
    rw [List.getElem?_set]
    split
    · rename_i h; subst h
      simp [hk, Ent.isAt]
      exact (List.getElem?_eq_some_iff.1 hk).1
    · rfl
  have key : ∀ l : List Ent, l.findIdx? (Ent.isAt q) = (l.map (Ent.isAt q)).findIdx? id := by
    intro l; rw [List.findIdx?_map]; rfl
  rw [key, key, this]
theorem WT.set {T : List Ent} (h : WT T) {k : Nat} {p : List Nat} {v : Option Nat} {j : Nat} {r : Route} (hk : T[k]? = some (.nd p v)) (hj : T[j]? = some (.rt r)) : WT (T.set k (.nd p (some j))) := by
  have hlt := (List.getElem?_eq_some_iff.1 hk).1
  have hg : ∀ {i : Nat} {q : List Nat} {w : Option Nat}, (T.set k (.nd p (some j)))[i]? = some (.nd q w) → ∃ w', T[i]? = some (.nd q w') ∧ (w = w' ∨ w = some j) := by
    intro i q w h1
    rw [List.getElem?_set] at h1
    split at h1
    · rename_i h2; subst h2
      simp [hlt] at h1
      obtain ⟨rfl, rfl⟩ := h1
      exact ⟨v, hk, .inr rfl⟩
    · exact ⟨w, h1, .inl rfl⟩
  have hg2 : ∀ {i : Nat} {q : List Nat} {w : Option Nat}, T[i]? = some (.nd q w) → ∃ w', (T.set k (.nd p (some j)))[i]? = some (.nd q w') := by
    intro i q w h1
    rw [List.getElem?_set]
    split
    · rename_i h2; subst h2
      rw [hk] at h1
      cases h1
      exact ⟨some j, by simp [hlt]⟩
    · exact ⟨w, h1⟩
  have hg3 : ∀ {i : Nat} {r' : Route}, T[i]? = some (.rt r') → (T.set k (.nd p (some j)))[i]? = some (.rt r') := by
    intro i r' h1
    rw [List.getElem?_set]
    split
    · rename_i h2; subst h2; rw [hk] at h1; cases h1
    · exact h1
  refine ⟨?_, ?_, ?_, ?_⟩
  · obtain ⟨v, hv⟩ := h.root
    exact hg2 hv
  · intro i j q v v' h1 h2
    obtain ⟨_, h1, _⟩ := hg h1
    obtain ⟨_, h2, _⟩ := hg h2
    exact h.uniq h1 h2
  · intro i q b v h1
    obtain ⟨_, h1, _⟩ := hg h1
    obtain ⟨m, w, h2⟩ := h.pre h1
    obtain ⟨w', h3⟩ := hg2 h2
    exact ⟨m, w', h3⟩
  · intro i q m h1
    obtain ⟨w, h1, h2⟩ := hg h1
    rcases h2 with h2 | h2
    · subst h2
      obtain ⟨r', h3⟩ := h.val h1
      exact ⟨r', hg3 h3⟩
    · cases h2
      exact ⟨r, hg3 hj⟩

/-! ### the way to a place -/
def stepT (T : List Ent) (p : List Nat) : List Ent × Nat :=
  match ix T p with
  | some k => (T, k)
  | none => (T ++ [.nd p none], T.length)
def walkT : List Ent → Nat → List Nat → List Nat → List Ent × Nat
  | T, cur, _, [] => (T, cur)
  | T, cur, p, b :: l => walkT (stepT T (p ++ [b])).1 (stepT T (p ++ [b])).2 (p ++ [b]) l
def bitsN (six : Bool) (a : Addr4) (n : Nat) : List Nat := (List.range n).map (bitN (wideN six) a.num)
def setT (N : Nat) (p : List Nat) (x : List Ent × Nat) : List Ent := x.1.set x.2 (.nd p (some (N + 1)))
def putT (six : Bool) (T : List Ent) (p : Pfx) (r : Route) : List Ent :=
  setT T.length (bitsN six p.addr p.len.toNat) (walkT (T ++ [.pb p, .rt r]) 0 [] (bitsN six p.addr p.len.toNat))
theorem stepT_wt {T : List Ent} (h : WT T) {p : List Nat} {b k : Nat} {v : Option Nat} (hk : T[k]? = some (.nd p v)) : WT (stepT T (p ++ [b])).1 ∧ ∃ v', (stepT T (p ++ [b])).1[(stepT T (p ++ [b])).2]? = some (.nd (p ++ [b]) v') := by
  unfold stepT
  split
  · rename_i k' h1
    exact ⟨h, ix_some h1⟩
  · rename_i h1
    exact ⟨h.new hk h1, none, by simp⟩
end Go.Am

set_option linter.unusedVariables false
set_option linter.unusedSimpArgs false
set_option pp.deepTerms false
set_option pp.deepTerms.threshold 40
namespace Go.Am
open Go.Proofs

/-! ### a value is put into a trie -/
def offT (k : Nat) : Nat := if k = 0 then 1 else 0
theorem bitsN_take (six : Bool) (a : Addr4) (n k : Nat) (h : k < n) : (bitsN six a n).drop k = bitN (wideN six) a.num k :: (bitsN six a n).drop (k + 1) := by
  unfold bitsN
  rw [List.drop_eq_getElem_cons (by simpa using h)]
  simp
theorem bitsN_take' (six : Bool) (a : Addr4) (n k : Nat) (h : k < n) : (bitsN six a n).take k ++ [bitN (wideN six) a.num k] = (bitsN six a n).take (k + 1) := by
  rw [List.take_add_one]
  unfold bitsN
  simp [h]
theorem vals_objs (six : Bool) (T : List Ent) (p : Pfx) (r : Route) (i : Nat) (o' : AObj) (ho : (obs six (T ++ [.pb p, .rt r]))[i]? = some o') :
    ∃ ob, look ((T.length + 1, Ent.ob six T i (.rt r)) :: (T.length, Ent.ob six T i (.pb p)) :: enumL 0 (obs six T)) i = some ob ∧ ob.le o' := by
  rw [obs_get, get_push2] at ho
  have hcg : ∀ e, Ent.ob six (T ++ [.pb p, .rt r]) i e = Ent.ob six T i e := fun e => ob_congr six i e fun q v b _ => ix_vals T p r _
  simp only [look, look_enum0, obs_get]
  by_cases h1 : i < T.length
  · rw [if_pos h1] at ho
    rw [if_neg (by omega), if_neg (by omega)]
    rw [List.getElem?_eq_getElem h1] at ho ⊢
    simp only [Option.map_some, Option.some.injEq, hcg] at ho ⊢
    exact ⟨_, rfl, by rw [ho]; rw [← ho]; exact ob_le _ _ _ _⟩
  · rw [if_neg h1] at ho
    by_cases h2 : i = T.length
    · subst h2
      simp at ho
      rw [if_neg (by omega), if_pos rfl]
      exact ⟨_, rfl, by rw [← ho]; exact ob_le _ _ _ _⟩
    · rw [if_neg h2] at ho
      by_cases h3 : i = T.length + 1
      · subst h3
        simp at ho
        rw [if_pos rfl]
        exact ⟨_, rfl, by rw [← ho]; exact ob_le _ _ _ _⟩
      · rw [if_neg h3] at ho; cases ho
theorem get_left {α : Type} {l l' : List α} {i : Nat} {x : α} (h : l[i]? = some x) : (l ++ l')[i]? = some x := by
  rw [List.getElem?_append_left (List.getElem?_eq_some_iff.1 h).1]; exact h
theorem new_objs (six : Bool) {U : List Ent} {cur : Nat} {q : List Nat} {b : Nat} {v : Option Nat} (wt : WT U) (hc : U[cur]? = some (.nd q v)) (hi : ix U (q ++ [b]) = none) {ob1 ob2 : AObj}
    (h1 : ob1 = Ent.ob six (U ++ [.nd (q ++ [b]) none]) cur (.nd q v)) (h2 : ob2 = Ent.ob six (U ++ [.nd (q ++ [b]) none]) U.length (.nd (q ++ [b]) none)) (i : Nat) (o' : AObj)
    (ho : (obs six (U ++ [.nd (q ++ [b]) none]))[i]? = some o') : ∃ ob, look ((cur, ob1) :: (U.length, ob2) :: enumL 0 (obs six U)) i = some ob ∧ ob.le o' := by
  subst h1 h2
  rw [obs_get, get_push1, Option.map_eq_some_iff] at ho
  obtain ⟨e, he, rfl⟩ := ho
  simp only [look, look_enum0, obs_get]
  by_cases h1 : cur = i
  · subst h1
    rw [if_pos (List.getElem?_eq_some_iff.1 hc).1, hc] at he
    cases he
    rw [if_pos rfl]
    exact ⟨_, rfl, ob_le _ _ _ _⟩
  rw [if_neg h1]
  by_cases h2 : U.length = i
  · subst h2
    simp at he
    subst he
    rw [if_pos rfl]
    exact ⟨_, rfl, ob_le _ _ _ _⟩
  rw [if_neg h2]
  have h3 : i < U.length := by
    apply Classical.byContradiction
    intro h3
    rw [if_neg h3, if_neg (by omega)] at he
    cases he
  rw [if_pos h3] at he
  rw [he]
  refine ⟨_, rfl, ?_⟩
  rw [ob_congr six i e (T := U) (U := U ++ [.nd (q ++ [b]) none])]
  · exact ob_le _ _ _ _
  · intro q' v' c hq
    subst hq
    rw [ix_new hi, if_neg]
    intro h4
    obtain ⟨rfl, _⟩ := List.append_inj' h4 rfl
    exact h1 (wt.uniq hc he)
theorem ix_below {U : List Ent} (wt : WT U) {q : List Nat} (h : ix U q = none) (c : Nat) : ix U (q ++ [c]) = none := by
  cases hi : ix U (q ++ [c]) with
  | none => rfl
  | some k =>
    obtain ⟨v, hk⟩ := ix_some hi
    obtain ⟨j, v', hj⟩ := wt.pre hk
    exact absurd hj (ix_none h j v')
theorem set_objs (six : Bool) {U : List Ent} {cur : Nat} {q : List Nat} {v v' : Option Nat} (hc : U[cur]? = some (.nd q v)) {ob1 : AObj}
    (h1 : ob1 = Ent.ob six (U.set cur (.nd q v')) cur (.nd q v')) (i : Nat) (o' : AObj)
    (ho : (obs six (U.set cur (.nd q v')))[i]? = some o') : ∃ ob, look ((cur, ob1) :: enumL 0 (obs six U)) i = some ob ∧ ob.le o' := by
  subst h1
  rw [obs_get, List.getElem?_set, Option.map_eq_some_iff] at ho
  obtain ⟨e, he, rfl⟩ := ho
  simp only [look, look_enum0, obs_get]
  by_cases h1 : cur = i
  · subst h1
    rw [if_pos rfl, if_pos (List.getElem?_eq_some_iff.1 hc).1] at he
    cases he
    rw [if_pos rfl]
    exact ⟨_, rfl, ob_le _ _ _ _⟩
  rw [if_neg h1] at he ⊢
  rw [he]
  refine ⟨_, rfl, ?_⟩
  rw [ob_congr six i e (T := U) (U := U.set cur (.nd q v'))]
  · exact ob_le _ _ _ _
  · intro q' v' c hq
    exact (ix_set hc _).symm
structure PutI (six : Bool) (T0 : List Ent) (p : Pfx) (r : Route) (bs : List Nat) (g : Nat × List Ent × Nat) : Prop where
  wt : WT g.2.1
  le : g.1 ≤ bs.length
  cur : ∃ v, g.2.1[g.2.2]? = some (.nd (bs.take g.1) v)
  way : walkT g.2.1 g.2.2 (bs.take g.1) (bs.drop g.1) = walkT (T0 ++ [.pb p, .rt r]) 0 [] bs
  pb : g.2.1[T0.length]? = some (.pb p)
  rt : g.2.1[T0.length + 1]? = some (.rt r)
theorem put_spec (six : Bool) (T : List Ent) (p : Pfx) (r : Route) (hT : WT T) (hw : p.addr.wf) (h0 : 0 ≤ p.len) (h1 : p.len ≤ wideN six) :
    FSpec Tryz.prog 79 [.ptr 0 0, p.av, r.av] (obs six T) (.tup []) (obs six (putT six T p r)) := by
  have hW : wideN six ≤ 128 := by cases six <;> decide
  refine FSpec.of_o (q := [(5, .n 11)]) Tryz.func79 (by kernel_rfl) rfl Tryz.ntmps79 Tryz.results79 hP (by kernel_rfl) (by simp) (by first | rfl | simp) ?_
  simp [look_enum0]
  have hbl : (bitsN six p.addr p.len.toNat).length = p.len.toNat := by simp [bitsN]
  refine LoopK.os (fun g : Nat × List Ent × Nat => [(0, .ptr 0 0), (4, .ptr T.length 0), (5, .ptr (T.length + 1) 0), (6, .ptr g.2.2 (offT g.2.2)), (13, .int .i64 p.len), (14, .int .i64 g.1)])
    (fun g => obs six g.2.1) (PutI six T p r (bitsN six p.addr p.len.toNat)) (fun g => p.len.toNat - g.1) (0, T ++ [.pb p, .rt r], 0) (List.range (T.length + 1 + 1)) ?_ ?_ ?_
  · obtain ⟨v, hv⟩ := (hT.vals p r).root
    exact ⟨hT.vals p r, Nat.zero_le _, ⟨v, by simpa using hv⟩, by simp, by simp, by simp⟩
  · refine EntO.same ?_ ?_ ?_ fun i o' ho => ?_
    · simp
    · omega
    · simp [offT]
    exact vals_objs six T p r i o' ho
  rintro ⟨k, U, cur⟩ ⟨wt, le, ⟨v, hc⟩, way, hpb, hrt⟩
  simp only [hbl] at le wt hc way hpb hrt
  have op : look (enumL 0 (obs six U)) T.length = some (.box 82 [.bool p.six, .int .u64 p.addr.hi, .int .u64 p.addr.lo, .int .i64 p.len]) := by rw [look_enum0, obs_get, hpb]; rfl
  obtain ⟨v0, hv0⟩ := wt.root
  have o0 : look (enumL 0 (obs six U)) 0 = some (.box 161 (.bool six :: ndCells U [] v0)) := by rw [look_enum0, obs_get, hv0]; rfl
  have oc : look (enumL 0 (obs six U)) cur = some (Ent.ob six U cur (.nd ((bitsN six p.addr p.len.toNat).take k) v)) := by rw [look_enum0, obs_get, hc]; rfl
  have hTU : T.length + 1 < U.length := (List.getElem?_eq_some_iff.1 hrt).1
  have hcU : cur < U.length := (List.getElem?_eq_some_iff.1 hc).1
  by_cases hlt : k < p.len.toNat
  · have e1 : (k : Int) < p.len := by omega
    have e2 : IntKind.i64.wrap (k + 1) = (k + 1 : Nat) := wrap64 (by omega) (by omega)
    simp [e1, op, o0]
    first | refine CallK.same (bit_spec six p.addr hw k (by omega)) rfl rfl ?_ | refine CallQ.same (bit_spec six p.addr hw k (by omega)) rfl rfl ?_ | refine CallQG.same _ (bit_spec six p.addr hw k (by omega)) rfl ?_ | refine CallG.same _ (bit_spec six p.addr hw k (by omega)) rfl ?_ | refine CallK.pv (bit_spec six p.addr hw k (by omega)) rfl rfl ?_
    have hb := bitN_lt (wideN six) p.addr.num k
    have ht1 := bitsN_take six p.addr p.len.toNat k hlt
    have ht2 := bitsN_take' six p.addr p.len.toNat k hlt
    rw [ht1, walkT, ht2] at way
    have hwt := stepT_wt wt (b := bitN (wideN six) p.addr.num k) hc
    rw [ht2] at hwt
    generalize bitN (wideN six) p.addr.num k = b at *
    rw [← ht2] at way hwt
    cases hi : ix U ((bitsN six p.addr p.len.toNat).take k ++ [b]) with
    | some k' =>
      have hst : stepT U ((bitsN six p.addr p.len.toNat).take k ++ [b]) = (U, k') := by unfold stepT; rw [hi]
      rw [hst] at way hwt
      have hI : PutI six T p r (bitsN six p.addr p.len.toNat) (k + 1, U, k') := ⟨wt, by rw [hbl]; exact hlt, by rw [← ht2]; exact hwt.2, by rw [← ht2]; exact way, hpb, hrt⟩
      have hk0 : offT k' = 0 := by
        unfold offT
        rw [if_neg]
        rintro rfl
        obtain ⟨v', h3⟩ := hwt.2
        simp only at h3
        rw [hv0] at h3
        simp at h3
      rcases (by omega : b = 0 ∨ b = 1) with rfl | rfl <;> by_cases hc0 : cur = 0
      all_goals
        simp [Ent.ob, ndCells, hi, ptrO, hc0] at oc
        simp [oc, op, o0, offT, hc0, e2]
        refine Again.os (k + 1, U, k') (List.range U.length) hI (by simp only; omega) (EntO.same ?_ ?_ ?_ fun i o' ho => ?_)
        · simp
        · omega
        · have := hk0
          unfold offT at this
          simp [this]
        · rw [obs_get] at ho
          rw [look_enum0, obs_get]
          rw [Option.map_eq_some_iff] at ho
          obtain ⟨e, he, rfl⟩ := ho
          exact ⟨_, by rw [he]; rfl, ob_le _ _ _ _⟩
    | none =>
      have hst : stepT U ((bitsN six p.addr p.len.toNat).take k ++ [b]) = (U ++ [.nd ((bitsN six p.addr p.len.toNat).take k ++ [b]) none], U.length) := by unfold stepT; rw [hi]
      rw [hst] at way hwt
      have hI : PutI six T p r (bitsN six p.addr p.len.toNat) (k + 1, U ++ [.nd ((bitsN six p.addr p.len.toNat).take k ++ [b]) none], U.length) := ⟨hwt.1, by rw [hbl]; exact hlt, by rw [← ht2]; exact hwt.2, by rw [← ht2]; exact way, get_left hpb, get_left hrt⟩
      have hU : U ≠ [] := by rintro rfl; simp at hcU
      have hUc : ¬ U.length = cur := by omega
      have hn0 := ix_below wt hi 0
      have hn1 := ix_below wt hi 1
      rcases (by omega : b = 0 ∨ b = 1) with rfl | rfl <;> by_cases hc0 : cur = 0
      all_goals
        simp [Ent.ob, ndCells, hi, ptrO, hc0] at oc
        simp [oc, op, o0, offT, hc0, e2, hU, hUc]
        refine Again.os (k + 1, _, U.length) (List.range (U.length + 1)) hI (by simp only; omega) (EntO.same ?_ ?_ ?_ fun i o' ho => ?_)
        · simp
        · omega
        · simp [hU]
        · have hcc := hc
          first | rw [hc0] at hcc | skip
          refine new_objs six wt hcc hi ?_ ?_ i o' ho
          · simp [Ent.ob, ndCells, ix_new hi, ptrO, hc0]
          · simp [Ent.ob, ndCells, ix_new hi, ptrO, hU]
            simp at hn0 hn1
            simp [hn0, hn1]
  · have hkk : k = p.len.toNat := by omega
    have e1 : ¬ (k : Int) < p.len := by omega
    have htk : (bitsN six p.addr p.len.toNat).take k = bitsN six p.addr p.len.toNat := List.take_of_length_le (by omega)
    have hdk : (bitsN six p.addr p.len.toNat).drop k = [] := List.drop_of_length_le (by omega)
    rw [htk] at hc oc way
    rw [hdk, walkT] at way
    have hput : putT six T p r = U.set cur (.nd (bitsN six p.addr p.len.toNat) (some (T.length + 1))) := by
      unfold putT setT
      rw [← way]
    by_cases hc0 : cur = 0
    all_goals
      simp [Ent.ob, ndCells, ptrO, hc0] at oc
      simp [e1, oc, offT, hc0]
      refine EndO.normal [] (List.range U.length) _ rfl (EntO.same ?_ ?_ ?_ fun i o' ho => ?_)
      · simp [hput]
      · simp; omega
      · simp
      · have hcc := hc
        first | rw [hc0] at hcc hput | skip
        rw [hput] at ho
        refine set_objs six hcc ?_ i o' ho
        simp [Ent.ob, ndCells, ix_set hcc, ptrO, hc0]
end Go.Am

set_option linter.unusedVariables false
set_option linter.unusedSimpArgs false
set_option pp.deepTerms false
set_option pp.deepTerms.threshold 40
namespace Go.Am
open Go.Proofs

/-! ### what a trie has -/
def valT (T : List Ent) (q : List Nat) : Option Route :=
  match ix T q with
  | none => none
  | some k => match T[k]? with
    | some (.nd _ (some j)) => match T[j]? with
      | some (.rt r) => some r
      | _ => none
    | _ => none
structure Ext (U V : List Ent) : Prop where
  old : ∀ {i : Nat} {e : Ent}, U[i]? = some e → V[i]? = some e
  new : ∀ {i : Nat} {e : Ent}, U.length ≤ i → V[i]? = some e → ∀ q v, e = .nd q v → v = none
theorem Ext.refl (U : List Ent) : Ext U U := ⟨fun h => h, fun h1 h2 => by rw [List.getElem?_eq_none (by omega)] at h2; cases h2⟩
theorem Ext.trans {U V W : List Ent} (h1 : Ext U V) (h2 : Ext V W) : Ext U W := by
  refine ⟨fun h => h2.old (h1.old h), fun {i e} hi he => ?_⟩
  rcases Nat.lt_or_ge i V.length with h | h
  · have h3 := h2.old (List.getElem?_eq_getElem h)
    rw [he] at h3
    cases h3
    exact h1.new hi (List.getElem?_eq_getElem h)
  · exact h2.new h he
theorem Ext.push (U : List Ent) (q : List Nat) : Ext U (U ++ [.nd q none]) := by
  refine ⟨get_left, fun {i e} hi he => ?_⟩
  rw [get_push1, if_neg (by omega)] at he
  split at he
  · cases he
    intro q v e; cases e; rfl
  · cases he
theorem Ext.vals (U : List Ent) (p : Pfx) (r : Route) : Ext U (U ++ [.pb p, .rt r]) := by
  refine ⟨get_left, fun {i e} hi he => ?_⟩
  rw [get_push2, if_neg (by omega)] at he
  split at he
  · cases he
    intro q v e; cases e
  · split at he
    · cases he
      intro q v e; cases e
    · cases he
theorem valT_ext {U V : List Ent} (hU : WT U) (hV : WT V) (h : Ext U V) (q : List Nat) : valT V q = valT U q := by
  unfold valT
  cases hi : ix U q with
  | some k =>
    obtain ⟨v, hk⟩ := ix_some hi
    rw [hV.ix (h.old hk)]
    simp only [hk, h.old hk]
    cases v with
    | none => rfl
    | some j =>
      obtain ⟨r, hr⟩ := hU.val hk
      simp only [hr, h.old hr]
  | none =>
    cases hj : ix V q with
    | none => rfl
    | some k =>
      obtain ⟨v, hk⟩ := ix_some hj
      have hk' : U.length ≤ k := by
        apply Classical.byContradiction
        intro hc
        have h3 := h.old (List.getElem?_eq_getElem (l := U) (show k < U.length by omega))
        rw [hk] at h3
        have h3 := Option.some.inj h3
        exact ix_none hi k v (by rw [h3]; exact List.getElem?_eq_getElem _)
      have := h.new hk' hk q v rfl
      subst this
      simp only [hk]
theorem stepT_ext (T : List Ent) (q : List Nat) : Ext T (stepT T q).1 := by
  unfold stepT
  split
  · exact Ext.refl _
  · exact Ext.push _ _
theorem walkT_wt : ∀ (l : List Nat) {T : List Ent} {cur : Nat} {q : List Nat} {v : Option Nat}, WT T → T[cur]? = some (.nd q v) →
    WT (walkT T cur q l).1 ∧ (∃ v', (walkT T cur q l).1[(walkT T cur q l).2]? = some (.nd (q ++ l) v')) ∧ Ext T (walkT T cur q l).1
  | [], T, cur, q, v, h, hc => ⟨h, ⟨v, by simpa [walkT] using hc⟩, Ext.refl _⟩
  | b :: l, T, cur, q, v, h, hc => by
    obtain ⟨h1, v1, h2⟩ := stepT_wt h (b := b) hc
    obtain ⟨g1, ⟨v2, g2⟩, g3⟩ := walkT_wt l h1 h2
    refine ⟨g1, ⟨v2, ?_⟩, (stepT_ext _ _).trans g3⟩
    simpa [walkT] using g2
theorem putT_wt {six : Bool} {T : List Ent} {p : Pfx} {r : Route} (hT : WT T) : WT (putT six T p r) ∧ ∀ q, valT (putT six T p r) q = if q = bitsN six p.addr p.len.toNat then some r else valT T q := by
  unfold putT setT
  generalize bitsN six p.addr p.len.toNat = bs
  have h1 := hT.vals p r
  obtain ⟨v, hv⟩ := h1.root
  obtain ⟨g1, ⟨v2, g2⟩, g3⟩ := walkT_wt bs h1 hv
  have hr := g3.old (show (T ++ [.pb p, .rt r])[T.length + 1]? = some (.rt r) by simp)
  generalize walkT (T ++ [.pb p, .rt r]) 0 [] bs = x at *
  obtain ⟨U, cur⟩ := x
  simp only [List.nil_append] at g1 g2 g3 hr ⊢
  have hw := g1.set g2 hr
  refine ⟨hw, fun q => ?_⟩
  have hold : valT U q = valT T q := (valT_ext h1 g1 g3 q).trans (valT_ext hT h1 (Ext.vals T p r) q)
  have hlt := (List.getElem?_eq_some_iff.1 g2).1
  have hne : ∀ (j : Nat) (r' : Route), U[j]? = some (.rt r') → (U.set cur (.nd bs (some (T.length + 1))))[j]? = some (.rt r') := by
    intro j r' hj
    rw [List.getElem?_set, if_neg]
    · exact hj
    · rintro rfl; rw [g2] at hj; cases hj
  by_cases e : q = bs
  · subst e
    rw [if_pos rfl]
    unfold valT
    rw [ix_set g2, g1.ix g2]
    simp only [List.getElem?_set, if_pos, hlt]
    rw [if_neg]
    · rw [hr]
    · rintro rfl; rw [g2] at hr; cases hr
  · rw [if_neg e, ← hold]
    unfold valT
    rw [ix_set g2]
    cases hi : ix U q with
    | none => rfl
    | some k =>
      obtain ⟨v3, hk⟩ := ix_some hi
      have hkc : cur ≠ k := by
        rintro rfl
        rw [g2] at hk
        simp at hk
        exact e hk.1.symm
      simp only [List.getElem?_set, hkc, if_false, hk]
      cases v3 with
      | none => rfl
      | some j =>
        obtain ⟨r', hr'⟩ := g1.val hk
        have := hne j r' hr'
        rw [List.getElem?_set, hr'] at this
        simp only [hr', this]
theorem WT.one : WT [.nd [] none] := by
  refine ⟨⟨none, rfl⟩, ?_, ?_, ?_⟩
  · intro i j p v v' h1 h2
    have h3 := (List.getElem?_eq_some_iff.1 h1).1
    have h4 := (List.getElem?_eq_some_iff.1 h2).1
    simp at h3 h4; omega
  · intro i p b v h1
    have h3 := (List.getElem?_eq_some_iff.1 h1).1
    simp at h3
    subst h3
    simp at h1
  · intro i p j h1
    have h3 := (List.getElem?_eq_some_iff.1 h1).1
    simp at h3
    subst h3
    simp at h1
end Go.Am

set_option linter.unusedVariables false
set_option linter.unusedSimpArgs false
set_option pp.deepTerms false
set_option pp.deepTerms.threshold 40
namespace Go.Am
open Go.Proofs

/-! ### the trie of a kind's routes -/
def ofT (six : Bool) : List Route → List Ent → List Ent
  | [], T => T
  | r :: l, T => ofT six l (if r.pfx.six = six then putT six (T ++ [.rt r]) r.pfx r else T ++ [.rt r])
theorem WT.rt1 {T : List Ent} (h : WT T) (r : Route) : WT (T ++ [.rt r]) := by
  have hg : ∀ {i : Nat} {q : List Nat} {v : Option Nat}, (T ++ [Ent.rt r])[i]? = some (.nd q v) ↔ T[i]? = some (.nd q v) := by
    intro i q v
    rw [get_push1]
    by_cases h1 : i < T.length
    · simp [h1]
    · rw [if_neg h1, List.getElem?_eq_none (l := T) (by omega)]
      split <;> simp
  refine ⟨?_, ?_, ?_, ?_⟩
  · obtain ⟨v, hv⟩ := h.root
    exact ⟨v, hg.2 hv⟩
  · intro i j q v v' h1 h2
    exact h.uniq (hg.1 h1) (hg.1 h2)
  · intro i q b v h1
    obtain ⟨j, v', h2⟩ := h.pre (hg.1 h1)
    exact ⟨j, v', hg.2 h2⟩
  · intro i q j h1
    obtain ⟨r', h2⟩ := h.val (hg.1 h1)
    exact ⟨r', get_left h2⟩
theorem Ext.rt1 (U : List Ent) (r : Route) : Ext U (U ++ [.rt r]) := by
  refine ⟨get_left, fun {i e} hi he => ?_⟩
  rw [get_push1, if_neg (by omega)] at he
  split at he
  · cases he
    intro q v e; cases e
  · cases he
/-- The last of a row's values that has a place. -/
def lastV (six : Bool) (q : List Nat) : List Route → Option Route → Option Route
  | [], x => x
  | r :: l, x => lastV six q l (if r.pfx.six = six ∧ q = bitsN six r.pfx.addr r.pfx.len.toNat then some r else x)
theorem ofT_wt (six : Bool) : ∀ (l : List Route) {T : List Ent}, WT T → WT (ofT six l T) ∧ ∀ q, valT (ofT six l T) q = lastV six q l (valT T q)
  | [], T, h => ⟨h, fun _ => rfl⟩
  | r :: l, T, h => by
    unfold ofT
    by_cases hs : r.pfx.six = six
    · rw [if_pos hs]
      obtain ⟨h1, h2⟩ := putT_wt (six := six) (p := r.pfx) (r := r) (h.rt1 r)
      obtain ⟨g1, g2⟩ := ofT_wt six l h1
      refine ⟨g1, fun q => ?_⟩
      rw [g2 q, h2 q, valT_ext h (h.rt1 r) (Ext.rt1 T r)]
      simp [lastV, hs]
    · rw [if_neg hs]
      obtain ⟨g1, g2⟩ := ofT_wt six l (h.rt1 r)
      refine ⟨g1, fun q => ?_⟩
      rw [g2 q, valT_ext h (h.rt1 r) (Ext.rt1 T r)]
      simp [lastV, hs]
theorem Ext.len {U V : List Ent} (h : Ext U V) : U.length ≤ V.length := by
  apply Classical.byContradiction
  intro hc
  have h1 := h.old (List.getElem?_eq_getElem (l := U) (show U.length - 1 < U.length by omega))
  have := (List.getElem?_eq_some_iff.1 h1).1
  omega
theorem putT_len {six : Bool} {T : List Ent} {p : Pfx} {r : Route} (hT : WT T) : T.length ≤ (putT six T p r).length := by
  unfold putT setT
  obtain ⟨v, hv⟩ := (hT.vals p r).root
  have h1 := (walkT_wt (bitsN six p.addr p.len.toNat) (hT.vals p r) hv).2.2.len
  simp at h1 ⊢
  omega
theorem rt_objs (six : Bool) (T : List Ent) (r : Route) {ob1 ob2 : AObj} (h1 : ob1 = Ent.ob six T 0 (.rt r)) (i : Nat) (o' : AObj) (ho : (obs six (T ++ [.rt r]))[i]? = some o') :
    ∃ ob, look ((T.length, ob1) :: (T.length, ob2) :: enumL 0 (obs six T)) i = some ob ∧ ob.le o' := by
  subst h1
  rw [obs_get, get_push1, Option.map_eq_some_iff] at ho
  obtain ⟨e, he, rfl⟩ := ho
  have hcg : Ent.ob six (T ++ [.rt r]) i e = Ent.ob six T i e := ob_congr six i e fun q v b _ => by
    rw [ix_append]
    cases ix T (q ++ [b]) <;> simp [ix, Ent.isAt]
  rw [hcg]
  simp only [look, look_enum0, obs_get]
  by_cases h2 : T.length = i
  · subst h2
    simp at he
    subst he
    rw [if_pos rfl]
    exact ⟨_, rfl, ob_le six T 0 (.rt r)⟩
  rw [if_neg h2, if_neg h2]
  have h3 : i < T.length := by
    apply Classical.byContradiction
    intro h3
    rw [if_neg h3, if_neg (by omega)] at he
    cases he
  rw [if_pos h3] at he
  rw [he]
  exact ⟨_, rfl, ob_le _ _ _ _⟩
theorem of_spec (l : List Route) (six : Bool) (hw : ∀ r ∈ l, r.pfx.addr.wf ∧ 0 ≤ r.pfx.len ∧ r.pfx.len ≤ wideN r.pfx.six) :
    FSpec Tryz.prog 62 [.im (.sl 6 (l.map Route.iv)), .bool six] [] (.ptr 0 0) (obs six (ofT six l [.nd [] none])) := by
  refine FSpec.bd (enters_of Tryz.func62 (by kernel_rfl) rfl) fun hbd => ?_
  have hl : l.length ≤ 9223372036854775807 := by simp [maxLen] at hbd; exact hbd
  refine FSpec.of_o (q := []) Tryz.func62 (by kernel_rfl) rfl Tryz.ntmps62 Tryz.results62 hP (by kernel_rfl) (by simp) (by first | rfl | simp) ?_
  simp
  have hobs0 : obs six [.nd [] none] = [.box 161 [.bool six, .im (.sc (.pointer none)), .im (.sc (.pointer none)), .im (.sc (.pointer none))]] := by
    simp [obs, Ent.ob, ndCells, ptrO, ix, Ent.isAt]
  refine LoopK.os (fun g : Nat × List Ent => [(1, .bool six), (5, .ptr 0 0), (11, .im (.sl 6 (l.map Route.iv))), (12, .int .i64 l.length), (13, .int .i64 g.1)])
    (fun g => obs six g.2) (fun g => WT g.2 ∧ g.1 ≤ l.length ∧ ofT six (l.drop g.1) g.2 = ofT six l [.nd [] none]) (fun g => l.length - g.1) (0, [.nd [] none]) [0] ⟨WT.one, Nat.zero_le _, by simp⟩ ?_ ?_
  · simp [hobs0]
  rintro ⟨k, T⟩ ⟨wt, hk, hR⟩
  simp only at wt hk hR
  by_cases hlt : k < l.length
  · have e1 : IntKind.i64.wrap (k + 1) = (k + 1 : Nat) := wrap64 (by omega) (by omega)
    have hmem := List.getElem_mem hlt
    rw [List.drop_eq_getElem_cons hlt] at hR
    simp [hlt]
    generalize l[k] = r at *
    obtain ⟨w1, w2, w3⟩ := hw r hmem
    have hlen := putT_len (six := six) (p := r.pfx) (r := r) (wt.rt1 r)
    simp at hlen
    refine ⟨fun hs => ?_, fun hs => ?_⟩
    · rw [hs] at w3
      refine CallO.same (put_spec six (T ++ [.rt r]) r.pfx r (wt.rt1 r) w1 w2 w3) ?_ ?_ (rt_objs six T r rfl) ?_ ?_
      · simp
      · simp; omega
      · simp
      · simp [e1]
        refine Again.os (k + 1, putT six (T ++ [.rt r]) r.pfx r) (List.range (putT six (T ++ [.rt r]) r.pfx r).length) ⟨(putT_wt (wt.rt1 r)).1, hlt, ?_⟩ (by simp only; omega) (EntO.same ?_ ?_ ?_ fun i o' ho => ?_)
        · rw [← hR, ofT, if_pos hs]
        · simp
        · omega
        · simp
        · have hi := (List.getElem?_eq_some_iff.1 ho).1
          refine ⟨o', ?_, ?_⟩
          · rw [look_enum_app, if_pos hi]; exact ho
          · rw [obs_get, Option.map_eq_some_iff] at ho
            obtain ⟨e, he, rfl⟩ := ho
            exact ob_le _ _ _ _
    · simp [e1]
      refine Again.os (k + 1, T ++ [.rt r]) (List.range (T.length + 1)) ⟨wt.rt1 r, hlt, ?_⟩ (by simp only; omega) (EntO.same ?_ ?_ ?_ (rt_objs six T r rfl))
      · rw [← hR, ofT, if_neg hs]
      · simp
      · omega
      · simp
  · have : k = l.length := by omega
    subst this
    simp at hR
    simp
    refine EndO.ret [] (List.range T.length) _ rfl (EntO.same ?_ ?_ ?_ fun i o' ho => ?_)
    · simp [← hR, ofT]
    · omega
    · simp
    · refine ⟨o', ?_, ?_⟩
      · rw [← hR, ofT] at ho
        exact look_enum0.trans ho
      · rw [obs_get, Option.map_eq_some_iff] at ho
        obtain ⟨e, he, rfl⟩ := ho
        exact ob_le _ _ _ _
end Go.Am

set_option linter.unusedVariables false
set_option linter.unusedSimpArgs false
set_option pp.deepTerms false
set_option pp.deepTerms.threshold 40
namespace Go.Am
open Go.Proofs

/-! ### the longest one -/
theorem along_spec (a : Addr4) (ins : List AObj) (h0 : 0 < ins.length) (hs : ins.all AObj.noSv = true) (hle : ∀ o ∈ ins, o.le o) :
    FSpec Tryz.prog 80 [.ptr 0 0, a.av] ins (.fn 99 [.ptr ins.length 0, .ptr (ins.length + 1) 0])
      (ins ++ [.box 136 [.ptr 0 0], .box 28 [.int .u64 a.hi, .int .u64 a.lo]]) := by
  have hs2 : (ins ++ [AObj.box 136 [.ptr 0 0], .box 28 [.int .u64 a.hi, .int .u64 a.lo]]).all AObj.noSv = true := by
    rw [List.all_append, hs]; rfl
  refine FSpec.of_o (q := []) Tryz.func80 (by kernel_rfl) rfl Tryz.ntmps80 Tryz.results80 hP (by kernel_rfl) (by simp)  hs2 ?_
  simp
  refine EndO.ret [] (List.range (ins.length + 2)) _ rfl (EntO.same ?_ ?_ ?_ fun i o' ho => ?_)
  · simp
  · simp only [St.freeze]; omega
  · simp only [St.freeze, AV.view]; simp
  · rw [get_push2] at ho
    simp only [St.freeze, look, look_enum0]
    by_cases h1 : i < ins.length
    · rw [if_pos h1] at ho
      rw [if_neg (by omega), if_neg (by omega)]
      exact ⟨o', ho, hle o' (List.mem_of_getElem? ho)⟩
    · rw [if_neg h1] at ho
      by_cases h2 : i = ins.length
      · subst h2
        simp at ho
        subst ho
        rw [if_neg (by omega), if_pos rfl]
        exact ⟨_, rfl, rfl, AV.leL_refl _⟩
      · rw [if_neg h2] at ho
        by_cases h3 : i = ins.length + 1
        · subst h3
          simp at ho
          subst ho
          rw [if_pos rfl]
          exact ⟨_, rfl, rfl, AV.leL_refl _⟩
        · rw [if_neg h3] at ho; cases ho
def rcO : Option Route → List AV
  | none => [.bool false, .int .u64 0, .int .u64 0, .int .i64 0, .int .u8 0, .int .i64 0]
  | some r => r.iv.map .im
def alongT (T : List Ent) : List Nat → List Nat → Option Route → Option Route
  | [], q, x => if (ix T q).isSome then (valT T q).or x else x
  | b :: l, q, x => if (ix T q).isSome then alongT T l (q ++ [b]) ((valT T q).or x) else x
def curP : Option Nat → AV
  | none => .im (.sc (.pointer none))
  | some k => .ptr k (offT k)
theorem look_at (six : Bool) (T : List Ent) (X : List AObj) (j : Nat) : look (enumL 0 (obs six T ++ X)) (T.length + j) = X[j]? := by
  rw [look_enum0, List.getElem?_append_right (by simp), obs_length, Nat.add_sub_cancel_left]
theorem look_at0 (six : Bool) (T : List Ent) (X : List AObj) : look (enumL 0 (obs six T ++ X)) T.length = X[0]? := look_at six T X 0
theorem look_below (six : Bool) (T : List Ent) (X : List AObj) {i : Nat} {e : Ent} (h : T[i]? = some e) : look (enumL 0 (obs six T ++ X)) i = some (Ent.ob six T i e) := by
  have := (List.getElem?_eq_some_iff.1 h).1
  rw [look_enum0, List.getElem?_append_left (by simpa using this), obs_get, h]; rfl
theorem look_below' (six : Bool) (T : List Ent) (X : List AObj) {i : Nat} (h : i < T.length) : look (enumL 0 (obs six T ++ X)) i = (obs six T)[i]? := by
  rw [look_enum0, List.getElem?_append_left (by simpa using h)]
@[simp] theorem rcO_length (x : Option Route) : (rcO x).length = 6 := by cases x <;> rfl
@[simp] theorem rcO_take (x : Option Route) : (rcO x).take 6 = rcO x := by cases x <;> rfl
@[simp] theorem rcO_drop (x : Option Route) : (rcO x).drop 6 = [] := by cases x <;> rfl
theorem ix_lt {T : List Ent} {q : List Nat} {k : Nat} (h : ix T q = some k) : k < T.length := by
  obtain ⟨v, hk⟩ := ix_some h
  exact (List.getElem?_eq_some_iff.1 hk).1
theorem ptrO_ren {ρ : Nat → Nat} {N : Nat} (hρ : ∀ k, k < N → ρ k = k) : ∀ {v : Option Nat}, (∀ k, v = some k → k < N) → (ptrO v).ren ρ = ptrO v
  | none, _ => rfl
  | some k, h => by simp only [ptrO, AV.ren]; rw [hρ k (h k rfl)]
theorem ob_ren (six : Bool) {T : List Ent} (hT : WT T) {i : Nat} {e : Ent} (h : T[i]? = some e) {ρ : Nat → Nat} (hρ : ∀ k, k < T.length → ρ k = k) : (Ent.ob six T i e).ren ρ = Ent.ob six T i e := by
  cases e with
  | nd q v =>
    have hv : (ptrO v).ren ρ = ptrO v := ptrO_ren hρ fun k hk => by
      subst hk
      obtain ⟨r, hr⟩ := hT.val h
      exact (List.getElem?_eq_some_iff.1 hr).1
    have hx : ∀ q, (ptrO (ix T q)).ren ρ = ptrO (ix T q) := fun q => ptrO_ren hρ fun k hk => ix_lt hk
    simp only [Ent.ob, ndCells]
    split <;> simp only [AObj.ren, AV.renL, hv, hx] <;> rfl
  | rt r => rfl
  | pb p => rfl
def tailX (a : Addr4) (x : Option Route) (a0 : Go.Act) (fr : List (Nat × AV)) (b : Nat) (rr : Loop) : List AObj :=
  [.box 28 [.int .u64 a.hi, .int .u64 a.lo], .box 84 (rcO none), .box 84 (rcO x), .box 4 [.bool x.isSome], .box 136 [.ptr 0 0], .box 28 [.int .u64 a.hi, .int .u64 a.lo], .sv a0 fr, .lp b rr .ready none]
theorem ix_ne0 {T : List Ent} (hT : WT T) {q : List Nat} {b k : Nat} (h : ix T (q ++ [b]) = some k) : k ≠ 0 := by
  rintro rfl
  obtain ⟨v, hv⟩ := ix_some h
  obtain ⟨v0, h0⟩ := hT.root
  rw [h0] at hv
  simp at hv
theorem rcO_ren (ρ : Nat → Nat) (x : Option Route) : AV.renL ρ (rcO x) = rcO x := by cases x <;> rfl
theorem tail_ent (six : Bool) {T : List Ent} (hT : WT T) (hT0 : 0 < T.length) {a : Addr4} {x : Option Route} {a0 : Go.Act} {fr : List (Nat × AV)} {b : Nat} {rr : Loop} (hsv : ∀ ρ : Nat → Nat, (∀ k, k < T.length + 8 → ρ k = k) → (AObj.sv a0 fr).le ((AObj.sv a0 fr).ren ρ))
    {f f' : List (Nat × AV)} {o : List (Nat × AObj)} {n : Nat} (hn : T.length + 8 ≤ n) (hf : ∀ ρ : Nat → Nat, (∀ i, i < T.length + 8 → ρ i = i) → ∀ p ∈ f', ((look f p.1).getD .undef).le (p.2.ren ρ))
    (hlow : ∀ i, i < T.length → look o i = (obs six T)[i]?)
    (h0 : look o T.length = some (.box 28 [.int .u64 a.hi, .int .u64 a.lo])) (h1 : look o (T.length + 1) = some (.box 84 (rcO none))) (h2 : look o (T.length + 2) = some (.box 84 (rcO x)))
    (h3 : look o (T.length + 3) = some (.box 4 [.bool x.isSome])) (h4 : look o (T.length + 4) = some (.box 136 [.ptr 0 0])) (h5 : look o (T.length + 5) = some (.box 28 [.int .u64 a.hi, .int .u64 a.lo]))
    (h6 : look o (T.length + 6) = some (.sv a0 fr)) (h7 : look o (T.length + 7) = some (.lp b rr .ready none)) :
    EntO T.length f o n f' (obs six T ++ tailX a x a0 fr b rr) (List.range (obs six T ++ tailX a x a0 fr b rr).length) := by
  have hl : (obs six T ++ tailX a x a0 fr b rr).length = T.length + 8 := by simp [tailX]
  refine EntO.cut (by omega) (by omega) (fun ρ hρ => hf ρ (by rw [hl] at hρ; exact hρ)) fun ρ hρ i o' ho => ?_
  rw [hl] at hρ
  rw [List.getElem?_append, obs_length] at ho
  by_cases hi : i < T.length
  · rw [if_pos hi] at ho
    rw [hlow i hi]
    refine ⟨o', ho, ?_⟩
    rw [obs_get, Option.map_eq_some_iff] at ho
    obtain ⟨e, he, rfl⟩ := ho
    rw [ob_ren six hT he (fun k hk => hρ k (by omega))]
    exact ob_le _ _ _ _
  · rw [if_neg hi] at ho
    obtain ⟨j, rfl⟩ : ∃ j, i = T.length + j := ⟨i - T.length, by omega⟩
    rw [Nat.add_sub_cancel_left] at ho
    have hr0 : ρ 0 = 0 := hρ 0 (by omega)
    unfold tailX at ho
    match j, ho with
    | 0, ho => simp at ho; subst ho; exact ⟨_, h0, rfl, AV.leL_refl _⟩
    | 1, ho => simp at ho; subst ho; exact ⟨_, h1, rfl, by rw [rcO_ren]; exact AV.leL_refl _⟩
    | 2, ho => simp at ho; subst ho; exact ⟨_, h2, rfl, by rw [rcO_ren]; exact AV.leL_refl _⟩
    | 3, ho => simp at ho; subst ho; exact ⟨_, h3, rfl, AV.leL_refl _⟩
    | 4, ho => simp at ho; subst ho; refine ⟨_, h4, rfl, ?_⟩; simp [AV.renL, AV.ren, hr0]
    | 5, ho => simp at ho; subst ho; exact ⟨_, h5, rfl, AV.leL_refl _⟩
    | 6, ho => simp at ho; subst ho; exact ⟨_, h6, hsv ρ hρ⟩
    | 7, ho => simp at ho; subst ho; exact ⟨_, h7, rfl, rfl, rfl, rfl⟩
    | j + 8, ho => simp at ho
def valR (T : List Ent) : Option Nat := (T[0]?).elim none fun e => match e with
  | .nd _ v => v
  | _ => none
theorem rootE {T : List Ent} (hT : WT T) : T[0]? = some (Ent.nd [] (valR T)) := by
  obtain ⟨v, hv⟩ := hT.root
  unfold valR
  rw [hv]; rfl
theorem endRd_normal {a : Go.Act} {b : Nat} {r : Loop} {szI : Nat} {k : Bool → St → Prop} {f : List (Nat × AV)} {o : List (Nat × AObj)} {n sz : Nat} {g : Option Bool} {frI : List (Nat × AV)} (n3 n2 : Nat) (h3 : look o n3 = some (.sv a frI)) (h2 : look o n2 = some (.lp b r .busy none))
    (hk : k true ⟨frI, (n2, .lp b r .ready none) :: o, n, szI, g⟩) : endRd a b r szI k .normal ⟨f, o, n, sz, g⟩ :=
  ⟨n3, frI, n2, h3, h2, hk⟩
set_option maxHeartbeats 4000000 in
theorem longest_spec (six : Bool) (T : List Ent) (a : Addr4) (hT : WT T) (hw : a.wf) :
    FSpec Tryz.prog 63 [.ptr 0 0, a.av] (obs six T)
      (.tup [.agg (rcO (alongT T (bitsN six a (wideN six)) [] none)), .bool (alongT T (bitsN six a (wideN six)) [] none).isSome]) (obs six T) := by
  have hT0 : 0 < T.length := by obtain ⟨v, hv⟩ := hT.root; exact (List.getElem?_eq_some_iff.1 hv).1
  refine FSpec.of_o (q := [(6, .m [.p [], .p [1], .e [4, 14]])]) Tryz.func63 (by kernel_rfl) rfl Tryz.ntmps63 Tryz.results63 hP (by kernel_rfl) (by simp) (by first | rfl | simp) ?_
  simp [Nat.add_assoc]
  obtain ⟨X, hX⟩ : ∃ X : List AObj, X = [.box 28 [.int .u64 a.hi, .int .u64 a.lo], .box 84 (rcO none), .box 84 (rcO none), .box 4 [.bool false]] := ⟨_, rfl⟩
  have hXl : X.length = 4 := by rw [hX]; rfl
  have hle : ∀ o ∈ obs six T ++ X, o.le o := by
    intro o ho
    rw [List.mem_append] at ho
    rcases ho with ho | ho
    · obtain ⟨i, hi⟩ := List.mem_iff_getElem?.1 ho
      rw [obs_get, Option.map_eq_some_iff] at hi
      obtain ⟨e, he, rfl⟩ := hi
      exact ob_le _ _ _ _
    · rw [hX] at ho
      simp only [List.mem_cons, List.not_mem_nil, or_false] at ho
      rcases ho with rfl | rfl | rfl | rfl <;> exact ⟨rfl, AV.leL_refl _⟩
  refine CallO.same (along_spec a (obs six T ++ X) (by simp; omega) (by rw [List.all_append, obs_noSv, hX]; rfl) hle) ?_ ?_ ?_ ?_ ?_
  · simp [hXl]
  · simp
  · intro i o' ho
    have hm := hle o' (List.mem_of_getElem? ho)
    rw [List.getElem?_append] at ho
    simp only [obs_length] at ho
    simp only [look, look_enum0]
    by_cases h1 : i < T.length
    · rw [if_pos h1] at ho
      rw [if_neg (by omega), if_neg (by omega), if_neg (by omega), if_neg (by omega), if_neg (by omega)]
      exact ⟨o', ho, hm⟩
    · rw [if_neg h1, hX] at ho
      obtain ⟨j, hj⟩ : ∃ j, j = i - T.length := ⟨_, rfl⟩
      rw [← hj] at ho
      match j with
      | 0 => simp at ho; subst ho; rw [if_neg (by omega), if_neg (by omega), if_neg (by omega), if_neg (by omega), if_pos (by omega)]; exact ⟨_, rfl, hm⟩
      | 1 => simp at ho; subst ho; rw [if_neg (by omega), if_neg (by omega), if_neg (by omega), if_pos (by omega)]; exact ⟨_, rfl, hm⟩
      | 2 => simp at ho; subst ho; rw [if_neg (by omega), if_neg (by omega), if_pos (by omega)]; exact ⟨_, rfl, hm⟩
      | 3 => simp at ho; subst ho; rw [if_pos (by omega)]; exact ⟨_, rfl, hm⟩
      | j + 4 => simp at ho
  · simp
  · simp [Nat.add_assoc, hXl]
    subst hX
    simp only [rangeK, St.ev, St.get, St.raw, look]
    simp only [Option.getD_some, if_true]
    intro a0 b rr
    refine ⟨_, _, _, [(6, .n 10)], Tryz.func99, (by kernel_rfl), rfl, Tryz.ntmps99, Tryz.results99, (by kernel_rfl), (by simp), ?_⟩
    simp [Nat.add_assoc]
    generalize hfr : [(11, AV.fn 99 [AV.ptr (T.length + 4) 0, AV.ptr (T.length + 5) 0]), _, _, _, _, _, _, _, _, _] = fr
    generalize hD : doneK a0 b rr 16 _ = D
    have hdone : ∀ (f : List (Nat × AV)) (o : List (Nat × AObj)) (n sz : Nat) (y : Option Route), y = alongT T (bitsN six a (wideN six)) [] none → T.length + 8 ≤ n → look o (T.length + 6) = some (.sv a0 fr) → look o (T.length + 7) = some (.lp b rr .ready none) →
        look o (T.length + 1) = some (.box 84 (rcO none)) → look o (T.length + 2) = some (.box 84 (rcO y)) → look o (T.length + 3) = some (.box 4 [.bool y.isSome]) → (∀ i, i < T.length → look o i = (obs six T)[i]?) → D ⟨f, o, n, sz, none⟩ := by
      intro f o n sz y hy hn h6 h7 h1 h2 h3 h0
      rw [← hD, ← hy]
      refine ⟨T.length + 6, fr, T.length + 7, .ready, none, h6, h7, .inl rfl, ?_⟩
      have fin : ∀ (st : St), st.objs = (T.length + 1, AObj.box 84 (rcO y)) :: (T.length + 7, .lp b rr .exhausted none) :: o → st.next = n → retVal Tryz.prog st [.cell 4 84, .tmp 5] = some (.tup [.agg (rcO y), .bool y.isSome]) →
          EndO Tryz.prog T.length [.cell 4 84, .tmp 5] (.tup [.agg (rcO y), .bool y.isSome]) (obs six T) .ret st := by
        intro st e1 e2 e3
        refine EndO.ret [] (List.range (obs six T).length) _ e3 (EntO.cut ?_ ?_ ?_ ?_)
        · simp only [St.freeze, obs_length]; omega
        · simp
        · intro ρ hρ
          cases y <;> simp [rcO]
        · intro ρ hρ i o' ho
          have hi : i < T.length := by have := (List.getElem?_eq_some_iff.1 ho).1; simpa using this
          simp only [St.freeze, e1, look]
          rw [if_neg (by omega), if_neg (by omega), h0 i hi]
          refine ⟨o', ho, ?_⟩
          rw [obs_get, Option.map_eq_some_iff] at ho
          obtain ⟨e, he, rfl⟩ := ho
          rw [ob_ren six hT he (by simpa using hρ)]
          exact ob_le _ _ _ _
      cases y with
      | none =>
        simp [rcO] at h1 h2 h3
        simp [pendK, ← hfr, rcO, h1, h2, h3]
        refine fin _ rfl rfl ?_
        simp [rcO]
      | some r =>
        simp [rcO] at h1 h2 h3
        simp [pendK, ← hfr, rcO, h1, h2, h3]
        refine fin _ rfl rfl ?_
        simp [rcO]
    have hsv : ∀ ρ : Nat → Nat, (∀ k, k < T.length + 8 → ρ k = k) → (AObj.sv a0 fr).le ((AObj.sv a0 fr).ren ρ) := by
      intro ρ hρ
      have r0 := hρ 0 (by omega)
      have r1 := hρ T.length (by omega)
      have r2 := hρ (T.length + 1) (by omega)
      have r3 := hρ (T.length + 2) (by omega)
      have r4 := hρ (T.length + 3) (by omega)
      have r5 := hρ (T.length + 4) (by omega)
      have r6 := hρ (T.length + 5) (by omega)
      simp [← hfr, renM, r0, r1, r2, r3, r4, r5, r6]
    refine LoopK.os (fun g : Nat × Option Route => [(0, .yld (T.length + 7)), (1, .ptr (T.length + 4) 0), (2, .ptr (T.length + 5) 0), (4, curP (ix T ((bitsN six a (wideN six)).take g.1))), (5, .int .i64 g.1)])
      (fun g => obs six T ++ tailX a g.2 a0 fr b rr)
      (fun g => g.1 ≤ wideN six ∧ alongT T ((bitsN six a (wideN six)).drop g.1) ((bitsN six a (wideN six)).take g.1) g.2 = alongT T (bitsN six a (wideN six)) [] none)
      (fun g => wideN six + 1 - g.1) (0, none) (List.range (obs six T ++ tailX a none a0 fr b rr).length) ⟨Nat.zero_le _, by simp⟩ ?_ ?_
    · refine tail_ent six hT hT0 hsv ?_ ?_ ?_ ?_ ?_ ?_ ?_ ?_ ?_ ?_ ?_
      · omega
      · intro ρ hρ
        have r0 := hρ 0 (by omega)
        have r5 := hρ (T.length + 4) (by omega)
        have r6 := hρ (T.length + 5) (by omega)
        have r7 := hρ (T.length + 7) (by omega)
        simp [curP, hT.ix_nil, offT, r0, r5, r6, r7]
      · intro i hi
        simp only [look]
        rw [if_neg (by omega), if_neg (by omega)]
        simp [look_enum_app]
        rw [if_pos (by omega), List.getElem?_append_left (by simpa using hi)]
      all_goals simp [look_enum_app]
    rintro ⟨i, x⟩ ⟨hi, hR⟩
    simp only at hi hR
    have L0 := look_at0 six T (tailX a x a0 fr b rr)
    have L1 := look_at six T (tailX a x a0 fr b rr)
    have Lb := fun (k : Nat) (h : k < T.length) => look_below' six T (tailX a x a0 fr b rr) h
    have hlenX : (tailX a x a0 fr b rr).length = 8 := rfl
    cases hx : ix T ((bitsN six a (wideN six)).take i) with
    | none =>
      simp [curP, hx]
      have hy : x = alongT T (bitsN six a (wideN six)) [] none := by
        rw [← hR]
        cases (bitsN six a (wideN six)).drop i <;> simp [alongT, hx]
      refine hdone _ _ _ _ x hy ?_ ?_ ?_ ?_ ?_ ?_ ?_
      · rw [hlenX]; omega
      · exact L1 6
      · exact L1 7
      · exact L1 1
      · exact L1 2
      · exact L1 3
      · exact Lb
    | some k =>
      obtain ⟨v, hk⟩ := ix_some hx
      have hkl := ix_lt hx
      have o0 : look (enumL 0 (obs six T ++ tailX a x a0 fr b rr)) 0 = some (Ent.ob six T 0 (.nd [] (valR T))) := by
        rw [Lb 0 hT0, obs_get, rootE hT]; rfl
      have ok : look (enumL 0 (obs six T ++ tailX a x a0 fr b rr)) k = some (Ent.ob six T k (.nd ((bitsN six a (wideN six)).take i) v)) := by
        rw [Lb k hkl, obs_get, hk]; rfl
      simp only [Ent.ob, if_true] at o0
      have L4 := L1 4
      have L5 := L1 5
      have L4 : look (enumL 0 (obs six T ++ tailX a x a0 fr b rr)) (T.length + 4) = some (.box 136 [.ptr 0 0]) := L4
      have L5 : look (enumL 0 (obs six T ++ tailX a x a0 fr b rr)) (T.length + 5) = some (.box 28 [.int .u64 a.hi, .int .u64 a.lo]) := L5
      have hv : valT T ((bitsN six a (wideN six)).take i) = v.bind fun j => match T[j]? with
          | some (.rt r) => some r
          | _ => none := by
        unfold valT
        rw [hx]
        simp only [hk]
        cases v <;> rfl
      -- what is behind this place
      have hend : i = wideN six → (valT T ((bitsN six a (wideN six)).take i)).or x = alongT T (bitsN six a (wideN six)) [] none := by
        intro hi'
        rw [← hR, List.drop_of_length_le (by simp [bitsN]; omega), alongT, if_pos (by rw [hx]; rfl)]
      have hnext : i < wideN six → alongT T ((bitsN six a (wideN six)).drop (i + 1)) ((bitsN six a (wideN six)).take (i + 1)) ((valT T ((bitsN six a (wideN six)).take i)).or x) = alongT T (bitsN six a (wideN six)) [] none := by
        intro hi'
        rw [← hR, bitsN_take six a _ i hi', alongT, if_pos (by rw [hx]; rfl), bitsN_take' six a _ i hi']
      have htk := fun hi' => bitsN_take' six a (wideN six) i hi'
      have hW : wideN six ≤ 128 := by cases six <;> decide
      have hb := fun (h : i < wideN six) => bitN_lt (wideN six) a.num i
      cases v with
      | none =>
        have hx' : (valT T ((bitsN six a (wideN six)).take i)).or x = x := by rw [hv]; rfl
        rw [hx'] at hend hnext
        by_cases hk0 : k = 0
        all_goals
          simp only [Ent.ob, hk0, if_true, if_false, ndCells, ptrO] at ok
          simp [curP, hx, offT, ok, L4, L5, o0, hk0]
          first | refine CallK.same (wide_spec six) rfl rfl ?_ | refine CallQ.same (wide_spec six) rfl rfl ?_ | refine CallQG.same _ (wide_spec six) rfl ?_ | refine CallG.same _ (wide_spec six) rfl ?_ | refine CallK.pv (wide_spec six) rfl rfl ?_
          simp [wide_N, L4, L5, o0]
          refine ⟨fun hi' => ?_, fun hi' => ?_⟩
          · refine hdone _ _ _ _ x (hend (by omega)) ?_ ?_ ?_ ?_ ?_ ?_ ?_
            · rw [hlenX]; omega
            · exact L1 6
            · exact L1 7
            · exact L1 1
            · exact L1 2
            · exact L1 3
            · exact Lb
          · have hi' : i < wideN six := by omega
            have e1 : IntKind.i64.wrap (i + 1) = (i + 1 : Nat) := wrap64 (by omega) (by omega)
            have htk := htk hi'
            have hb := hb hi'
            first | refine CallK.same (bit_spec six a hw i hi') rfl rfl ?_ | refine CallQ.same (bit_spec six a hw i hi') rfl rfl ?_ | refine CallQG.same _ (bit_spec six a hw i hi') rfl ?_ | refine CallG.same _ (bit_spec six a hw i hi') rfl ?_ | refine CallK.pv (bit_spec six a hw i hi') rfl rfl ?_
            generalize bitN (wideN six) a.num i = bb at *
            rcases (by omega : bb = 0 ∨ bb = 1) with rfl | rfl
            all_goals
              simp [ok, e1]
              refine Again.os (i + 1, x) (List.range (obs six T ++ tailX a x a0 fr b rr).length) ⟨hi', hnext hi'⟩ (by simp only; omega) ?_
              refine tail_ent six hT hT0 hsv ?_ ?_ Lb ?_ ?_ ?_ ?_ ?_ ?_ ?_ ?_
              · rw [hlenX]; omega
              · intro ρ hρ
                have r0 := hρ 0 (by omega)
                have r5 := hρ (T.length + 4) (by omega)
                have r6 := hρ (T.length + 5) (by omega)
                have r7 := hρ (T.length + 7) (by omega)
                rw [← htk]
                cases hix : ix T ((bitsN six a (wideN six)).take i ++ [_]) with
                | none => simp [r0, r5, r6, r7]
                | some k2 =>
                  have h9 := ix_ne0 hT hix
                  have r8 := hρ k2 (by have := ix_lt hix; omega)
                  simp [r0, r5, r6, r7, r8, h9]
              all_goals first | exact L0 | exact L1 _
      | some j =>
        obtain ⟨r, hj⟩ := hT.val hk
        have oj : look (enumL 0 (obs six T ++ tailX a x a0 fr b rr)) j = some (.box 84 (rcO (some r))) := by
          rw [Lb j (List.getElem?_eq_some_iff.1 hj).1, obs_get, hj]; rfl
        have hx' : (valT T ((bitsN six a (wideN six)).take i)).or x = some r := by rw [hv]; simp [hj]
        rw [hx'] at hend hnext
        have L2 : look (enumL 0 (obs six T ++ tailX a x a0 fr b rr)) (T.length + 2) = some (.box 84 (rcO x)) := L1 2
        have L3 : look (enumL 0 (obs six T ++ tailX a x a0 fr b rr)) (T.length + 3) = some (.box 4 [.bool x.isSome]) := L1 3
        have F6 : look fr 6 = some (.ptr (T.length + 2) 0) := by rw [← hfr]; rfl
        have F7 : look fr 7 = some (.ptr (T.length + 3) 0) := by rw [← hfr]; rfl
        have L6 : look (enumL 0 (obs six T ++ tailX a x a0 fr b rr)) (T.length + 6) = some (.sv a0 fr) := L1 6
        have L7 : look (enumL 0 (obs six T ++ tailX a x a0 fr b rr)) (T.length + 7) = some (.lp b rr .ready none) := L1 7
        by_cases hk0 : k = 0
        all_goals
          simp only [Ent.ob, hk0, if_true, if_false, ndCells, ptrO] at ok
          simp [curP, hx, offT, ok, L4, L5, o0, hk0, oj, rcO]
          refine ⟨T.length + 6, fr, L6, L7, rfl, fun aI => ?_⟩
          simp [putL, asgK, F6, F7, hlenX, Nat.add_assoc]
          refine ⟨T.length + 7, by simp [L7], ?_⟩
          simp [F6, F7, L2, L3, L7, rcO_length, Nat.add_assoc]
          refine endRd_normal (T.length + 8) (T.length + 7) (by simp; rfl) (by simp) ?_
          simp [L4, L5, o0]
          first | refine CallK.same (wide_spec six) rfl rfl ?_ | refine CallQ.same (wide_spec six) rfl rfl ?_ | refine CallQG.same _ (wide_spec six) rfl ?_ | refine CallG.same _ (wide_spec six) rfl ?_ | refine CallK.pv (wide_spec six) rfl rfl ?_
          simp [wide_N, L4, L5, o0]
          have n2 : ∀ p, p < T.length → ¬ T.length + 2 = p := fun p hp => by omega
          have n3 : ∀ p, p < T.length → ¬ T.length + 3 = p := fun p hp => by omega
          have n7 : ∀ p, p < T.length → ¬ T.length + 7 = p := fun p hp => by omega
          have n8 : ∀ p, p < T.length → ¬ T.length + 8 = p := fun p hp => by omega
          have n9 : ∀ p, p < T.length → ¬ T.length + 9 = p := fun p hp => by omega
          refine ⟨fun hi' => ?_, fun hi' => ?_⟩
          · refine hdone _ _ _ _ (some r) (hend (by omega)) ?_ ?_ ?_ ?_ ?_ ?_ ?_
            · omega
            · simp [L6]
            · simp
            · simp; exact L1 1
            · simp [rcO]
            · simp
            · intro p hp
              simp [n2 p hp, n3 p hp, n7 p hp, n8 p hp, n9 p hp, Lb p hp]
          · have hi' : i < wideN six := by omega
            have e1 : IntKind.i64.wrap (i + 1) = (i + 1 : Nat) := wrap64 (by omega) (by omega)
            have htk := htk hi'
            have hb := hb hi'
            have m2 := n2 k hkl
            have m3 := n3 k hkl
            have m7 := n7 k hkl
            have m8 := n8 k hkl
            have m9 := n9 k hkl
            first | refine CallK.same (bit_spec six a hw i hi') rfl rfl ?_ | refine CallQ.same (bit_spec six a hw i hi') rfl rfl ?_ | refine CallQG.same _ (bit_spec six a hw i hi') rfl ?_ | refine CallG.same _ (bit_spec six a hw i hi') rfl ?_ | refine CallK.pv (bit_spec six a hw i hi') rfl rfl ?_
            generalize bitN (wideN six) a.num i = bb at *
            rcases (by omega : bb = 0 ∨ bb = 1) with rfl | rfl
            all_goals
              simp [ok, e1, m2, m3, m7, m8, m9]
              refine Again.os (i + 1, some r) (List.range (obs six T ++ tailX a (some r) a0 fr b rr).length) ⟨hi', hnext hi'⟩ (by simp only; omega) ?_
              refine tail_ent six hT hT0 hsv ?_ ?_ ?_ ?_ ?_ ?_ ?_ ?_ ?_ ?_ ?_
              · omega
              · intro ρ hρ
                have r0 := hρ 0 (by omega)
                have r5 := hρ (T.length + 4) (by omega)
                have r6 := hρ (T.length + 5) (by omega)
                have r7 := hρ (T.length + 7) (by omega)
                rw [← htk]
                cases hix : ix T ((bitsN six a (wideN six)).take i ++ [_]) with
                | none => simp [r0, r5, r6, r7]
                | some k2 =>
                  have h9 := ix_ne0 hT hix
                  have r8 := hρ k2 (by have := ix_lt hix; omega)
                  simp [r0, r5, r6, r7, r8, h9]
              · intro p hp
                simp [n2 p hp, n3 p hp, n7 p hp, n8 p hp, n9 p hp, Lb p hp]
              · simp; exact L0
              · simp; exact L1 1
              · simp [rcO]
              · simp
              · simp [L4]
              · simp [L5]
              · simp [L6]
              · simp
end Go.Am

set_option linter.unusedVariables false
set_option linter.unusedSimpArgs false
set_option pp.deepTerms false
set_option pp.deepTerms.threshold 40
namespace Go.Am
open Go.Proofs

/-! ### which addresses a prefix has -/
def sameBits (six : Bool) (a b : Addr4) (n : Nat) : Bool := (List.range n).all fun i => bitAt (wideN six) a.num i == bitAt (wideN six) b.num i
def hasP (p : Pfx) (six : Bool) (a : Addr4) : Bool := checkP p == 0 && p.six == six && rightA six a && sameBits six p.addr a p.len.toNat
theorem sameBits_succ (six : Bool) (a b : Addr4) (n : Nat) : sameBits six a b (n + 1) = (sameBits six a b n && bitAt (wideN six) a.num n == bitAt (wideN six) b.num n) := by
  unfold sameBits
  rw [List.range_succ, List.all_append]
  simp
theorem checkP_len {p : Pfx} (h : checkP p = 0) : 0 ≤ p.len ∧ p.len ≤ wideN p.six ∧ rightA p.six p.addr = true := by
  unfold checkP at h
  split at h
  · cases h
  · rename_i h1
    simp at h1
    rw [wide_N] at h1
    exact ⟨h1.1.1, h1.1.2, h1.2⟩
/-! ### the best one -/
def lenO : Option Route → Int
  | none => -1
  | some r => r.pfx.len
def bcO : Option Route → List AV
  | none => [.bool false, .int .u64 0, .int .u64 0, .int .i64 (-1), .int .u8 0, .int .i64 0]
  | some r => r.iv.map .im
def bestF (six : Bool) (a : Addr4) : List Route → Option Route → Option Route
  | [], x => x
  | r :: l, x => bestF six a l (if lenO x < r.pfx.len ∧ hasP r.pfx six a = true then some r else x)
@[simp] theorem rcO_pure (x : Option Route) : AV.pureL (rcO x) = true := by cases x <;> rfl
end Go.Am

set_option linter.unusedVariables false
set_option linter.unusedSimpArgs false
set_option pp.deepTerms false
set_option pp.deepTerms.threshold 40
namespace Go.Am
open Go.Proofs

/-! ### the longest one is the best one -/
def maxV (f : Nat → Option Route) : Nat → Option Route → Option Route
  | 0, x => (f 0).or x
  | n + 1, x => (f (n + 1)).or (maxV f n x)
theorem maxV_shift (f : Nat → Option Route) : ∀ n x, maxV f (n + 1) x = maxV (fun i => f (i + 1)) n ((f 0).or x)
  | 0, x => rfl
  | n + 1, x => by
    rw [maxV, maxV_shift f n x, maxV]
theorem maxV_none (f : Nat → Option Route) : ∀ n x, (∀ i, i ≤ n → f i = none) → maxV f n x = x
  | 0, x, h => by rw [maxV, h 0 (Nat.le_refl _)]; rfl
  | n + 1, x, h => by rw [maxV, h (n + 1) (Nat.le_refl _), maxV_none f n x fun i hi => h i (by omega)]; rfl
theorem valT_none {T : List Ent} {q : List Nat} (h : ix T q = none) : valT T q = none := by unfold valT; rw [h]
theorem ix_none_more {T : List Ent} (hT : WT T) {q : List Nat} (h : ix T q = none) : ∀ (l : List Nat), ix T (q ++ l) = none := by
  intro l
  induction l generalizing q with
  | nil => simpa using h
  | cons b l ih =>
    have := ih (ix_below hT h b)
    simpa using this
theorem alongT_max {T : List Ent} (hT : WT T) : ∀ (l q : List Nat) (x : Option Route), alongT T l q x = maxV (fun i => valT T (q ++ l.take i)) l.length x
  | [], q, x => by
    rw [alongT, List.length_nil, maxV]
    split
    · simp
    · rename_i h
      rw [valT_none (by simpa using h)]; rfl
  | b :: l, q, x => by
    rw [alongT]
    split
    · rw [alongT_max hT l, List.length_cons, maxV_shift]
      simp
    · rename_i h
      rw [maxV_none]
      intro i _
      exact valT_none (ix_none_more hT (by simpa using h) _)
theorem maxV_some {f : Nat → Option Route} : ∀ {n : Nat} {r : Route}, maxV f n none = some r → ∃ i, i ≤ n ∧ f i = some r ∧ ∀ j, i < j → j ≤ n → f j = none
  | 0, r, h => by
    rw [maxV] at h
    exact ⟨0, Nat.le_refl _, by simpa using h, fun j h1 h2 => by omega⟩
  | n + 1, r, h => by
    rw [maxV] at h
    cases hf : f (n + 1) with
    | some y =>
      rw [hf] at h
      exact ⟨n + 1, Nat.le_refl _, by rw [hf]; simpa using h, fun j h1 h2 => by omega⟩
    | none =>
      rw [hf] at h
      obtain ⟨i, h1, h2, h3⟩ := maxV_some (by simpa using h)
      refine ⟨i, by omega, h2, fun j h4 h5 => ?_⟩
      by_cases e : j = n + 1
      · rw [e]; exact hf
      · exact h3 j h4 (by omega)
theorem maxV_eq_none {f : Nat → Option Route} : ∀ {n : Nat}, maxV f n none = none → ∀ i, i ≤ n → f i = none
  | 0, h, i, hi => by
    rw [maxV] at h
    have : i = 0 := by omega
    subst this
    simpa using h
  | n + 1, h, i, hi => by
    rw [maxV] at h
    rw [Option.or_eq_none_iff] at h
    by_cases e : i = n + 1
    · rw [e]; exact h.1
    · exact maxV_eq_none h.2 i (by omega)

theorem lastV_some {six : Bool} {q : List Nat} : ∀ {l : List Route} {x : Option Route} {r : Route}, lastV six q l x = some r → x = some r ∨ (r ∈ l ∧ r.pfx.six = six ∧ q = bitsN six r.pfx.addr r.pfx.len.toNat)
  | [], x, r, h => .inl h
  | y :: l, x, r, h => by
    rw [lastV] at h
    rcases lastV_some h with h | ⟨h1, h2⟩
    · split at h
      · rename_i hc
        cases h
        exact .inr ⟨List.mem_cons_self, hc⟩
      · exact .inl h
    · exact .inr ⟨List.mem_cons_of_mem _ h1, h2⟩
theorem lastV_isSome {six : Bool} {q : List Nat} : ∀ {l : List Route} {x : Option Route}, (x.isSome = true ∨ ∃ r ∈ l, r.pfx.six = six ∧ q = bitsN six r.pfx.addr r.pfx.len.toNat) → (lastV six q l x).isSome = true
  | [], x, h => by
    rcases h with h | ⟨r, h, _⟩
    · exact h
    · cases h
  | y :: l, x, h => by
    rw [lastV]
    refine lastV_isSome ?_
    rcases h with h | ⟨r, hr, hc⟩
    · left; split <;> simp [h]
    · rcases List.mem_cons.1 hr with rfl | hr
      · left; rw [if_pos hc]; rfl
      · exact .inr ⟨r, hr, hc⟩
theorem bestF_some {six : Bool} {a : Addr4} : ∀ {l : List Route} {x : Option Route} {r : Route}, bestF six a l x = some r → (x = some r ∨ (r ∈ l ∧ hasP r.pfx six a = true)) ∧ lenO x ≤ r.pfx.len ∧ ∀ y ∈ l, hasP y.pfx six a = true → y.pfx.len ≤ r.pfx.len
  | [], x, r, h => by
    have h : x = some r := h
    subst h
    exact ⟨.inl rfl, Int.le_refl _, fun y hy => by cases hy⟩
  | z :: l, x, r, h => by
    rw [bestF] at h
    obtain ⟨h1, h2, h3⟩ := bestF_some h
    split at h1
    · rename_i hc
      rw [if_pos hc] at h2
      simp only [lenO] at h2
      refine ⟨?_, by omega, fun y hy hp => ?_⟩
      · rcases h1 with h1 | h1
        · cases h1; exact .inr ⟨List.mem_cons_self, hc.2⟩
        · exact .inr ⟨List.mem_cons_of_mem _ h1.1, h1.2⟩
      · rcases List.mem_cons.1 hy with rfl | hy
        · exact h2
        · exact h3 y hy hp
    · rename_i hc
      rw [if_neg hc] at h2
      refine ⟨?_, h2, fun y hy hp => ?_⟩
      · rcases h1 with h1 | h1
        · exact .inl h1
        · exact .inr ⟨List.mem_cons_of_mem _ h1.1, h1.2⟩
      · rcases List.mem_cons.1 hy with rfl | hy
        · have : ¬ lenO x < y.pfx.len := fun h => hc ⟨h, hp⟩
          omega
        · exact h3 y hy hp
theorem bestF_none {six : Bool} {a : Addr4} : ∀ {l : List Route} {x : Option Route}, bestF six a l x = none → x = none ∧ ∀ y ∈ l, hasP y.pfx six a = true → y.pfx.len ≤ -1
  | [], x, h => ⟨h, fun y hy => by cases hy⟩
  | z :: l, x, h => by
    rw [bestF] at h
    obtain ⟨h1, h2⟩ := bestF_none h
    split at h1
    · cases h1
    · rename_i hc
      refine ⟨h1, fun y hy hp => ?_⟩
      subst h1
      rcases List.mem_cons.1 hy with rfl | hy
      · have : ¬ lenO none < y.pfx.len := fun h => hc ⟨h, hp⟩
        simpa [lenO] using this
      · exact h2 y hy hp

/-! prefixes that differ -/
theorem cmpP_iff (p q : Pfx) : cmpP p q < 0 ↔ kindP p < kindP q ∨ kindP p = kindP q ∧ (p.addr.hi < q.addr.hi ∨ p.addr.hi = q.addr.hi ∧ (p.addr.lo < q.addr.lo ∨ p.addr.lo = q.addr.lo ∧ p.len < q.len)) := by
  simp only [cmpP, cmpA, orInt, cmpI]
  repeat' split
  all_goals omega
theorem checkRL_sorted : ∀ {l : List Route} {pv : Option Pfx}, checkRL l pv = 0 → (∀ r ∈ l, routeOk r = true) ∧ (∀ p, pv = some p → ∀ r ∈ l, cmpP p r.pfx < 0) ∧ l.Pairwise fun r s => cmpP r.pfx s.pfx < 0
  | [], pv, h => ⟨fun r hr => (by cases hr), fun p _ r hr => (by cases hr), List.Pairwise.nil⟩
  | r :: l, pv, h => by
    rw [checkRL] at h
    split at h
    · cases h
    · rename_i hc
      simp only [Bool.or_eq_true, Bool.not_eq_true', not_or, Bool.not_eq_false] at hc
      obtain ⟨h1, h2, h3⟩ := checkRL_sorted h
      refine ⟨fun s hs => ?_, fun p hp s hs => ?_, List.Pairwise.cons (fun s hs => h2 _ rfl s hs) h3⟩
      · rcases List.mem_cons.1 hs with rfl | hs
        · exact hc.1
        · exact h1 s hs
      · subst hp
        have h4 : cmpP p r.pfx < 0 := by simpa [aheadR] using hc.2
        rcases List.mem_cons.1 hs with rfl | hs
        · exact h4
        · have h5 := h2 _ rfl s hs
          rw [cmpP_iff] at h4 h5 ⊢
          omega
theorem pfx_unique {l : List Route} (h : l.Pairwise fun r s => cmpP r.pfx s.pfx < 0) {r s : Route} (hr : r ∈ l) (hs : s ∈ l) (h0 : ¬ cmpP r.pfx s.pfx < 0) (h1 : ¬ cmpP s.pfx r.pfx < 0) : r = s := by
  induction h with
  | nil => cases hr
  | cons ha _ ih =>
    rcases List.mem_cons.1 hr with e1 | hr' <;> rcases List.mem_cons.1 hs with e2 | hs'
    · rw [e1, e2]
    · exact absurd (by rw [e1]; exact ha s hs') h0
    · exact absurd (by rw [e2]; exact ha r hr') h1
    · exact ih hr' hs'
theorem bitsN_eq {six : Bool} {a b : Addr4} {n : Nat} : bitsN six a n = bitsN six b n ↔ sameBits six a b n = true := by
  unfold bitsN sameBits
  rw [List.all_eq_true, List.map_inj_left]
  constructor
  · intro h i hi
    have := h i hi
    unfold bitN at this
    simp [bitAt, this]
  · intro h i hi
    have := h i hi
    simp [bitAt] at this
    unfold bitN
    exact_mod_cast this
/-- The number that the first bits are. -/
theorem div_bits (W : Nat) (V U : Nat) : ∀ n, n ≤ W → V < 2 ^ W → U < 2 ^ W → (∀ i, i < n → V / 2 ^ (W - 1 - i) % 2 = U / 2 ^ (W - 1 - i) % 2) → V / 2 ^ (W - n) = U / 2 ^ (W - n)
  | 0, _, hV, hU, _ => by rw [Nat.sub_zero, Nat.div_eq_of_lt hV, Nat.div_eq_of_lt hU]
  | n + 1, hn, hV, hU, h => by
    have ih := div_bits W V U n (by omega) hV hU fun i hi => h i (by omega)
    have hl := h n (by omega)
    have e : W - n = (W - (n + 1)) + 1 := by omega
    have e2 : W - 1 - n = W - (n + 1) := by omega
    rw [e, Nat.pow_succ, ← Nat.div_div_eq_div_mul, ← Nat.div_div_eq_div_mul] at ih
    rw [e2] at hl
    omega
theorem Addr4.num_inj {a b : Addr4} (ha : a.wf) (hb : b.wf) (h : a.num = b.num) : a = b := by
  obtain ⟨a1, a2, a3, a4⟩ := ha
  obtain ⟨b1, b2, b3, b4⟩ := hb
  cases a; cases b
  simp only [Addr4.num, Addr4.mk.injEq] at *
  omega
theorem Addr4.num_lt {six : Bool} {a : Addr4} (ha : a.wf) (hr : rightA six a = true) : a.num < 2 ^ wideN six := by
  obtain ⟨a1, a2, a3, a4⟩ := ha
  cases six with
  | true =>
    show a.num < 340282366920938463463374607431768211456
    unfold Addr4.num; omega
  | false =>
    show a.num < 4294967296
    unfold rightA at hr
    simp at hr
    obtain ⟨h1, h2⟩ := hr
    have h2 : a.lo / 4294967296 = 0 := by
      rw [← Int.fdiv_eq_ediv_of_nonneg _ (by omega)]; exact h2
    unfold Addr4.num; omega
theorem checkP_host {p : Pfx} (hw : p.addr.wf) (h : checkP p = 0) : p.addr.num % 2 ^ (wideN p.six - p.len.toNat) = 0 := by
  obtain ⟨l0, l1, l2⟩ := checkP_len h
  rw [← wide_N] at l1
  rw [← host_zero p hw l0 l1 l2]
  unfold checkP at h
  split at h
  · cases h
  · split at h
    · cases h
    · rename_i h2; simpa using h2
theorem bitsN_pfx {p q : Pfx} (hp : p.addr.wf) (hq : q.addr.wf) (h1 : checkP p = 0) (h2 : checkP q = 0) (hs : p.six = q.six) (hl : p.len = q.len) (hb : bitsN p.six p.addr p.len.toNat = bitsN p.six q.addr p.len.toNat) : p = q := by
  obtain ⟨l0, l1, l2⟩ := checkP_len h1
  obtain ⟨m0, m1, m2⟩ := checkP_len h2
  have g1 := checkP_host hp h1
  have g2 := checkP_host hq h2
  have k1 := Addr4.num_lt hp l2
  have k2 := Addr4.num_lt hq m2
  rw [← hs, ← hl] at g2
  rw [← hs] at k2
  have hd := div_bits (wideN p.six) p.addr.num q.addr.num p.len.toNat (by omega) k1 k2 fun i hi => by
    have := congrArg (fun l => l[i]?) hb
    simpa [bitsN, hi, bitN] using this
  have e1 := Nat.div_add_mod p.addr.num (2 ^ (wideN p.six - p.len.toNat))
  have e2 := Nat.div_add_mod q.addr.num (2 ^ (wideN p.six - p.len.toNat))
  rw [g1] at e1
  rw [g2, ← hd] at e2
  have hn : p.addr.num = q.addr.num := by omega
  have ha := Addr4.num_inj hp hq hn
  cases p; cases q
  simp only [Pfx.mk.injEq] at *
  exact ⟨hs, ha, hl⟩
theorem bitsN_length (six : Bool) (a : Addr4) (n : Nat) : (bitsN six a n).length = n := by simp [bitsN]
theorem bitsN_take_n (six : Bool) (a : Addr4) (n k : Nat) (h : k ≤ n) : (bitsN six a n).take k = bitsN six a k := by
  unfold bitsN
  rw [← List.map_take, List.take_range]
  congr 2; omega

/-- A trie's longest one is the best one. -/
theorem longest_best (six : Bool) (a : Addr4) (l : List Route) (hc : checkR l = 0) (hw : ∀ r ∈ l, r.pfx.addr.wf) (ha : rightA six a = true) :
    alongT (ofT six l [.nd [] none]) (bitsN six a (wideN six)) [] none = bestF six a l none := by
  have hcr : checkRL l none = 0 := by
    unfold checkR at hc
    split at hc
    · cases hc
    · exact hc
  obtain ⟨hok, -, hpw⟩ := checkRL_sorted hcr
  have hP : ∀ r ∈ l, checkP r.pfx = 0 := fun r hr => by
    have := hok r hr
    simp [routeOk] at this
    exact this.2
  obtain ⟨hT, hval⟩ := ofT_wt six l WT.one
  have hv0 : ∀ q, valT [Ent.nd [] none] q = none := by
    intro q
    unfold valT
    cases hi : ix [Ent.nd [] none] q with
    | none => rfl
    | some k =>
      have := ix_lt hi
      simp at this
      subst this
      rfl
  rw [alongT_max hT, bitsN_length]
  have hf : ∀ i, i ≤ wideN six → valT (ofT six l [.nd [] none]) ([] ++ (bitsN six a (wideN six)).take i) = lastV six (bitsN six a i) l none := by
    intro i hi
    rw [hval, hv0, List.nil_append, bitsN_take_n six a _ _ hi]
  have hmem : ∀ {i : Nat} {r : Route}, i ≤ wideN six → lastV six (bitsN six a i) l none = some r → r ∈ l ∧ hasP r.pfx six a = true ∧ r.pfx.len = i := by
    intro i r hi h
    rcases lastV_some h with h | ⟨h1, h2, h3⟩
    · cases h
    · have hl : i = r.pfx.len.toNat := by
        have := congrArg List.length h3
        simpa [bitsN_length] using this
      obtain ⟨l0, _, _⟩ := checkP_len (hP r h1)
      refine ⟨h1, ?_, by omega⟩
      unfold hasP
      rw [hP r h1, h2, ha, ← hl]
      have h3' := h3
      rw [← hl] at h3'
      have := bitsN_eq.1 h3'
      have hsym : sameBits six r.pfx.addr a i = true := by
        unfold sameBits at this ⊢
        rw [List.all_eq_true] at this ⊢
        intro j hj
        have := this j hj
        simp at this ⊢
        exact this.symm
      simp [hsym]
  have hhas : ∀ {r : Route}, r ∈ l → hasP r.pfx six a = true → 0 ≤ r.pfx.len ∧ r.pfx.len ≤ wideN six ∧ (lastV six (bitsN six a r.pfx.len.toNat) l none).isSome = true ∧ r.pfx.six = six ∧ bitsN six a r.pfx.len.toNat = bitsN six r.pfx.addr r.pfx.len.toNat := by
    intro r hr hh
    unfold hasP at hh
    simp only [Bool.and_eq_true, beq_iff_eq] at hh
    obtain ⟨⟨⟨h1, h2⟩, h3⟩, h4⟩ := hh
    obtain ⟨l0, l1, _⟩ := checkP_len h1
    rw [h2] at l1
    have hb := (bitsN_eq.2 h4).symm
    exact ⟨l0, l1, lastV_isSome (.inr ⟨r, hr, h2, hb⟩), h2, hb⟩
  cases hm : maxV (fun i => valT (ofT six l [.nd [] none]) ([] ++ (bitsN six a (wideN six)).take i)) (wideN six) none with
  | none =>
    have h0 := maxV_eq_none hm
    cases hb : bestF six a l none with
    | none => rfl
    | some r =>
      exfalso
      obtain ⟨h1, h2, h3⟩ := bestF_some hb
      rcases h1 with h1 | ⟨h1, h4⟩
      · cases h1
      · obtain ⟨k0, k1, k2, _⟩ := hhas h1 h4
        have := h0 r.pfx.len.toNat (by omega)
        rw [hf _ (by omega)] at this
        rw [this] at k2
        cases k2
  | some r =>
    obtain ⟨i, hi, h1, h2⟩ := maxV_some hm
    rw [hf i hi] at h1
    obtain ⟨r1, r2, r3⟩ := hmem hi h1
    cases hb : bestF six a l none with
    | none =>
      have := (bestF_none hb).2 r r1 r2
      omega
    | some s =>
      obtain ⟨g1, g2, g3⟩ := bestF_some hb
      rcases g1 with g1 | ⟨g1, g4⟩
      · cases g1
      · obtain ⟨k0, k1, k2, k3, k4⟩ := hhas g1 g4
        have hle := g3 r r1 r2
        have hge : s.pfx.len ≤ i := by
          apply Classical.byContradiction
          intro hc
          have := h2 s.pfx.len.toNat (by omega) (by omega)
          rw [hf _ (by omega)] at this
          rw [this] at k2
          cases k2
        obtain ⟨q0, q1, q2, q3, q4⟩ := hhas r1 r2
        have hlen : r.pfx.len = s.pfx.len := by omega
        have hp := bitsN_pfx (hw r r1) (hw s g1) (hP r r1) (hP s g1) (by rw [q3, k3]) hlen (by rw [q3, ← q4, hlen, ← k4])
        have := pfx_unique hpw r1 g1 (by rw [hp, cmpP_iff]; omega) (by rw [hp, cmpP_iff]; omega)
        rw [this]
end Go.Am

set_option linter.unusedVariables false
set_option linter.unusedSimpArgs false
set_option pp.deepTerms false
set_option pp.deepTerms.threshold 40
namespace Go.Am
open Go.Proofs

/-! ### a place in a row that is in order -/
theorem half_eq (lo hi : Nat) (h1 : lo ≤ 9223372036854775807) (h2 : hi ≤ 9223372036854775807) : IntKind.i64.wrap ((IntKind.u64.wrap (IntKind.i64.wrap ((lo : Int) + hi))).fdiv 2) = ((lo + hi) / 2 : Nat) := by
  have e : IntKind.u64.wrap (IntKind.i64.wrap ((lo : Int) + hi)) = (lo : Int) + hi := by
    simp [IntKind.wrap, IntKind.signed, IntKind.bits]
    omega
  rw [e, Int.fdiv_eq_ediv_of_nonneg _ (by omega), wrap64 (by omega) (by omega)]
  omega
/-- Where a first one that is not below stands. -/
def bsI {α : Type} (c : α → Int) : List α → Nat
  | [] => 0
  | x :: l => if c x < 0 then bsI c l + 1 else 0
def bsF {α : Type} (c : α → Int) (l : List α) : Bool := ((l[bsI c l]?).map fun x => decide (c x = 0)).getD false
theorem bsI_le {α : Type} (c : α → Int) : ∀ l : List α, bsI c l ≤ l.length
  | [] => Nat.le_refl _
  | x :: l => by
    rw [bsI]
    have := bsI_le c l
    split <;> simp <;> omega
theorem bsI_eq {α : Type} (c : α → Int) : ∀ (l : List α) (k : Nat), k ≤ l.length → (∀ i x, i < k → l[i]? = some x → c x < 0) → (∀ i x, k ≤ i → l[i]? = some x → ¬ c x < 0) → bsI c l = k
  | [], k, hk, _, _ => by simp at hk; rw [hk]; rfl
  | x :: l, 0, hk, h1, h2 => by
    rw [bsI, if_neg (h2 0 x (Nat.le_refl _) rfl)]
  | x :: l, k + 1, hk, h1, h2 => by
    rw [bsI, if_pos (h1 0 x (by omega) rfl), bsI_eq c l k (by simpa using hk) (fun i y hi hy => h1 (i + 1) y (by omega) (by simpa using hy)) (fun i y hi hy => h2 (i + 1) y (by omega) (by simpa using hy))]

def cmpL (n : Int) (x : Link) : Int := cmpI x.iface n
theorem cmpL_spec (x : Link) (n : Int) : FSpec Tryz.prog 102 [x.av, .int .i64 n] [] (.int .i64 (cmpL n x)) [] := by
  refine FSpec.of_flat (q := []) Tryz.func102 (by kernel_rfl) rfl Tryz.ntmps102 Tryz.results102 hP (by kernel_rfl) (by simp) (by first | rfl | simp) ?_
  simp
  first | refine CallK.same (cmpI_spec x.iface n) rfl rfl ?_ | refine CallQ.same (cmpI_spec x.iface n) rfl rfl ?_ | refine CallQG.same _ (cmpI_spec x.iface n) rfl ?_ | refine CallG.same _ (cmpI_spec x.iface n) rfl ?_ | refine CallK.pv (cmpI_spec x.iface n) rfl rfl ?_
  simp [cmpL]
def upL (c : Link → Int) (l : List Link) : Prop := ∀ (i j : Nat) (x y : Link), i ≤ j → l[i]? = some x → l[j]? = some y → (c y < 0 → c x < 0)
theorem bsL_spec (l : List Link) (n : Int) (hs : upL (cmpL n) l) :
    FSpec Tryz.prog 101 [.im (.sl 2 (l.map Link.iv)), .int .i64 n, .fn 102 []] [] (.tup [.int .i64 (bsI (cmpL n) l), .bool (bsF (cmpL n) l)]) [] := by
  refine FSpec.bd (enters_of Tryz.func101 (by kernel_rfl) rfl) fun hbd => ?_
  have hl : l.length ≤ 9223372036854775807 := by simp [maxLen] at hbd; omega
  refine FSpec.of_flat (q := []) Tryz.func101 (by kernel_rfl) rfl Tryz.ntmps101 Tryz.results101 hP (by kernel_rfl) (by simp) (by first | rfl | simp) ?_
  simp
  refine LoopK.plain (fun g : Nat × Nat => [(0, .im (.sl 2 (l.map Link.iv))), (1, .int .i64 n), (2, .fn 102 []), (8, .int .i64 l.length), (9, .int .i64 g.1), (10, .int .i64 g.2)])
    (fun g => g.1 ≤ g.2 ∧ g.2 ≤ l.length ∧ (∀ i x, i < g.1 → l[i]? = some x → cmpL n x < 0) ∧ (∀ i x, g.2 ≤ i → l[i]? = some x → 0 ≤ cmpL n x)) (fun g => g.2 - g.1) (0, l.length) ?_ ?_ ?_
  · exact ⟨Nat.zero_le _, Nat.le_refl _, fun i x hi => by omega, fun i x hi hx => by rw [List.getElem?_eq_none hi] at hx; cases hx⟩
  · simp
  rintro ⟨lo, hi⟩ ⟨h1, h2, h3, h4⟩
  simp only at h1 h2 h3 h4
  by_cases hlt : lo < hi
  · have hm := half_eq lo hi (by omega) (by omega)
    have hml : (lo + hi) / 2 < l.length := by omega
    obtain ⟨m, hmm⟩ : ∃ m, m = (lo + hi) / 2 := ⟨_, rfl⟩
    rw [← hmm] at hm hml
    have hg := List.getElem?_eq_getElem hml
    have hw1 : IntKind.i64.wrap (m + 1) = (m + 1 : Nat) := wrap64 (by omega) (by omega)
    simp [hlt, hm, hml, hg]
    generalize l[m] = x at *
    first | refine CallK.same (cmpL_spec x n) rfl rfl ?_ | refine CallQ.same (cmpL_spec x n) rfl rfl ?_ | refine CallQG.same _ (cmpL_spec x n) rfl ?_ | refine CallG.same _ (cmpL_spec x n) rfl ?_ | refine CallK.pv (cmpL_spec x n) rfl rfl ?_
    simp [hw1]
    refine ⟨fun hc => ?_, fun hc => ?_⟩
    · refine Again.plain (m + 1, hi) ⟨by omega, h2, fun i y hi' hy => ?_, h4⟩ (by simp only; omega) (by simp)
      exact hs i m y x (by omega) hy hg hc
    · refine Again.plain (lo, m) ⟨by omega, by omega, h3, fun i y hi' hy => ?_⟩ (by simp only; omega) (by simp)
      apply Classical.byContradiction
      intro hc'
      have := hs m i x y hi' hg hy (by omega)
      omega
  · have : lo = hi := by omega
    subst this
    have hb := bsI_eq (cmpL n) l lo h2 h3 (fun i x h5 h6 => by have := h4 i x h5 h6; omega)
    by_cases hll : lo < l.length
    · have hg := List.getElem?_eq_getElem hll
      simp [hll]
      generalize l[lo] = x at *
      first | refine CallK.same (cmpL_spec x n) rfl rfl ?_ | refine CallQ.same (cmpL_spec x n) rfl rfl ?_ | refine CallQG.same _ (cmpL_spec x n) rfl ?_ | refine CallG.same _ (cmpL_spec x n) rfl ?_ | refine CallK.pv (cmpL_spec x n) rfl rfl ?_
      simp [bsF, hb, hg]
      rfl
    · simp [hll, List.getElem?_eq_none (show l.length ≤ lo by omega)]
      refine CallG.off (.int .i64 0) ?_
      simp [bsF, hb, List.getElem?_eq_none (show l.length ≤ lo by omega)]
end Go.Am

set_option linter.unusedVariables false
set_option linter.unusedSimpArgs false
set_option pp.deepTerms false
set_option pp.deepTerms.threshold 40
namespace Go.Am
open Go.Proofs

/-! ### a link's peer -/
theorem cmpL_neg (n : Int) (x : Link) : cmpL n x < 0 ↔ x.iface < n := by
  unfold cmpL cmpI
  repeat' split
  all_goals omega
theorem cmpL_zero (n : Int) (x : Link) : cmpL n x = 0 ↔ x.iface = n := by
  unfold cmpL cmpI
  repeat' split
  all_goals omega
theorem checkLL_sorted : ∀ {l : List Link} {ah : Int}, checkLL l ah = 0 → (∀ x ∈ l, ah < x.iface) ∧ l.Pairwise fun x y => x.iface < y.iface
  | [], ah, h => ⟨fun x hx => (by cases hx), List.Pairwise.nil⟩
  | x :: l, ah, h => by
    rw [checkLL] at h
    split at h
    · cases h
    · rename_i hc
      simp at hc
      obtain ⟨h1, h2⟩ := checkLL_sorted h
      refine ⟨fun y hy => ?_, List.Pairwise.cons h1 h2⟩
      rcases List.mem_cons.1 hy with rfl | hy
      · exact hc.2
      · have := h1 y hy; omega
theorem checkL_sorted {l : List Link} (h : checkL l = 0) : l.Pairwise fun x y => x.iface < y.iface := by
  unfold checkL at h
  split at h
  · cases h
  · exact (checkLL_sorted h).2
theorem upL_of {l : List Link} (h : l.Pairwise fun x y => x.iface < y.iface) (n : Int) : upL (cmpL n) l := by
  intro i j x y hij hx hy hc
  rw [cmpL_neg] at hc ⊢
  rcases Nat.eq_or_lt_of_le hij with e | hlt
  · subst e; rw [hx] at hy; cases hy; exact hc
  · obtain ⟨hi, e1⟩ := List.getElem?_eq_some_iff.1 hx
    obtain ⟨hj, e2⟩ := List.getElem?_eq_some_iff.1 hy
    have := List.pairwise_iff_getElem.1 h i j hi hj hlt
    rw [e1, e2] at this
    omega
def peerF (l : List Link) (n : Int) : Option Int := (l.find? fun x => decide (x.iface = n)).map Link.peer
theorem peerF_bs : ∀ {l : List Link} {n : Int}, (l.Pairwise fun x y => x.iface < y.iface) → peerF l n = if bsF (cmpL n) l then (l[bsI (cmpL n) l]?).map Link.peer else none
  | [], n, h => rfl
  | x :: l, n, h => by
    have ih := peerF_bs (n := n) (List.Pairwise.of_cons h)
    unfold peerF bsF at *
    rw [bsI, List.find?_cons]
    by_cases h1 : x.iface < n
    · have e1 : cmpL n x < 0 := (cmpL_neg n x).2 h1
      have e2 : decide (x.iface = n) = false := by simp; omega
      simp only [e1, if_true, e2, List.getElem?_cons_succ]
      exact ih
    · have e1 : ¬ cmpL n x < 0 := fun h => h1 ((cmpL_neg n x).1 h)
      simp only [e1, if_false, List.getElem?_cons_zero]
      by_cases h2 : x.iface = n
      · have := (cmpL_zero n x).2 h2
        simp [h2, this]
      · have h3 : ¬ cmpL n x = 0 := fun h => h2 ((cmpL_zero n x).1 h)
        have hno : l.find? (fun x => decide (x.iface = n)) = none := by
          rw [List.find?_eq_none]
          intro y hy
          have := List.rel_of_pairwise_cons h hy
          simp; omega
        simp [h2, h3, hno]
theorem findL_spec (l : List Link) (n : Int) (hs : upL (cmpL n) l) :
    FSpec Tryz.prog 81 [.im (.sl 2 (l.map Link.iv)), .int .i64 n] [] (.tup [.int .i64 (bsI (cmpL n) l), .bool (bsF (cmpL n) l)]) [] := by
  refine FSpec.of_flat (q := []) Tryz.func81 (by kernel_rfl) rfl Tryz.ntmps81 Tryz.results81 hP (by kernel_rfl) (by simp) (by first | rfl | simp) ?_
  simp
  first | refine CallK.same (bsL_spec l n hs) rfl rfl ?_ | refine CallQ.same (bsL_spec l n hs) rfl rfl ?_ | refine CallQG.same _ (bsL_spec l n hs) rfl ?_ | refine CallG.same _ (bsL_spec l n hs) rfl ?_ | refine CallK.pv (bsL_spec l n hs) rfl rfl ?_
  simp
theorem bsF_lt {α : Type} {c : α → Int} {l : List α} (h : bsF c l = true) : ∃ x, l[bsI c l]? = some x := by
  unfold bsF at h
  cases hx : l[bsI c l]? with
  | none => rw [hx] at h; cases h
  | some x => exact ⟨x, rfl⟩
theorem peerL_spec (l : List Link) (n : Int) (hc : checkL l = 0) :
    FSpec Tryz.prog 64 [.im (.sl 2 (l.map Link.iv)), .int .i64 n] [] (.tup [.int .i64 ((peerF l n).getD 0), .int .i64 (if (peerF l n).isSome then 0 else 3)]) [] := by
  have hp := checkL_sorted hc
  have hu := upL_of hp n
  rw [peerF_bs hp]
  refine FSpec.of_flat (q := []) Tryz.func64 (by kernel_rfl) rfl Tryz.ntmps64 Tryz.results64 hP (by kernel_rfl) (by simp) (by first | rfl | simp) ?_
  simp
  first | refine CallK.same (checkL_spec l) rfl rfl ?_ | refine CallQ.same (checkL_spec l) rfl rfl ?_ | refine CallQG.same _ (checkL_spec l) rfl ?_ | refine CallG.same _ (checkL_spec l) rfl ?_ | refine CallK.pv (checkL_spec l) rfl rfl ?_
  simp [hc]
  first | refine CallK.same (findL_spec l n hu) rfl rfl ?_ | refine CallQ.same (findL_spec l n hu) rfl rfl ?_ | refine CallQG.same _ (findL_spec l n hu) rfl ?_ | refine CallG.same _ (findL_spec l n hu) rfl ?_ | refine CallK.pv (findL_spec l n hu) rfl rfl ?_
  simp
  cases hb : bsF (cmpL n) l with
  | false => simp
  | true =>
    obtain ⟨x, hx⟩ := bsF_lt hb
    have hlt := (List.getElem?_eq_some_iff.1 hx).1
    simp [hx, hlt]
end Go.Am

set_option linter.unusedVariables false
set_option linter.unusedSimpArgs false
set_option pp.deepTerms false
set_option pp.deepTerms.threshold 40
namespace Go.Am
open Go.Proofs

/-! ### what a router does with a packet -/
theorem look_enumL_lt {o : List (Nat × AObj)} {k : Nat} : ∀ (l : List AObj) (b : Nat), k < b → look (enumL b l ++ o) k = look o k
  | [], _, _ => rfl
  | x :: l, b, h => by
    simp only [enumL, List.cons_append, look]
    rw [if_neg (by omega), look_enumL_lt l (b + 1) (by omega)]
theorem look_enumL_at {o : List (Nat × AObj)} (l : List AObj) (b i : Nat) (h : i < l.length) : look (enumL b l ++ o) (b + i) = l[i]? := by
  induction l generalizing b i with
  | nil => simp at h
  | cons x l ih =>
    simp only [enumL, List.cons_append, look]
    cases i with
    | zero => simp
    | succ i =>
      rw [if_neg (by omega), show b + (i + 1) = b + 1 + i by omega, ih (b + 1) i (by simpa using h)]
      simp
theorem look_enumX_ne {o : List (Nat × AObj)} {g : Nat → Nat} {f : AObj → AObj} {k : Nat} : ∀ (l : List AObj) (j : Nat), (∀ i, g i ≠ k) → look (enumX g f l j ++ o) k = look o k
  | [], _, _ => rfl
  | x :: l, j, h => by
    simp only [enumX, List.cons_append, look]
    rw [if_neg (h j), look_enumX_ne l (j + 1) h]
theorem nmX_ge {b N nx : Nat} (h : b ≤ nx) (i : Nat) : b ≤ nmX (List.range' b N) nx i := by
  unfold nmX
  split
  · rename_i h1
    simp at h1
    simp [List.getD_eq_getElem?_getD, List.getElem?_range', h1]
  · omega
theorem look_enumX_lt {o : List (Nat × AObj)} {f : AObj → AObj} {l : List AObj} {k b N nx : Nat} (h1 : k < b) (h2 : b ≤ nx) : look (enumX (nmX (List.range' b N) nx) f l 0 ++ o) k = look o k :=
  look_enumX_ne l 0 fun i e => by have := nmX_ge (N := N) h2 i; omega
theorem ptrO_ren2 {ρ σ : Nat → Nat} {N : Nat} (hρ : ∀ k, k < N → ρ k = σ k) : ∀ {v : Option Nat}, (∀ k, v = some k → k < N) → (ptrO v).ren ρ = (ptrO v).ren σ
  | none, _ => rfl
  | some k, h => by simp only [ptrO, AV.ren]; rw [hρ k (h k rfl)]
theorem ob_ren2 (six : Bool) {T : List Ent} (hT : WT T) {i : Nat} {e : Ent} (h : T[i]? = some e) {ρ σ : Nat → Nat} (hρ : ∀ k, k < T.length → ρ k = σ k) : (Ent.ob six T i e).ren ρ = (Ent.ob six T i e).ren σ := by
  cases e with
  | nd q v =>
    have hv : (ptrO v).ren ρ = (ptrO v).ren σ := ptrO_ren2 hρ fun k hk => by
      subst hk
      obtain ⟨r, hr⟩ := hT.val h
      exact (List.getElem?_eq_some_iff.1 hr).1
    have hx : ∀ q, (ptrO (ix T q)).ren ρ = (ptrO (ix T q)).ren σ := fun q => ptrO_ren2 hρ fun k hk => ix_lt hk
    simp only [Ent.ob, ndCells]
    split <;> simp only [AObj.ren, AV.renL, hv, hx] <;> rfl
  | rt r => rfl
  | pb p => rfl
theorem entObjs_of {o : List (Nat × AObj)} {ρ : Nat → Nat} : ∀ (l : List AObj) (j : Nat), (∀ i o', l[i]? = some o' → ∃ ob, look o (ρ (j + i)) = some ob ∧ ob.le (o'.ren ρ)) → EntObjs o ρ j l
  | [], _, _ => trivial
  | x :: l, j, h => by
    refine ⟨h 0 x rfl, entObjs_of l (j + 1) fun i o' hi => ?_⟩
    have := h (i + 1) o' (by simpa using hi)
    rwa [show j + (i + 1) = j + 1 + i by omega] at this
theorem ob_le_ren (six : Bool) (T : List Ent) (i : Nat) (e : Ent) (ρ : Nat → Nat) : ((Ent.ob six T i e).ren ρ).le ((Ent.ob six T i e).ren ρ) := by
  cases e <;> simp only [Ent.ob] <;> (try split) <;> exact ⟨rfl, AV.leL_refl _⟩
theorem nmOf_range' {b N nx i : Nat} (h : i < N) : nmOf (List.range' b N) nx i = b + i := by
  unfold nmOf
  rw [List.getElem?_range' h]
  simp
structure Hop where
  kind : Int
  peer : Int
@[simp] def Hop.av (h : Hop) : AV := .agg [.int .u8 h.kind, .int .i64 h.peer]
def hopF (r : Router) (six : Bool) (a : Addr4) : Hop :=
  match bestF six a r.routes none with
  | none => ⟨0, 0⟩
  | some x => if x.act.kind = 2 then ⟨2, 0⟩ else if x.act.kind = 3 then ⟨3, 0⟩ else match peerF r.links x.act.iface with
    | none => ⟨0, 0⟩
    | some p => ⟨1, p⟩
set_option maxRecDepth 4000 in
theorem does_spec (r : Router) (six : Bool) (a : Addr4) (hw : r.wf) (hok : routerOk r = true) (ha : a.wf) (hr : rightA six a = true) : FSpec Tryz.prog 35 [r.av, .bool six, a.av] [] (hopF r six a).av [] := by
  unfold routerOk at hok
  simp only [Bool.and_eq_true, beq_iff_eq] at hok
  have hcr := hok.1.2
  have hcl := hok.2
  have hcr' : checkRL r.routes none = 0 := by
    unfold checkR at hcr
    split at hcr
    · cases hcr
    · exact hcr
  have hQ : ∀ x ∈ r.routes, x.pfx.addr.wf ∧ 0 ≤ x.pfx.len ∧ x.pfx.len ≤ wideN x.pfx.six := fun x hx => by
    have := (checkRL_sorted hcr').1 x hx
    simp [routeOk] at this
    obtain ⟨h1, h2, _⟩ := checkP_len this.2
    exact ⟨hw x hx, h1, h2⟩
  have hT := (ofT_wt six r.routes WT.one).1
  have hlb := longest_best six a r.routes hcr hw hr
  refine FSpec.of_flat (q := [(1, .m [.p [], .p [], .p [], .e [13, 14], .p [0], .e [15, 16], .p [], .p [], .p [3], .a 0 2, .e [7, 18]])]) Tryz.func35 (by kernel_rfl) rfl Tryz.ntmps35 Tryz.results35 hP (by kernel_rfl) (by simp) (by first | rfl | simp) ?_
  simp
  refine CallK.outs [] (of_spec r.routes six hQ) rfl ?_ ?_ ?_
  · simp
  · simp [AV.flat]
  generalize hTT : ofT six r.routes [.nd [] none] = T at *
  simp [look_enumL_lt]
  refine CallO.mk [] (List.range' 4 T.length) (longest_spec six T a hT ha) List.nodup_range' ?_ ?_ ?_ ?_ ?_
  · simp
  · simp
  · refine entObjs_of _ 0 fun i o' ho => ?_
    have hi : i < T.length := by have := (List.getElem?_eq_some_iff.1 ho).1; simpa using this
    rw [Nat.zero_add, nmOf_range' hi]
    simp only [St.freeze]
    rw [look_enumL_at _ _ _ (by simpa using hi), List.getElem?_map, ho]
    refine ⟨_, rfl, ?_⟩
    rw [obs_get, Option.map_eq_some_iff] at ho
    obtain ⟨e, he, rfl⟩ := ho
    rw [ob_ren2 six hT he (ρ := fun x => x + 4) (σ := nmOf (List.range' 4 T.length) (4 + T.length)) (fun k hk => by rw [nmOf_range' hk]; omega)]
    exact ob_le_ren _ _ _ _ _
  · have hT0 : 0 < T.length := by obtain ⟨v, hv⟩ := hT.root; exact (List.getElem?_eq_some_iff.1 hv).1
    have r0 : nmOf (List.range' 4 T.length) (4 + T.length) 0 = 4 := nmOf_range' hT0
    simp [-nmOf, r0]
  · rw [hlb]
    unfold hopF
    cases hb : bestF six a r.routes none with
    | none =>
      simp [look_enumX_lt, look_enumL_lt, rcO]
    | some x =>
      simp [look_enumX_lt, look_enumL_lt, rcO]
      refine ⟨fun h => by simp [h], fun h => ⟨fun h' => by simp [h, h'], fun h' => ?_⟩⟩
      first | refine CallK.same (peerL_spec r.links x.act.iface hcl) rfl rfl ?_ | refine CallQ.same (peerL_spec r.links x.act.iface hcl) rfl rfl ?_ | refine CallQG.same _ (peerL_spec r.links x.act.iface hcl) rfl ?_ | refine CallG.same _ (peerL_spec r.links x.act.iface hcl) rfl ?_ | refine CallK.pv (peerL_spec r.links x.act.iface hcl) rfl rfl ?_
      simp [look_enumX_lt, look_enumL_lt, h, h']
      cases peerF r.links x.act.iface <;> simp

end Go.Am

set_option linter.unusedVariables false
set_option linter.unusedSimpArgs false
set_option pp.deepTerms false
set_option pp.deepTerms.threshold 40
namespace Go.Am
open Go.Proofs

/-! ### a router's place -/
def cmpT (n : Int) (x : Router) : Int := cmpI x.id n
theorem cmpT_spec (x : Router) (n : Int) : FSpec Tryz.prog 60 [x.av, .int .i64 n] [] (.int .i64 (cmpT n x)) [] := by
  refine FSpec.of_flat (q := []) Tryz.func60 (by kernel_rfl) rfl Tryz.ntmps60 Tryz.results60 hP (by kernel_rfl) (by simp) (by first | rfl | simp) ?_
  simp
  first | refine CallK.same (cmpI_spec x.id n) rfl rfl ?_ | refine CallQ.same (cmpI_spec x.id n) rfl rfl ?_ | refine CallQG.same _ (cmpI_spec x.id n) rfl ?_ | refine CallG.same _ (cmpI_spec x.id n) rfl ?_ | refine CallK.pv (cmpI_spec x.id n) rfl rfl ?_
  simp [cmpT]
def upT (c : Router → Int) (l : List Router) : Prop := ∀ (i j : Nat) (x y : Router), i ≤ j → l[i]? = some x → l[j]? = some y → (c y < 0 → c x < 0)
theorem bsT_spec (l : List Router) (n : Int) (hs : upT (cmpT n) l) :
    FSpec Tryz.prog 59 [.im (.sl 4 (l.map Router.iv)), .int .i64 n, .fn 60 []] [] (.tup [.int .i64 (bsI (cmpT n) l), .bool (bsF (cmpT n) l)]) [] := by
  refine FSpec.bd (enters_of Tryz.func59 (by kernel_rfl) rfl) fun hbd => ?_
  have hl : l.length ≤ 9223372036854775807 := by simp [maxLen] at hbd; omega
  refine FSpec.of_flat (q := []) Tryz.func59 (by kernel_rfl) rfl Tryz.ntmps59 Tryz.results59 hP (by kernel_rfl) (by simp) (by first | rfl | simp) ?_
  simp
  refine LoopK.plain (fun g : Nat × Nat => [(0, .im (.sl 4 (l.map Router.iv))), (1, .int .i64 n), (2, .fn 60 []), (8, .int .i64 l.length), (9, .int .i64 g.1), (10, .int .i64 g.2)])
    (fun g => g.1 ≤ g.2 ∧ g.2 ≤ l.length ∧ (∀ i x, i < g.1 → l[i]? = some x → cmpT n x < 0) ∧ (∀ i x, g.2 ≤ i → l[i]? = some x → 0 ≤ cmpT n x)) (fun g => g.2 - g.1) (0, l.length) ?_ ?_ ?_
  · exact ⟨Nat.zero_le _, Nat.le_refl _, fun i x hi => by omega, fun i x hi hx => by rw [List.getElem?_eq_none hi] at hx; cases hx⟩
  · simp
  rintro ⟨lo, hi⟩ ⟨h1, h2, h3, h4⟩
  simp only at h1 h2 h3 h4
  by_cases hlt : lo < hi
  · have hm := half_eq lo hi (by omega) (by omega)
    have hml : (lo + hi) / 2 < l.length := by omega
    obtain ⟨m, hmm⟩ : ∃ m, m = (lo + hi) / 2 := ⟨_, rfl⟩
    rw [← hmm] at hm hml
    have hg := List.getElem?_eq_getElem hml
    have hw1 : IntKind.i64.wrap (m + 1) = (m + 1 : Nat) := wrap64 (by omega) (by omega)
    simp [hlt, hm, hml, hg]
    generalize l[m] = x at *
    first | refine CallK.same (cmpT_spec x n) rfl rfl ?_ | refine CallQ.same (cmpT_spec x n) rfl rfl ?_ | refine CallQG.same _ (cmpT_spec x n) rfl ?_ | refine CallG.same _ (cmpT_spec x n) rfl ?_ | refine CallK.pv (cmpT_spec x n) rfl rfl ?_
    simp [hw1]
    refine ⟨fun hc => ?_, fun hc => ?_⟩
    · refine Again.plain (m + 1, hi) ⟨by omega, h2, fun i y hi' hy => ?_, h4⟩ (by simp only; omega) (by simp)
      exact hs i m y x (by omega) hy hg hc
    · refine Again.plain (lo, m) ⟨by omega, by omega, h3, fun i y hi' hy => ?_⟩ (by simp only; omega) (by simp)
      apply Classical.byContradiction
      intro hc'
      have := hs m i x y hi' hg hy (by omega)
      omega
  · have : lo = hi := by omega
    subst this
    have hb := bsI_eq (cmpT n) l lo h2 h3 (fun i x h5 h6 => by have := h4 i x h5 h6; omega)
    by_cases hll : lo < l.length
    · have hg := List.getElem?_eq_getElem hll
      simp [hll]
      generalize l[lo] = x at *
      first | refine CallK.same (cmpT_spec x n) rfl rfl ?_ | refine CallQ.same (cmpT_spec x n) rfl rfl ?_ | refine CallQG.same _ (cmpT_spec x n) rfl ?_ | refine CallG.same _ (cmpT_spec x n) rfl ?_ | refine CallK.pv (cmpT_spec x n) rfl rfl ?_
      simp [bsF, hb, hg]
      rfl
    · simp [hll, List.getElem?_eq_none (show l.length ≤ lo by omega)]
      refine CallG.off (.int .i64 0) ?_
      simp [bsF, hb, List.getElem?_eq_none (show l.length ≤ lo by omega)]
end Go.Am

set_option linter.unusedVariables false
set_option linter.unusedSimpArgs false
set_option pp.deepTerms false
set_option pp.deepTerms.threshold 40
namespace Go.Am
open Go.Proofs

/-! ### what a net does with a packet -/
theorem checkSL_sorted : ∀ {l : List Seat} {ah : Int}, checkSL l ah = 0 → (∀ x ∈ l, ah < x.router) ∧ l.Pairwise fun x y => x.router < y.router
  | [], ah, h => ⟨fun x hx => (by cases hx), List.Pairwise.nil⟩
  | x :: l, ah, h => by
    rw [checkSL] at h
    split at h
    · cases h
    · rename_i hc
      simp at hc
      obtain ⟨h1, h2⟩ := checkSL_sorted h
      refine ⟨fun y hy => ?_, List.Pairwise.cons h1 h2⟩
      rcases List.mem_cons.1 hy with rfl | hy
      · exact hc.2
      · have := h1 y hy; omega
theorem zipOk_map : ∀ {l : List Router} {t : List Seat}, zipOk l t = true → l.map Router.id = t.map Seat.router ∧ ∀ r ∈ l, routerOk r = true
  | [], [], _ => ⟨rfl, fun r hr => (by cases hr)⟩
  | r :: l, s :: t, h => by
    simp [zipOk] at h
    obtain ⟨⟨⟨h1, h2⟩, h3⟩, h4⟩ := h
    obtain ⟨g1, g2⟩ := zipOk_map h4
    refine ⟨by simp [h2, g1], fun x hx => ?_⟩
    rcases List.mem_cons.1 hx with rfl | hx
    · exact h1
    · exact g2 x hx
  | [], _ :: _, h => by simp [zipOk] at h
  | _ :: _, [], h => by simp [zipOk] at h
theorem netOk_routers {n : Net} (h : netOk n = true) : (n.routers.Pairwise fun x y => x.id < y.id) ∧ ∀ r ∈ n.routers, routerOk r = true := by
  unfold netOk at h
  simp only [Bool.and_eq_true, beq_iff_eq] at h
  obtain ⟨⟨⟨h1, h2⟩, h3⟩, h4⟩ := h
  obtain ⟨g1, g2⟩ := zipOk_map h3
  refine ⟨?_, g2⟩
  have : (n.seats.map Seat.router).Pairwise (· < ·) := by
    unfold checkS at h1
    split at h1
    · cases h1
    · rw [List.pairwise_map]; exact (checkSL_sorted h1).2
  rw [← g1, List.pairwise_map] at this
  exact this
theorem cmpT_neg (n : Int) (x : Router) : cmpT n x < 0 ↔ x.id < n := by
  unfold cmpT cmpI
  repeat' split
  all_goals omega
theorem cmpT_zero (n : Int) (x : Router) : cmpT n x = 0 ↔ x.id = n := by
  unfold cmpT cmpI
  repeat' split
  all_goals omega
theorem upT_of {l : List Router} (h : l.Pairwise fun x y => x.id < y.id) (n : Int) : upT (cmpT n) l := by
  intro i j x y hij hx hy hc
  rw [cmpT_neg] at hc ⊢
  rcases Nat.eq_or_lt_of_le hij with e | hlt
  · subst e; rw [hx] at hy; cases hy; exact hc
  · obtain ⟨hi, e1⟩ := List.getElem?_eq_some_iff.1 hx
    obtain ⟨hj, e2⟩ := List.getElem?_eq_some_iff.1 hy
    have := List.pairwise_iff_getElem.1 h i j hi hj hlt
    rw [e1, e2] at this
    omega
def routerF (l : List Router) (n : Int) : Option Router := l.find? fun x => decide (x.id = n)
theorem routerF_bs : ∀ {l : List Router} {n : Int}, (l.Pairwise fun x y => x.id < y.id) → routerF l n = if bsF (cmpT n) l then l[bsI (cmpT n) l]? else none
  | [], n, h => rfl
  | x :: l, n, h => by
    have ih := routerF_bs (n := n) (List.Pairwise.of_cons h)
    unfold routerF bsF at *
    rw [bsI, List.find?_cons]
    by_cases h1 : x.id < n
    · have e1 : cmpT n x < 0 := (cmpT_neg n x).2 h1
      have e2 : decide (x.id = n) = false := by simp; omega
      simp only [e1, if_true, e2, List.getElem?_cons_succ]
      exact ih
    · have e1 : ¬ cmpT n x < 0 := fun h => h1 ((cmpT_neg n x).1 h)
      simp only [e1, if_false, List.getElem?_cons_zero]
      by_cases h2 : x.id = n
      · have := (cmpT_zero n x).2 h2
        simp [h2, this]
      · have h3 : ¬ cmpT n x = 0 := fun h => h2 ((cmpT_zero n x).1 h)
        have hno : l.find? (fun x => decide (x.id = n)) = none := by
          rw [List.find?_eq_none]
          intro y hy
          have := List.rel_of_pairwise_cons h hy
          simp; omega
        simp [h2, h3, hno]
theorem place_spec (n : Net) (x : Int) (hs : upT (cmpT x) n.routers) :
    FSpec Tryz.prog 34 [n.av, .int .i64 x] [] (.tup [.int .i64 (bsI (cmpT x) n.routers), .bool (bsF (cmpT x) n.routers)]) [] := by
  refine FSpec.of_flat (q := []) Tryz.func34 (by kernel_rfl) rfl Tryz.ntmps34 Tryz.results34 hP (by kernel_rfl) (by simp) (by first | rfl | simp) ?_
  simp
  first | refine CallK.same (bsT_spec n.routers x hs) rfl rfl ?_ | refine CallQ.same (bsT_spec n.routers x hs) rfl rfl ?_ | refine CallQG.same _ (bsT_spec n.routers x hs) rfl ?_ | refine CallG.same _ (bsT_spec n.routers x hs) rfl ?_ | refine CallK.pv (bsT_spec n.routers x hs) rfl rfl ?_
  simp
def doesF (n : Net) (x : Int) (six : Bool) (a : Addr4) : Hop :=
  match routerF n.routers x with
  | none => ⟨0, 0⟩
  | some r => hopF r six a
theorem doesN_spec (n : Net) (x : Int) (six : Bool) (a : Addr4) (hok : netOk n = true) (hw : n.wf) (ha : a.wf) (hr : rightA six a = true) :
    FSpec Tryz.prog 23 [n.av, .int .i64 x, .bool six, a.av] [] (doesF n x six a).av [] := by
  obtain ⟨hp, hq⟩ := netOk_routers hok
  refine FSpec.of_flat (q := [(4, .n 7)]) Tryz.func23 (by kernel_rfl) rfl Tryz.ntmps23 Tryz.results23 hP (by kernel_rfl) (by simp) (by first | rfl | simp) ?_
  simp
  first | refine CallK.same (place_spec n x (upT_of hp x)) rfl rfl ?_ | refine CallQ.same (place_spec n x (upT_of hp x)) rfl rfl ?_ | refine CallQG.same _ (place_spec n x (upT_of hp x)) rfl ?_ | refine CallG.same _ (place_spec n x (upT_of hp x)) rfl ?_ | refine CallK.pv (place_spec n x (upT_of hp x)) rfl rfl ?_
  simp
  unfold doesF
  rw [routerF_bs hp]
  cases hb : bsF (cmpT x) n.routers with
  | false => simp
  | true =>
    obtain ⟨r, hx⟩ := bsF_lt hb
    have hlt := (List.getElem?_eq_some_iff.1 hx).1
    have hm := List.mem_of_getElem? hx
    have heq := (List.getElem?_eq_some_iff.1 hx).2
    simp [hx, hlt, heq]
    first | refine CallK.same (does_spec r six a (hw r hm) (hq r hm) ha hr) rfl rfl ?_ | refine CallQ.same (does_spec r six a (hw r hm) (hq r hm) ha hr) rfl rfl ?_ | refine CallQG.same _ (does_spec r six a (hw r hm) (hq r hm) ha hr) rfl ?_ | refine CallG.same _ (does_spec r six a (hw r hm) (hq r hm) ha hr) rfl ?_ | refine CallK.pv (does_spec r six a (hw r hm) (hq r hm) ha hr) rfl rfl ?_
    simp

end Go.Am

set_option linter.unusedVariables false
set_option linter.unusedSimpArgs false
set_option pp.deepTerms false
set_option pp.deepTerms.threshold 40
namespace Go.Am
open Go.Proofs

/-! ### on a way -/
def onL : List Int → Int → Int → Int
  | [], _, _ => -1
  | y :: l, x, k => if y = x then k else onL l x (k + 1)
/-! ### fates -/
structure Verd where
  kind : Int
  at_ : Int
structure Fate where
  router : Int
  v : Verd
@[simp] def Verd.av (v : Verd) : AV := .agg [.int .u8 v.kind, .int .i64 v.at_]
@[simp] def Fate.iv (f : Fate) : List IV := [.sc (.int .i64 f.router), .sc (.int .u8 f.v.kind), .sc (.int .i64 f.v.at_)]
def countF (kind : Int) : List Fate → Int → Int
  | [], n => n
  | f :: l, n => countF kind l (if f.v.kind = kind then n + 1 else n)
theorem countF_le (kind : Int) : ∀ (l : List Fate) (n : Int), n ≤ countF kind l n ∧ countF kind l n ≤ n + l.length
  | [], n => ⟨Int.le_refl _, by simp [countF]⟩
  | f :: l, n => by
    have := countF_le kind l (if f.v.kind = kind then n + 1 else n)
    rw [countF]
    simp only [List.length_cons]
    split at this <;> rename_i h <;> simp only [h, if_true, if_false] <;> omega
theorem countJ_spec (l : List Fate) (kind : Int) : FSpec Tryz.prog 13 [.im (.sl 3 (l.map Fate.iv)), .int .u8 kind] [] (.int .i64 (countF kind l 0)) [] := by
  refine FSpec.bd (enters_of Tryz.func13 (by kernel_rfl) rfl) fun hbd => ?_
  have hl : l.length ≤ 9223372036854775807 := by simp [maxLen] at hbd; exact hbd
  refine FSpec.of_flat (q := []) Tryz.func13 (by kernel_rfl) rfl Tryz.ntmps13 Tryz.results13 hP (by kernel_rfl) (by simp) (by first | rfl | simp) ?_
  simp
  refine LoopK.plain (fun g : Nat × Int => [(1, .int .u8 kind), (5, .int .i64 g.2), (8, .im (.sl 3 (l.map Fate.iv))), (9, .int .i64 l.length), (10, .int .i64 g.1)])
    (fun g => g.1 ≤ l.length ∧ 0 ≤ g.2 ∧ g.2 ≤ g.1 ∧ countF kind (l.drop g.1) g.2 = countF kind l 0) (fun g => l.length - g.1) (0, 0) ⟨Nat.zero_le _, Int.le_refl _, by simp, by simp⟩ (by simp) ?_
  rintro ⟨k, c⟩ ⟨hk, hc0, hc1, hR⟩
  simp only at hk hc0 hc1 hR
  by_cases hlt : k < l.length
  · have e1 : IntKind.i64.wrap (k + 1) = (k + 1 : Nat) := wrap64 (by omega) (by omega)
    have e2 : IntKind.i64.wrap (c + 1) = c + 1 := wrap64 (by omega) (by omega)
    rw [List.drop_eq_getElem_cons hlt, countF] at hR
    simp [hlt, e1, e2]
    generalize l[k] = y at *
    refine ⟨fun h => ?_, fun h => ?_⟩
    · rw [if_pos h] at hR
      refine Again.plain (k + 1, c + 1) ⟨hlt, by simp only; omega, by simp only; omega, hR⟩ (by simp only; omega) (by simp)
    · rw [if_neg h] at hR
      refine Again.plain (k + 1, c) ⟨hlt, hc0, by simp only; omega, hR⟩ (by simp only; omega) (by simp)
  · have : k = l.length := by omega
    subst this
    simp [countF] at hR
    simp [← hR]
end Go.Am

set_option linter.unusedVariables false
set_option linter.unusedSimpArgs false
set_option pp.deepTerms false
set_option pp.deepTerms.threshold 40
namespace Go.Am
open Go.Proofs

/-! ### rows that are alike -/
theorem alike_spec (l t : List Int) : FSpec Tryz.prog 12 [.im (.sl 1 (rowI l)), .im (.sl 1 (rowI t))] [] (.bool (decide (l = t))) [] := by
  refine FSpec.bd (enters_of Tryz.func12 (by kernel_rfl) rfl) fun hbd => ?_
  have hl : l.length ≤ 9223372036854775807 := by simp [maxLen] at hbd; exact hbd.1.1
  refine FSpec.of_flat (q := [(6, .n 8)]) Tryz.func12 (by kernel_rfl) rfl Tryz.ntmps12 Tryz.results12 hP (by kernel_rfl) (by simp) (by first | rfl | simp) ?_
  simp
  refine ⟨fun h e => ?_, fun h => ?_⟩
  · subst e; exact h rfl
  have hlen : l.length = t.length := by omega
  refine LoopK.plain (fun k : Nat => [(0, .im (.sl 1 (rowI l))), (1, .im (.sl 1 (rowI t))), (12, .int .i64 l.length), (13, .int .i64 k)])
    (fun k => k ≤ l.length ∧ l.take k = t.take k) (fun k => l.length - k) 0 ⟨Nat.zero_le _, by simp⟩ (by simp) ?_
  rintro k ⟨hk, hR⟩
  by_cases hlt : k < l.length
  · have hlt2 : k < t.length := by omega
    have e1 : IntKind.i64.wrap (k + 1) = (k + 1 : Nat) := wrap64 (by omega) (by omega)
    have hg := rowI_get l k _ (List.getElem?_eq_getElem hlt)
    have hg2 := rowI_get t k _ (List.getElem?_eq_getElem hlt2)
    simp [hlt, hlt2, e1, hg, hg2]
    refine ⟨fun h1 h2 => ?_, fun h1 => ?_⟩
    · subst h2; exact h1 rfl
    · refine Again.plain (k + 1) ⟨hlt, ?_⟩ (by omega) (by simp)
      rw [List.take_add_one, List.take_add_one, hR, List.getElem?_eq_getElem hlt, List.getElem?_eq_getElem hlt2, h1]
  · have : k = l.length := by omega
    subst this
    rw [List.take_length, hlen, List.take_length] at hR
    simp [hR]
end Go.Am

set_option linter.unusedVariables false
set_option linter.unusedSimpArgs false
set_option pp.deepTerms false
set_option pp.deepTerms.threshold 40
namespace Go.Am
open Go.Proofs

/-! ### fates that are the same -/
def sameFL : List Fate → List Fate → Bool
  | [], [] => true
  | f :: l, g :: t => f.router == g.router && f.v.kind == g.v.kind && f.v.at_ == g.v.at_ && sameFL l t
  | _, _ => false
theorem sameFL_len : ∀ {l t : List Fate}, l.length ≠ t.length → sameFL l t = false
  | [], [], h => absurd rfl h
  | f :: l, g :: t, h => by
    rw [sameFL, sameFL_len (l := l) (t := t) (by simpa using h)]
    simp
  | [], _ :: _, _ => rfl
  | _ :: _, [], _ => rfl
theorem sameFt_spec (l t : List Fate) : FSpec Tryz.prog 11 [.im (.sl 3 (l.map Fate.iv)), .im (.sl 3 (t.map Fate.iv))] [] (.bool (sameFL l t)) [] := by
  refine FSpec.bd (enters_of Tryz.func11 (by kernel_rfl) rfl) fun hbd => ?_
  have hl : l.length ≤ 9223372036854775807 := by simp [maxLen] at hbd; exact hbd.1
  refine FSpec.of_flat (q := [(6, .n 8)]) Tryz.func11 (by kernel_rfl) rfl Tryz.ntmps11 Tryz.results11 hP (by kernel_rfl) (by simp) (by first | rfl | simp) ?_
  simp
  refine ⟨fun h => ?_, fun h => ?_⟩
  · exact sameFL_len (by omega)
  have hlen : l.length = t.length := by omega
  refine LoopK.plain (fun k : Nat => [(0, .im (.sl 3 (l.map Fate.iv))), (1, .im (.sl 3 (t.map Fate.iv))), (12, .int .i64 l.length), (13, .int .i64 k)])
    (fun k => k ≤ l.length ∧ sameFL (l.drop k) (t.drop k) = sameFL l t) (fun k => l.length - k) 0 ⟨Nat.zero_le _, by simp⟩ (by simp) ?_
  rintro k ⟨hk, hR⟩
  by_cases hlt : k < l.length
  · have hlt2 : k < t.length := by omega
    have e1 : IntKind.i64.wrap (k + 1) = (k + 1 : Nat) := wrap64 (by omega) (by omega)
    rw [List.drop_eq_getElem_cons hlt, List.drop_eq_getElem_cons hlt2, sameFL] at hR
    simp [hlt, hlt2, e1]
    refine ⟨fun h => ?_, fun h1 h2 h3 => ?_⟩
    · rw [← hR]
      rcases h with h | h | h <;> simp [h]
    · refine Again.plain (k + 1) ⟨hlt, by rw [← hR]; simp [h1, h2, h3]⟩ (by omega) (by simp)
  · have : k = l.length := by omega
    subst this
    rw [List.drop_length, hlen, List.drop_length] at hR
    simp [← hR, sameFL]
end Go.Am

set_option linter.unusedVariables false
set_option linter.unusedSimpArgs false
set_option pp.deepTerms false
set_option pp.deepTerms.threshold 40
namespace Go.Am
open Go.Proofs

/-! ### a way -/
def wayF (H : Int → Hop) : Nat → List Int → Int → List Int × Verd
  | 0, way, r => (way, ⟨0, 0⟩)
  | f + 1, way, r =>
    if (H r).kind = 0 then (way, ⟨3, r⟩)
    else if (H r).kind = 2 then (way, ⟨1, r⟩)
    else if (H r).kind = 3 then (way, ⟨2, r⟩)
    else if 0 ≤ onL way (H r).peer 0 then (way ++ [(H r).peer], ⟨4, (H r).peer⟩)
    else wayF H f (way ++ [(H r).peer]) (H r).peer
theorem onL_neg : ∀ (l : List Int) (x k : Int), 0 ≤ k → (0 ≤ onL l x k ↔ x ∈ l)
  | [], x, k, hk => by simp [onL]
  | y :: l, x, k, hk => by
    rw [onL]
    split
    · rename_i h; subst h; simp [hk]
    · rename_i h
      rw [onL_neg l x (k + 1) (by omega)]
      simp [Ne.symm h]
theorem countP_lt {α : Type} {p q : α → Bool} : ∀ {l : List α} {y : α}, (∀ x ∈ l, q x = true → p x = true) → y ∈ l → p y = true → q y = false → l.countP q < l.countP p
  | z :: l, y, h, hy, hp, hq => by
    have hle : l.countP q ≤ l.countP p := List.countP_mono_left fun x hx h1 => h x (List.mem_cons_of_mem _ hx) h1
    rw [List.countP_cons, List.countP_cons]
    rcases List.mem_cons.1 hy with rfl | hy
    · simp [hp, hq]; omega
    · have := countP_lt (fun x hx => h x (List.mem_cons_of_mem _ hx)) hy hp hq
      have hz := h z List.mem_cons_self
      cases hqz : q z with
      | true => simp [hz hqz]; omega
      | false => simp; omega
/-- How many rounds there may be. -/
def roundsL (l : List Router) (way : List Int) (r : Int) : Nat := 2 * l.countP (fun x => !way.contains x.id) + (if (routerF l r).isSome then 1 else 0)
theorem rounds_step {l : List Router} {way : List Int} {r p : Int} (hr : (routerF l r).isSome = true) (hp : ¬ p ∈ way) : roundsL l (way ++ [p]) p < roundsL l way r := by
  unfold roundsL
  rw [if_pos hr]
  have hle : l.countP (fun x => !(way ++ [p]).contains x.id) ≤ l.countP (fun x => !way.contains x.id) := by
    refine List.countP_mono_left fun x _ hx => ?_
    simp at hx ⊢
    exact hx.1
  by_cases hs : (routerF l p).isSome = true
  · rw [if_pos hs]
    obtain ⟨y, hy⟩ := Option.isSome_iff_exists.1 hs
    have hm := List.mem_of_find?_eq_some hy
    have hid : y.id = p := by have := List.find?_some hy; simpa using this
    have : l.countP (fun x => !(way ++ [p]).contains x.id) < l.countP (fun x => !way.contains x.id) := by
      refine countP_lt (y := y) (fun x _ hx => ?_) hm ?_ ?_
      · simp at hx ⊢
        exact hx.1
      · simp [hid, hp]
      · simp [hid]
    omega
  · rw [if_neg hs]; omega
end Go.Am

set_option linter.unusedVariables false
set_option linter.unusedSimpArgs false
set_option pp.deepTerms false
set_option pp.deepTerms.threshold 40
namespace Go.Am
open Go.Proofs

/-! ### the document's fates -/
def wayN (n : Net) (six : Bool) (a : Addr4) (r : Int) : List Int × Verd := wayF (fun x => doesF n x six a) (2 * n.routers.length + 2) [r] r
def fateN (n : Net) (six : Bool) (a : Addr4) (r : Router) : Fate := ⟨r.id, (wayN n six a r.id).2⟩
def rightN (n : Net) (six : Bool) (a : Addr4) : Bool := netOk n && rightA six a
def fatesN (n : Net) (six : Bool) (a : Addr4) : List Fate := if rightN n six a then n.routers.map (fateN n six a) else []
theorem netOk_len {n : Net} (h : netOk n = true) : n.routers.length ≤ 64 := by
  unfold netOk at h
  simp only [Bool.and_eq_true, beq_iff_eq] at h
  have := checkS_len h.1.1.1
  omega
def fatesK (n : Net) (six : Bool) (a : Addr4) (k : Nat) : List (List IV) := ((n.routers.take k).map (fateN n six a)).map Fate.iv
theorem fatesK_zero (n : Net) (six : Bool) (a : Addr4) : fatesK n six a 0 = [] := rfl
theorem fatesK_succ (n : Net) (six : Bool) (a : Addr4) {k : Nat} {y : Router} (h : n.routers[k]? = some y) : fatesK n six a (k + 1) = fatesK n six a k ++ [[.sc (.int .i64 y.id), .sc (.int .u8 (wayN n six a y.id).2.kind), .sc (.int .i64 (wayN n six a y.id).2.at_)]] := by
  unfold fatesK
  rw [List.take_add_one, h]
  simp [fateN]
@[simp] theorem fatesK_length (n : Net) (six : Bool) (a : Addr4) {k : Nat} : (fatesK n six a k).length = min k n.routers.length := by simp [fatesK]
theorem fatesK_all (n : Net) (six : Bool) (a : Addr4) : fatesK n six a n.routers.length = (n.routers.map (fateN n six a)).map Fate.iv := by simp [fatesK]
end Go.Am

set_option linter.unusedVariables false
set_option linter.unusedSimpArgs false
set_option pp.deepTerms false
set_option pp.deepTerms.threshold 40
namespace Go.Am
open Go.Proofs

/-! ### where a way goes round -/
def roundF (w : List Int × Verd) : List Int := if w.2.kind = 4 then (w.1.take (w.1.length - 1)).drop (onL w.1 w.2.at_ 0).toNat else []
end Go.Am

set_option linter.unusedVariables false
set_option linter.unusedSimpArgs false
set_option pp.deepTerms false
set_option pp.deepTerms.threshold 40
namespace Go.Am
open Go.Proofs

/-! ### ways, and loops: the plain law -/
theorem onL_lt : ∀ (l : List Int) (x k : Int), 0 ≤ k → 0 ≤ onL l x k → k ≤ onL l x k ∧ onL l x k < k + l.length
  | [], x, k, hk, h => by simp [onL] at h
  | y :: l, x, k, hk, h => by
    rw [onL] at h ⊢
    split
    · simp; omega
    · rename_i hy
      rw [if_neg hy] at h
      have := onL_lt l x (k + 1) (by omega) h
      simp; omega
theorem wayF_round (H : Int → Hop) : ∀ (f : Nat) (way : List Int) (r : Int), (wayF H f way r).2.kind = 4 → (wayF H f way r).2.at_ ∈ (wayF H f way r).1
  | 0, way, r, h => by simp [wayF] at h
  | f + 1, way, r, h => by
    rw [wayF] at h ⊢
    split
    · rename_i h1; rw [if_pos h1] at h; simp at h
    · rename_i h1
      rw [if_neg h1] at h
      split
      · rename_i h2; rw [if_pos h2] at h; simp at h
      · rename_i h2
        rw [if_neg h2] at h
        split
        · rename_i h3; rw [if_pos h3] at h; simp at h
        · rename_i h3
          rw [if_neg h3] at h
          split
          · simp
          · rename_i h4
            rw [if_neg h4] at h
            exact wayF_round H f _ _ h
theorem wayN_on (n : Net) (six : Bool) (a : Addr4) (r : Int) (h : (wayN n six a r).2.kind = 4) : 0 ≤ onL (wayN n six a r).1 (wayN n six a r).2.at_ 0 ∧ onL (wayN n six a r).1 (wayN n six a r).2.at_ 0 < (wayN n six a r).1.length := by
  have hm := wayF_round (fun x => doesF n x six a) (2 * n.routers.length + 2) [r] r h
  have h0 := (onL_neg (wayN n six a r).1 (wayN n six a r).2.at_ 0 (Int.le_refl _)).2 hm
  have := onL_lt _ _ 0 (Int.le_refl _) h0
  omega
def leastB (l : List Int) (r : Int) : Bool := (l.head? == some r) && l.all fun x => decide (r ≤ x)
/-! ### maps, as lists -/
def kget {β : Type} : List (Int × β) → Int → Option β
  | [], _ => none
  | (k, v) :: l, x => if x = k then some v else kget l x
def kput {β : Type} : List (Int × β) → Int → β → List (Int × β)
  | [], x, v => [(x, v)]
  | (k, u) :: l, x, v => if x = k then (k, v) :: l else (k, u) :: kput l x v
theorem kget_put {β : Type} : ∀ (l : List (Int × β)) (x y : Int) (v : β), kget (kput l x v) y = if y = x then some v else kget l y
  | [], x, y, v => by simp [kput, kget]
  | (k, u) :: l, x, y, v => by
    rw [kput]
    split
    · rename_i h; subst h
      simp only [kget]
      split <;> rfl
    · rename_i h
      simp only [kget, kget_put l x y v]
      by_cases hy : y = k
      · subst hy; simp [Ne.symm h]
      · simp [hy]

/-! ### how a walk goes, and where it ends -/
variable {H : Int → Hop}
def moves (H : Int → Hop) (r : Int) : Prop := ¬ (H r).kind = 0 ∧ ¬ (H r).kind = 2 ∧ ¬ (H r).kind = 3
def endsF (h : Hop) (r : Int) : Verd := ⟨if h.kind = 2 then 1 else if h.kind = 3 then 2 else 3, r⟩
inductive Goes (H : Int → Hop) : List Int → Int → List Int × Verd → Prop
  | ends {way : List Int} {r : Int} (h : ¬ moves H r) : Goes H way r (way, endsF (H r) r)
  | again {way : List Int} {r : Int} (h : moves H r) (hp : (H r).peer ∈ way) : Goes H way r (way ++ [(H r).peer], ⟨4, (H r).peer⟩)
  | step {way : List Int} {r : Int} {res : List Int × Verd} (h : moves H r) (hp : ¬ (H r).peer ∈ way) (hs : Goes H (way ++ [(H r).peer]) (H r).peer res) : Goes H way r res
theorem Goes.det {way : List Int} {r : Int} {a b : List Int × Verd} (h1 : Goes H way r a) (h2 : Goes H way r b) : a = b := by
  induction h1 with
  | ends h => cases h2 with
    | ends => rfl
    | again h' => exact absurd h' h
    | step h' => exact absurd h' h
  | again h hp => cases h2 with
    | ends h' => exact absurd h h'
    | again => rfl
    | step _ hp' => exact absurd hp hp'
  | step h hp _ ih => cases h2 with
    | ends h' => exact absurd h h'
    | again _ hp' => exact absurd hp' hp
    | step _ _ hs => exact ih hs
def roundsI (l way : List Int) : Nat := l.countP (fun x => !way.contains x)
theorem roundsI_step {l way : List Int} {x : Int} (h1 : x ∈ l) (h2 : ¬ x ∈ way) : roundsI l (way ++ [x]) < roundsI l way := by
  unfold roundsI
  refine countP_lt (y := x) (fun y _ hy => ?_) h1 (by simp [h2]) (by simp)
  simp at hy ⊢
  exact hy.1
theorem wayF_goes {l : List Int} (hl : ∀ x, moves H x → x ∈ l) : ∀ (f : Nat) (way : List Int) (r : Int), (r ∈ way) → roundsI l way + 1 < f → Goes H way r (wayF H f way r)
  | 0, way, r, hr, hf => by omega
  | f + 1, way, r, hr, hf => by
    rw [wayF]
    split
    · rename_i h
      have := Goes.ends (H := H) (way := way) (r := r) (fun hm => hm.1 h)
      simpa [endsF, h] using this
    · rename_i h0
      split
      · rename_i h
        have := Goes.ends (H := H) (way := way) (r := r) (fun hm => hm.2.1 h)
        simpa [endsF, h] using this
      · rename_i h2
        split
        · rename_i h
          have := Goes.ends (H := H) (way := way) (r := r) (fun hm => hm.2.2 h)
          simpa [endsF, h] using this
        · rename_i h3
          split
          · rename_i h
            exact .again ⟨h0, h2, h3⟩ ((onL_neg _ _ _ (Int.le_refl _)).1 h)
          · rename_i h
            have hp : ¬ (H r).peer ∈ way := fun h' => h ((onL_neg _ _ _ (Int.le_refl _)).2 h')
            refine .step ⟨h0, h2, h3⟩ hp ?_
            by_cases hq : (H r).peer ∈ l
            · exact wayF_goes hl f _ _ (by simp) (by have := roundsI_step hq hp; omega)
            · have hm : ¬ moves H (H r).peer := fun h => hq (hl _ h)
              have hfp : 0 < f := by omega
              obtain ⟨f, rfl⟩ : ∃ f', f = f' + 1 := ⟨f - 1, by omega⟩
              rw [wayF]
              have := Goes.ends (way := way ++ [(H r).peer]) hm
              unfold moves at hm
              split
              · rename_i e; simpa [endsF, e] using this
              · rename_i e1
                split
                · rename_i e; simpa [endsF, e] using this
                · rename_i e2
                  split
                  · rename_i e; simpa [endsF, e] using this
                  · rename_i e3; exact absurd ⟨e1, e2, e3⟩ hm

/-- A set that a step does not leave. -/
def Closed (H : Int → Hop) (S : Int → Prop) : Prop := ∀ y, S y → moves H y → S (H y).peer
theorem Goes.drop {S : Int → Prop} (hS : Closed H S) {A : List Int} (hA : ∀ y ∈ A, ¬ S y) {B : List Int} {r : Int} {res : List Int × Verd} (h : Goes H B r res) : S r → Goes H (A ++ B) r (A ++ res.1, res.2) := by
  induction h with
  | ends h => intro _; exact .ends h
  | @again way r h hp => intro hr; rw [← List.append_assoc]; exact .again h (List.mem_append_right _ hp)
  | @step way r res h hp _ ih =>
    intro hr
    have hs := hS _ hr h
    refine .step h (fun hm => ?_) (by rw [List.append_assoc]; exact ih hs)
    rcases List.mem_append.1 hm with hm | hm
    · exact hA _ hm hs
    · exact hp hm
theorem Goes.at_mem {S : Int → Prop} (hS : Closed H S) {B : List Int} {r : Int} {res : List Int × Verd} (h : Goes H B r res) : S r → res.2.kind = 4 → S res.2.at_ := by
  induction h with
  | ends h =>
    intro _ hk
    simp only [endsF] at hk
    repeat' split at hk
    all_goals omega
  | again h hp => intro hr _; exact hS _ hr h
  | step h hp _ ih => intro hr; exact ih (hS _ hr h)

/-- From a by the row l to b. -/
def Path (H : Int → Hop) : Int → List Int → Int → Prop
  | a, [], b => moves H a ∧ (H a).peer = b
  | a, c :: l, b => moves H a ∧ (H a).peer = c ∧ Path H c l b
theorem Path.append : ∀ {l : List Int} {a c b : Int} {m : List Int}, Path H a l c → Path H c m b → Path H a (l ++ c :: m) b
  | [], _, _, _, _, h1, h2 => ⟨h1.1, h1.2, h2⟩
  | _ :: _, _, _, _, _, h1, h2 => ⟨h1.1, h1.2.1, Path.append h1.2.2 h2⟩
theorem Path.split : ∀ {l : List Int} {a c b : Int} {m : List Int}, Path H a (l ++ c :: m) b → Path H a l c ∧ Path H c m b
  | [], _, _, _, _, h => ⟨⟨h.1, h.2.1⟩, h.2.2⟩
  | _ :: _, _, _, _, _, h => (let ⟨h1, h2⟩ := Path.split h.2.2; ⟨⟨h.1, h.2.1, h1⟩, h2⟩)
theorem Path.moves : ∀ {l : List Int} {a b : Int}, Path H a l b → ∀ y ∈ a :: l, moves H y ∧ ((H y).peer ∈ l ∨ (H y).peer = b)
  | [], a, b, h, y, hy => by
    rw [List.mem_singleton] at hy
    subst hy
    exact ⟨h.1, .inr h.2⟩
  | c :: l, a, b, h, y, hy => by
    rcases List.mem_cons.1 hy with rfl | hy
    · exact ⟨h.1, .inl (by rw [h.2.1]; exact List.mem_cons_self)⟩
    · have := Path.moves h.2.2 y hy
      exact ⟨this.1, this.2.elim (fun h => .inl (List.mem_cons_of_mem _ h)) .inr⟩
def Cyc (H : Int → Hop) : List Int → Prop
  | [] => False
  | x :: l => (x :: l).Nodup ∧ Path H x l x
theorem Cyc.rot {l1 l2 : List Int} {x c : Int} (h : Cyc H (x :: l1 ++ c :: l2)) : Cyc H (c :: l2 ++ x :: l1) := by
  obtain ⟨h1, h2⟩ := h
  obtain ⟨p1, p2⟩ := Path.split h2
  refine ⟨?_, p2.append p1⟩
  have hp : (x :: l1 ++ c :: l2).Perm (c :: l2 ++ x :: l1) := List.perm_append_comm
  exact hp.nodup h1
theorem Cyc.goes {x : Int} {l : List Int} (h : Cyc H (x :: l)) : Goes H [x] x (x :: l ++ [x], ⟨4, x⟩) := by
  have key : ∀ (q : List Int) (p : List Int) (y : Int), (x :: p).contains y = true → ((x :: p) ++ q).Nodup → Path H y q x → Goes H (x :: p) y (x :: p ++ q ++ [x], ⟨4, x⟩) := by
    intro q
    induction q with
    | nil =>
      intro p y _ _ hp
      have := Goes.again (H := H) (way := x :: p) (r := y) hp.1 (by rw [hp.2]; exact List.mem_cons_self)
      rw [hp.2] at this
      simpa using this
    | cons c q ih =>
      intro p y hy hn hp
      have hc : ¬ c ∈ x :: p := fun hc => by
        rw [List.nodup_append] at hn
        exact hn.2.2 c hc c List.mem_cons_self rfl
      refine .step hp.1 (by rw [hp.2.1]; exact hc) ?_
      rw [hp.2.1]
      have := ih (p ++ [c]) c (by simp) (by simpa using hn) hp.2.2
      simpa using this
  have := key l [] x (by simp) (by simpa using h.1) h.2
  simpa using this

/-- One behind the other, to a router whose end is known. -/
theorem Path.goes {S : Int → Prop} {x : Int} {v : Verd} (hx : S x) (hgx : ∃ w, Goes H [x] x (w, v)) : ∀ {l : List Int} {a : Int}, Closed H S → (a :: l).Nodup → (∀ y ∈ a :: l, ¬ S y) → Path H a l x → ∃ w, Goes H [a] a (w, v)
  | [], a, hS, hn, hd, hp => by
    obtain ⟨w, hw⟩ := hgx
    have hax : ¬ x ∈ [a] := fun h => hd a List.mem_cons_self (by rw [List.mem_singleton] at h; rw [← h]; exact hx)
    refine ⟨[a] ++ w, .step hp.1 (by rw [hp.2]; exact hax) ?_⟩
    rw [hp.2]
    exact Goes.drop hS (A := [a]) (fun y hy => hd y (by simpa using hy)) hw hx
  | c :: l, a, hS, hn, hd, hp => by
    obtain ⟨w, hw⟩ := Path.goes hx hgx (l := l) (a := c) hS (List.nodup_cons.1 hn).2 (fun y hy => hd y (List.mem_cons_of_mem _ hy)) hp.2.2
    have hm := Path.moves hp.2.2
    have hac : ¬ a ∈ c :: l := (List.nodup_cons.1 hn).1
    refine ⟨[a] ++ w, .step hp.1 (by rw [hp.2.1]; exact fun h => hac (by rw [List.mem_singleton] at h; rw [← h]; exact List.mem_cons_self)) ?_⟩
    rw [hp.2.1]
    refine Goes.drop (S := fun y => S y ∨ y ∈ c :: l) (fun y hy hm' => ?_) (A := [a]) (fun y hy h => ?_) hw (.inr List.mem_cons_self)
    · rcases hy with hy | hy
      · exact .inl (hS y hy hm')
      · rcases (hm y hy).2 with h | h
        · exact .inr (List.mem_cons_of_mem _ h)
        · exact .inl (by rw [h]; exact hx)
    · rw [List.mem_singleton] at hy
      subst hy
      exact h.elim (hd y List.mem_cons_self) hac

/-! ### the program's judge -/
def setK (v : Verd) : List Int → List (Int × Verd) → List (Int × Verd)
  | [], kn => kn
  | x :: l, kn => setK v l (kput kn x v)
def rndK : List Int → List (Int × Verd) → List (Int × Verd)
  | [], kn => kn
  | x :: l, kn => rndK l (kput kn x ⟨4, x⟩)
theorem kget_set (v : Verd) : ∀ (l : List Int) (kn : List (Int × Verd)) (y : Int), kget (setK v l kn) y = if y ∈ l then some v else kget kn y
  | [], kn, y => by simp [setK]
  | x :: l, kn, y => by
    rw [setK, kget_set v l, kget_put]
    by_cases h1 : y ∈ l
    · simp [h1]
    · by_cases h2 : y = x <;> simp [h1, h2]
theorem kget_rnd : ∀ (l : List Int) (kn : List (Int × Verd)) (y : Int), kget (rndK l kn) y = if y ∈ l then some ⟨4, y⟩ else kget kn y
  | [], kn, y => by simp [rndK]
  | x :: l, kn, y => by
    rw [rndK, kget_rnd l, kget_put]
    by_cases h1 : y ∈ l
    · simp [h1]
    · by_cases h2 : y = x
      · subst h2; simp [h1]
      · simp [h1, h2]
def minI : List Int → Int → Int
  | [], m => m
  | x :: l, m => minI l (min m x)
theorem minI_le : ∀ (l : List Int) (m : Int), minI l m ≤ m ∧ (∀ x ∈ l, minI l m ≤ x) ∧ (minI l m = m ∨ minI l m ∈ l)
  | [], m => ⟨Int.le_refl _, fun x hx => (by cases hx), .inl rfl⟩
  | x :: l, m => by
    obtain ⟨h1, h2, h3⟩ := minI_le l (min m x)
    rw [minI]
    refine ⟨by omega, fun y hy => ?_, ?_⟩
    · rcases List.mem_cons.1 hy with rfl | hy
      · omega
      · exact h2 y hy
    · rcases h3 with h3 | h3
      · by_cases hm : m ≤ x
        · left; omega
        · right; rw [h3, show min m x = x by omega]; exact List.mem_cons_self
      · right; exact List.mem_cons_of_mem _ h3
def minL : List Int → Int
  | [] => 0
  | x :: l => minI l x
theorem minL_mem : ∀ {l : List Int}, l ≠ [] → minL l ∈ l ∧ ∀ x ∈ l, minL l ≤ x
  | [], h => absurd rfl h
  | x :: l, _ => by
    obtain ⟨h1, h2, h3⟩ := minI_le l x
    refine ⟨?_, fun y hy => ?_⟩
    · rcases h3 with h3 | h3
      · show minI l x ∈ _; rw [h3]; exact List.mem_cons_self
      · exact List.mem_cons_of_mem _ h3
    · rcases List.mem_cons.1 hy with rfl | hy
      · exact h1
      · exact h2 y hy
def rotM (l : List Int) : List Int := l.drop (onL l (minL l) 0).toNat ++ l.take (onL l (minL l) 0).toNat
theorem onL_split : ∀ {l : List Int} {x : Int} (k : Int), x ∈ l → ∃ a b, l = a ++ x :: b ∧ ¬ x ∈ a ∧ onL l x k = k + a.length
  | [], x, k, h => by cases h
  | y :: l, x, k, h => by
    by_cases hy : y = x
    · subst hy
      exact ⟨[], l, rfl, by simp, by simp [onL]⟩
    · have hx : x ∈ l := by
        rcases List.mem_cons.1 h with h | h
        · exact absurd h.symm hy
        · exact h
      obtain ⟨a, b, rfl, h1, h2⟩ := onL_split (k + 1) hx
      refine ⟨y :: a, b, rfl, ?_, ?_⟩
      · intro hm
        rcases List.mem_cons.1 hm with hm | hm
        · exact hy hm.symm
        · exact h1 hm
      · rw [onL, if_neg hy, h2]; simp; omega
theorem rotM_eq {l : List Int} (h : l ≠ []) : ∃ a b, l = a ++ minL l :: b ∧ rotM l = minL l :: b ++ a := by
  obtain ⟨a, b, h1, h2, h3⟩ := onL_split 0 (minL_mem h).1
  refine ⟨a, b, h1, ?_⟩
  unfold rotM
  rw [h3]
  generalize minL l = x at *
  subst h1
  simp
theorem Cyc.rotM {l : List Int} (h : Cyc H l) : Cyc H (rotM l) := by
  have hne : l ≠ [] := by rintro rfl; exact h
  obtain ⟨a, b, h1, h2⟩ := rotM_eq hne
  rw [h2]
  rw [h1] at h
  cases a with
  | nil => simpa using h
  | cons x a => exact Cyc.rot h
theorem Cyc.ne {l : List Int} (h : Cyc H l) : l ≠ [] := by rintro rfl; exact h
theorem rotM_mem {l : List Int} (h : l ≠ []) (x : Int) : x ∈ rotM l ↔ x ∈ l := by
  obtain ⟨a, b, h1, h2⟩ := rotM_eq h
  rw [h2, List.mem_append, Or.comm, ← List.mem_append, ← h1]
theorem rotM_head {l : List Int} (h : l ≠ []) : ∃ t, rotM l = minL l :: t := by
  obtain ⟨a, b, h1, h2⟩ := rotM_eq h
  exact ⟨b ++ a, h2⟩

abbrev Court := List (Int × Verd) × List (List Int)
def judgeF (H : Int → Hop) : Nat → List Int → Int → Court → Court
  | 0, _, _, s => s
  | f + 1, way, x, s =>
    match kget s.1 x with
    | some v => (setK v way s.1, s.2)
    | none =>
      if 0 ≤ onL way x 0 then
        (setK ((kget (rndK (way.drop (onL way x 0).toNat) s.1) x).getD ⟨0, 0⟩) (way.take (onL way x 0).toNat) (rndK (way.drop (onL way x 0).toNat) s.1), s.2 ++ [rotM (way.drop (onL way x 0).toNat)])
      else if (H x).kind = 1 then judgeF H f (way ++ [x]) (H x).peer s
      else (setK (endsF (H x) x) (way ++ [x]) s.1, s.2)

structure Court.Ok (H : Int → Hop) (s : Court) : Prop where
  closed : Closed H fun y => (kget s.1 y).isSome = true
  right : ∀ y v, kget s.1 y = some v → ∃ w, Goes H [y] y (w, v)
  loops : ∀ L ∈ s.2, Cyc H L ∧ L.head? = some (minL L) ∧ ∀ y ∈ L, (kget s.1 y).isSome = true
  disj : s.2.Pairwise fun L M => ∀ y ∈ L, y ∉ M
  found : ∀ y v, kget s.1 y = some v → v = ⟨4, y⟩ → ∃ L ∈ s.2, y ∈ L
def WayTo (H : Int → Hop) (x : Int) : List Int → Prop
  | [] => True
  | a :: l => Path H a l x
theorem WayTo.snoc {x : Int} (hm : moves H x) : ∀ {way : List Int}, WayTo H x way → WayTo H (H x).peer (way ++ [x])
  | [], _ => ⟨hm, rfl⟩
  | a :: l, h => Path.append (l := l) h ⟨hm, rfl⟩

/-- All on a way have the end of the router that it comes to. -/
theorem Court.Ok.set {s : Court} (h : s.Ok H) {x : Int} {v : Verd} (hx : kget s.1 x = some v) {way : List Int} (hn : way.Nodup) (hd : ∀ y ∈ way, kget s.1 y = none) (hw : WayTo H x way) :
    Court.Ok H (setK v way s.1, s.2) ∧ (∀ y ∈ way, (kget (setK v way s.1) y).isSome = true) ∧ ∀ y u, kget s.1 y = some u → kget (setK v way s.1) y = some u := by
  have keep : ∀ y u, kget s.1 y = some u → kget (setK v way s.1) y = some u := fun y u hy => by
    rw [kget_set, if_neg (fun hm => by rw [hd y hm] at hy; cases hy), hy]
  refine ⟨⟨?_, ?_, ?_, h.disj, ?_⟩, fun y hy => by rw [kget_set, if_pos hy]; rfl, keep⟩
  · intro y hy hm
    simp only [kget_set] at hy ⊢
    split
    · rfl
    · rename_i hp
      by_cases hyw : y ∈ way
      · cases way with
        | nil => cases hyw
        | cons a l =>
          rcases (Path.moves hw y hyw).2 with h' | h'
          · exact absurd (List.mem_cons_of_mem _ h') hp
          · rw [h', hx]; rfl
      · rw [if_neg hyw] at hy
        exact h.closed y hy hm
  · intro y u hy
    simp only [kget_set] at hy
    split at hy
    · rename_i hm
      cases hy
      obtain ⟨a, b, rfl⟩ := List.append_of_mem hm
      have hp : Path H y b x := by
        cases a with
        | nil => exact hw
        | cons c a => exact (Path.split (l := a) hw).2
      rw [List.nodup_append] at hn
      exact Path.goes (S := fun y => (kget s.1 y).isSome = true) (by simp [hx]) (h.right x _ hx) h.closed hn.2.1 (fun z hz hs => by
        have := hd z (List.mem_append_right _ hz)
        rw [this] at hs; cases hs) hp
    · exact h.right y u hy
  · intro L hL
    obtain ⟨h1, h2, h3⟩ := h.loops L hL
    refine ⟨h1, h2, fun y hy => ?_⟩
    obtain ⟨u, hu⟩ := Option.isSome_iff_exists.1 (h3 y hy)
    exact Option.isSome_iff_exists.2 ⟨u, keep y u hu⟩
  · intro y u hy hv
    simp only [kget_set] at hy
    split at hy
    · rename_i hm
      cases hy
      obtain ⟨w, hg⟩ := h.right x _ hx
      have := Goes.at_mem (S := fun y => (kget s.1 y).isSome = true) h.closed hg (by simp [hx]) (by rw [hv])
      simp only [hv] at this
      rw [hd y hm] at this; cases this
    · exact h.found y u hy hv

theorem Court.Ok.judge {l : List Int} (hl : ∀ x, moves H x → x ∈ l) (hk : ∀ x, (H x).kind = 0 ∨ (H x).kind = 1 ∨ (H x).kind = 2 ∨ (H x).kind = 3) {s : Court} (h : s.Ok H) : ∀ (f : Nat) (way : List Int) (x : Int), way.Nodup → (∀ y ∈ way, kget s.1 y = none) → WayTo H x way → roundsI l way + 1 < f →
    Court.Ok H (judgeF H f way x s) ∧ (∀ y, y ∈ way ∨ y = x → (kget (judgeF H f way x s).1 y).isSome = true) ∧ ∀ y u, kget s.1 y = some u → kget (judgeF H f way x s).1 y = some u
  | 0, way, x, _, _, _, hf => by omega
  | f + 1, way, x, hn, hd, hw, hf => by
    rw [judgeF]
    cases hx : kget s.1 x with
    | some v =>
      obtain ⟨h1, h2, h3⟩ := h.set hx hn hd hw
      exact ⟨h1, fun y hy => hy.elim (h2 y) (fun e => by subst e; simp only; rw [h3 y v hx]; rfl), h3⟩
    | none =>
      simp only
      split
      · rename_i hon
        have hxw := (onL_neg _ _ _ (Int.le_refl _)).1 hon
        obtain ⟨a, b, rfl, hna, hidx⟩ := onL_split 0 hxw
        rw [hidx]
        have e1 : (0 + (a.length : Int)).toNat = a.length := by omega
        rw [e1]
        have e2 : (a ++ x :: b).drop a.length = x :: b := by simp
        have e3 : (a ++ x :: b).take a.length = a := by simp
        rw [e2, e3]
        have hpb : Path H x b x := by
          cases a with
          | nil => exact hw
          | cons c a => exact (Path.split (l := a) hw).2
        have hwa : WayTo H x a := by
          cases a with
          | nil => trivial
          | cons c a => exact (Path.split (l := a) hw).1
        rw [List.nodup_append] at hn
        have hcyc : Cyc H (x :: b) := ⟨hn.2.1, hpb⟩
        have hne : x :: b ≠ [] := by simp
        have keep : ∀ y u, kget s.1 y = some u → kget (rndK (x :: b) s.1) y = some u := fun y u hy => by
          rw [kget_rnd, if_neg (fun hm => by rw [hd y (List.mem_append_right _ hm)] at hy; cases hy), hy]
        have hok : Court.Ok H (rndK (x :: b) s.1, s.2 ++ [rotM (x :: b)]) := by
          refine ⟨?_, ?_, ?_, ?_, ?_⟩
          · intro y hy hm
            simp only [kget_rnd] at hy ⊢
            split
            · rfl
            · rename_i hp
              by_cases hyw : y ∈ x :: b
              · rcases (Path.moves hpb y hyw).2 with h' | h'
                · exact absurd (List.mem_cons_of_mem _ h') hp
                · rw [h'] at hp; exact absurd List.mem_cons_self hp
              · rw [if_neg hyw] at hy
                exact h.closed y hy hm
          · intro y u hy
            simp only [kget_rnd] at hy
            split at hy
            · rename_i hm
              cases hy
              obtain ⟨p, q, hpq⟩ := List.append_of_mem hm
              rw [hpq] at hcyc
              cases p with
              | nil => exact ⟨_, Cyc.goes hcyc⟩
              | cons z p => exact ⟨_, Cyc.goes (Cyc.rot (c := y) hcyc)⟩
            · exact h.right y u hy
          · intro L hL
            rcases List.mem_append.1 hL with hL | hL
            · obtain ⟨h1, h2, h3⟩ := h.loops L hL
              refine ⟨h1, h2, fun y hy => ?_⟩
              obtain ⟨u, hu⟩ := Option.isSome_iff_exists.1 (h3 y hy)
              exact Option.isSome_iff_exists.2 ⟨u, keep y u hu⟩
            · rw [List.mem_singleton] at hL
              subst hL
              obtain ⟨t, ht⟩ := rotM_head hne
              refine ⟨hcyc.rotM, ?_, fun y hy => ?_⟩
              · rw [ht]
                simp only [List.head?_cons, Option.some.injEq]
                have hm1 := minL_mem hne
                have hm2 := minL_mem (l := rotM (x :: b)) (by rw [ht]; simp)
                have g1 := hm2.2 (minL (x :: b)) ((rotM_mem hne _).2 hm1.1)
                have g2 := hm1.2 _ ((rotM_mem hne _).1 hm2.1)
                rw [ht] at g1 g2
                omega
              · rw [rotM_mem hne] at hy
                simp only [kget_rnd, if_pos hy]; rfl
          · rw [List.pairwise_append]
            refine ⟨h.disj, List.pairwise_singleton _ _, fun L hL M hM y hy hy' => ?_⟩
            rw [List.mem_singleton] at hM
            subst hM
            rw [rotM_mem hne] at hy'
            have := (h.loops L hL).2.2 y hy
            rw [hd y (List.mem_append_right _ hy')] at this
            cases this
          · intro y u hy hv
            simp only [kget_rnd] at hy
            split at hy
            · rename_i hm
              exact ⟨rotM (x :: b), List.mem_append_right _ (List.mem_singleton.2 rfl), (rotM_mem hne _).2 hm⟩
            · obtain ⟨L, h1, h2⟩ := h.found y u hy hv
              exact ⟨L, List.mem_append_left _ h1, h2⟩
        have hxv : kget (rndK (x :: b) s.1) x = some ⟨4, x⟩ := by rw [kget_rnd, if_pos List.mem_cons_self]
        rw [hxv]
        have hda : ∀ y ∈ a, kget (rndK (x :: b) s.1) y = none := fun y hy => by
          rw [kget_rnd, if_neg (fun hm => hn.2.2 y hy y hm rfl)]
          exact hd y (List.mem_append_left _ hy)
        obtain ⟨h1, h2, h3⟩ := hok.set hxv hn.1 hda hwa
        refine ⟨h1, fun y hy => ?_, fun y u hy => h3 y u (keep y u hy)⟩
        have : y ∈ a ∨ y ∈ x :: b := by
          rcases hy with hy | rfl
          · exact List.mem_append.1 hy
          · exact .inr List.mem_cons_self
        rcases this with hy | hy
        · exact h2 y hy
        · have e : kget (rndK (x :: b) s.1) y = some ⟨4, y⟩ := by rw [kget_rnd, if_pos hy]
          simp only [Option.getD_some]
          rw [h3 y _ e]; rfl
      · rename_i hon
        have hxw : ¬ x ∈ way := fun h' => hon ((onL_neg _ _ _ (Int.le_refl _)).2 h')
        have hn' : (way ++ [x]).Nodup := by
          rw [List.nodup_append]
          exact ⟨hn, by simp, fun a ha b hb e => by rw [List.mem_singleton] at hb; subst hb; subst e; exact hxw ha⟩
        have hd' : ∀ y ∈ way ++ [x], kget s.1 y = none := fun y hy => by
          rcases List.mem_append.1 hy with hy | hy
          · exact hd y hy
          · rw [List.mem_singleton] at hy; subst hy; exact hx
        split
        · rename_i hk1
          have hm : moves H x := ⟨by omega, by omega, by omega⟩
          have hst := roundsI_step (hl x hm) hxw
          obtain ⟨h1, h2, h3⟩ := Court.Ok.judge hl hk h f (way ++ [x]) (H x).peer hn' hd' (WayTo.snoc hm hw) (by omega)
          exact ⟨h1, fun y hy => h2 y (.inl (by simpa using hy)), h3⟩
        · rename_i hk1
          have hm : ¬ moves H x := fun hm => by
            obtain ⟨g1, g2, g3⟩ := hm
            rcases hk x with e | e | e | e <;> omega
          -- x alone, then the way to it
          have hok : Court.Ok H (kput s.1 x (endsF (H x) x), s.2) := by
            refine ⟨?_, ?_, ?_, h.disj, ?_⟩
            · intro y hy hmy
              simp only [kget_put] at hy ⊢
              split
              · rfl
              · split at hy
                · rename_i e; subst e; exact absurd hmy hm
                · exact h.closed y hy hmy
            · intro y u hy
              simp only [kget_put] at hy
              split at hy
              · rename_i e; subst e; cases hy; exact ⟨_, .ends hm⟩
              · exact h.right y u hy
            · intro L hL
              obtain ⟨h1, h2, h3⟩ := h.loops L hL
              refine ⟨h1, h2, fun y hy => ?_⟩
              simp only [kget_put]
              split
              · rfl
              · exact h3 y hy
            · intro y u hy hv
              simp only [kget_put] at hy
              split at hy
              · rename_i e
                subst e
                cases hy
                have := congrArg Verd.kind hv
                simp only [endsF] at this
                repeat' split at this
                all_goals omega
              · exact h.found y u hy hv
          have hxv : kget (kput s.1 x (endsF (H x) x)) x = some (endsF (H x) x) := by rw [kget_put, if_pos rfl]
          obtain ⟨h1, h2, h3⟩ := hok.set hxv hn (fun y hy => by rw [kget_put, if_neg (fun e => by subst e; exact hxw hy)]; exact hd y hy) hw
          have same : ∀ y, kget (setK (endsF (H x) x) (way ++ [x]) s.1) y = kget (setK (endsF (H x) x) way (kput s.1 x (endsF (H x) x))) y := fun y => by
            rw [kget_set, kget_set, kget_put]
            by_cases g1 : y ∈ way
            · simp [g1]
            · by_cases g2 : y = x <;> simp [g1, g2]
          refine ⟨⟨?_, ?_, ?_, h1.disj, ?_⟩, ?_, ?_⟩
          · intro y hy hmy
            simp only [same] at hy ⊢
            exact h1.closed y hy hmy
          · intro y u hy
            simp only [same] at hy
            exact h1.right y u hy
          · intro L hL
            obtain ⟨g1, g2, g3⟩ := h1.loops L hL
            exact ⟨g1, g2, fun y hy => by simp only [same]; exact g3 y hy⟩
          · intro y u hy hv
            simp only [same] at hy
            exact h1.found y u hy hv
          · intro y hy
            simp only [same]
            rcases hy with hy | rfl
            · exact h2 y hy
            · rw [h3 _ _ hxv]; rfl
          · intro y u hy
            simp only [same]
            refine h3 y u ?_
            rw [kget_put, if_neg (fun e => by subst e; rw [hx] at hy; cases hy), hy]

/-! ### the whole court -/
def sitF (H : Int → Hop) (f : Nat) : List Int → Court → Court
  | [], s => s
  | r :: l, s => sitF H f l (judgeF H f [] r s)
theorem Court.Ok.sit {l : List Int} (hl : ∀ x, moves H x → x ∈ l) (hk : ∀ x, (H x).kind = 0 ∨ (H x).kind = 1 ∨ (H x).kind = 2 ∨ (H x).kind = 3) {f : Nat} (hf : l.length + 1 < f) : ∀ (t : List Int) {s : Court}, s.Ok H →
    Court.Ok H (sitF H f t s) ∧ (∀ y ∈ t, (kget (sitF H f t s).1 y).isSome = true) ∧ ∀ y u, kget s.1 y = some u → kget (sitF H f t s).1 y = some u
  | [], s, h => ⟨h, fun y hy => (by cases hy), fun _ _ h => h⟩
  | r :: t, s, h => by
    have hr : roundsI l [] ≤ l.length := List.countP_le_length
    obtain ⟨h1, h2, h3⟩ := h.judge hl hk f [] r List.nodup_nil (fun y hy => by cases hy) trivial (by omega)
    obtain ⟨g1, g2, g3⟩ := Court.Ok.sit hl hk hf t h1
    refine ⟨g1, fun y hy => ?_, fun y u hu => g3 y u (h3 y u hu)⟩
    rcases List.mem_cons.1 hy with rfl | hy
    · obtain ⟨u, hu⟩ := Option.isSome_iff_exists.1 (h2 y (.inr rfl))
      show (kget (sitF H f t (judgeF H f [] y s)).1 y).isSome = true
      rw [g3 y u hu]; rfl
    · exact g2 y hy
theorem Court.ok0 : Court.Ok H ([], []) where
  closed := fun y hy _ => by simp [kget] at hy
  right := fun y v h => by simp [kget] at h
  loops := fun L h => by simp at h
  disj := List.Pairwise.nil
  found := fun y v h => by simp [kget] at h

/-- The loop at a router's end. -/
theorem roundF_cyc {x : Int} {l : List Int} : roundF (x :: l ++ [x], ⟨4, x⟩) = x :: l := by
  simp [roundF, onL]
theorem onL_get : ∀ (l : List Int) (x k : Int), 0 ≤ k → x ∈ l → l[(onL l x k - k).toNat]? = some x
  | [], x, k, _, h => by cases h
  | y :: l, x, k, hk, h => by
    rw [onL]
    split
    · rename_i e; subst e; simp
    · rename_i e
      have hm : x ∈ l := by
        rcases List.mem_cons.1 h with h | h
        · exact absurd h.symm e
        · exact h
      have h1 := onL_get l x (k + 1) (by omega) hm
      have h2 := (onL_lt l x (k + 1) (by omega) (by have := (onL_neg l x (k + 1) (by omega)).2 hm; omega)).1
      rw [show (onL l x (k + 1) - k).toNat = (onL l x (k + 1) - (k + 1)).toNat + 1 by omega, List.getElem?_cons_succ]
      exact h1
theorem onL_app : ∀ (l m : List Int) (x k : Int), 0 ≤ k → x ∈ l → onL (l ++ m) x k = onL l x k
  | [], m, x, k, _, h => by cases h
  | y :: l, m, x, k, hk, h => by
    rw [List.cons_append, onL, onL]
    split
    · rfl
    · rename_i e
      rcases List.mem_cons.1 h with h | h
      · exact absurd h.symm e
      · exact onL_app l m x (k + 1) (by omega) h
/-- A loop's row begins with the router that is met again. -/
theorem Goes.round_head {way : List Int} {r : Int} {res : List Int × Verd} (h : Goes H way r res) (hk : res.2.kind = 4) : (roundF res).head? = some res.2.at_ := by
  induction h with
  | ends h =>
    simp only [endsF] at hk
    repeat' split at hk
    all_goals omega
  | @again way r h hp =>
    simp only [roundF, if_true]
    rw [show (way ++ [(H r).peer]).length - 1 = way.length by simp, List.take_left, onL_app _ _ _ _ (Int.le_refl _) hp, List.head?_drop]
    have := onL_get way _ 0 (Int.le_refl _) hp
    rw [Int.sub_zero] at this
    exact this
  | step _ _ _ ih => exact ih hk

theorem leastB_iff {l : List Int} {r : Int} : leastB l r = true ↔ l.head? = some r ∧ ∀ x ∈ l, r ≤ x := by
  unfold leastB
  simp
/-- The loops that the court has found are those of which the document speaks. -/
theorem Court.Ok.loops_iff {s : Court} (h : s.Ok H) {t : List Int} (hall : ∀ y ∈ t, (kget s.1 y).isSome = true) (hl : ∀ x, moves H x → x ∈ t) {W : Int → List Int × Verd} (hW : ∀ r, Goes H [r] r (W r)) (L : List Int) :
    L ∈ s.2 ↔ ∃ r ∈ t, leastB (roundF (W r)) r = true ∧ L = roundF (W r) := by
  constructor
  · intro hL
    obtain ⟨h1, h2, h3⟩ := h.loops L hL
    cases L with
    | nil => exact h1.elim
    | cons x l =>
      have hw : W x = (x :: l ++ [x], ⟨4, x⟩) := (hW x).det (Cyc.goes h1)
      have hr : roundF (W x) = x :: l := by rw [hw]; exact roundF_cyc
      have hx : moves H x := (Path.moves h1.2 x List.mem_cons_self).1
      refine ⟨x, hl x hx, ?_, hr.symm⟩
      rw [hr, leastB_iff]
      refine ⟨rfl, fun y hy => ?_⟩
      have := (minL_mem (l := x :: l) (by simp)).2 y hy
      simp only [List.head?_cons, Option.some.injEq] at h2
      omega
  · rintro ⟨r, hr, hle, rfl⟩
    rw [leastB_iff] at hle
    obtain ⟨v, hv⟩ := Option.isSome_iff_exists.1 (hall r hr)
    obtain ⟨w, hg⟩ := h.right r v hv
    have hw : W r = (w, v) := (hW r).det hg
    have hk : v.kind = 4 := by
      apply Classical.byContradiction
      intro hk
      have : roundF (W r) = [] := by rw [hw]; simp [roundF, hk]
      rw [this] at hle
      cases hle.1
    have hat : v.at_ = r := by
      have := hg.round_head hk
      rw [← hw, hle.1] at this
      rw [hw] at this
      simpa using this.symm
    have hve : v = ⟨4, r⟩ := by cases v; simp_all
    obtain ⟨L, hL, hrL⟩ := h.found r v hv hve
    obtain ⟨h1, h2, h3⟩ := h.loops L hL
    have : roundF (W r) = L := by
      obtain ⟨p, q, rfl⟩ := List.append_of_mem hrL
      cases p with
      | nil =>
        have hw : W r = _ := (hW r).det (Cyc.goes h1)
        rw [hw]; exact roundF_cyc
      | cons z p =>
        exfalso
        have hc := Cyc.rot h1
        have hw : W r = _ := (hW r).det (Cyc.goes hc)
        rw [hw, roundF_cyc, List.append_eq] at hle
        have g1 := hle.2 z (by simp)
        have g2 := (minL_mem (l := z :: p ++ r :: q) (by simp)).2 r (by simp)
        simp only [List.cons_append, List.head?_cons, Option.some.injEq] at h2
        have g3 : z = r := by simp only [List.cons_append] at g2; omega
        have hn := h1.1
        rw [List.nodup_cons] at hn
        exact hn.1 (by rw [g3]; simp)
    rw [this]; exact hL

/-- Two rows with the same elements, both in order by their heads, are one. -/
def headI (l : List Int) : Int := l.head?.getD 0
theorem heads_eq : ∀ {a b : List (List Int)}, (a.Pairwise fun x y => headI x < headI y) → (b.Pairwise fun x y => headI x < headI y) → (∀ L, L ∈ a ↔ L ∈ b) → a = b
  | [], [], _, _, _ => rfl
  | [], y :: b, _, _, h => by have := (h y).2 List.mem_cons_self; cases this
  | x :: a, [], _, _, h => by have := (h x).1 List.mem_cons_self; cases this
  | x :: a, y :: b, ha, hb, h => by
    have hxy : x = y := by
      rcases List.mem_cons.1 ((h x).1 List.mem_cons_self) with e | hx
      · exact e
      · rcases List.mem_cons.1 ((h y).2 List.mem_cons_self) with e | hy
        · exact e.symm
        · have h1 := List.rel_of_pairwise_cons ha hy
          have h2 := List.rel_of_pairwise_cons hb hx
          omega
    subst hxy
    congr 1
    refine heads_eq (List.Pairwise.of_cons ha) (List.Pairwise.of_cons hb) fun L => ?_
    have := h L
    rw [List.mem_cons, List.mem_cons] at this
    constructor
    · intro hL
      rcases this.1 (.inr hL) with e | hb'
      · have := List.rel_of_pairwise_cons ha hL
        rw [e] at this; omega
      · exact hb'
    · intro hL
      rcases this.2 (.inr hL) with e | hb'
      · have := List.rel_of_pairwise_cons hb hL
        rw [e] at this; omega
      · exact hb'
theorem Court.Ok.heads {s : Court} (h : s.Ok H) : s.2.Pairwise fun x y => headI x ≠ headI y := by
  refine h.disj.imp_of_mem fun {a b} ha hb hd e => ?_
  have h1 := (h.loops a ha)
  have h2 := (h.loops b hb)
  cases a with
  | nil => exact h1.1.elim
  | cons x l =>
    cases b with
    | nil => exact h2.1.elim
    | cons y m =>
      simp [headI] at e
      subst e
      exact hd x List.mem_cons_self List.mem_cons_self
end Go.Am

set_option linter.unusedVariables false
set_option linter.unusedSimpArgs false
set_option pp.deepTerms false
set_option pp.deepTerms.threshold 40
namespace Go.Am
open Go.Proofs

/-! ### the document's loops -/
theorem wayF_len (H : Int → Hop) : ∀ (f : Nat) (way : List Int) (r : Int), (wayF H f way r).1.length ≤ way.length + f
  | 0, way, r => by simp [wayF]
  | f + 1, way, r => by
    have ih := wayF_len H f (way ++ [(H r).peer]) (H r).peer
    rw [wayF]
    repeat' split
    all_goals simp at ih ⊢
    all_goals omega
theorem roundN_len (n : Net) (six : Bool) (a : Addr4) (r : Int) (h : n.routers.length ≤ 64) : (roundF (wayN n six a r)).length ≤ 200 := by
  have := wayF_len (fun x => doesF n x six a) (2 * n.routers.length + 2) [r] r
  unfold roundF
  unfold wayN at *
  split
  · simp at this ⊢; omega
  · simp
def loopsL (n : Net) (six : Bool) (a : Addr4) : List Router → List (List Int)
  | [] => []
  | r :: l => if leastB (roundF (wayN n six a r.id)) r.id then roundF (wayN n six a r.id) :: loopsL n six a l else loopsL n six a l
def loopsN (n : Net) (six : Bool) (a : Addr4) : List (List Int) := if rightN n six a then loopsL n six a n.routers else []
def rowL (l : List (List Int)) : List (List IV) := l.map fun x => [.sl 1 (rowI x)]

end Go.Am

set_option linter.unusedVariables false
set_option linter.unusedSimpArgs false
set_option pp.deepTerms false
set_option pp.deepTerms.threshold 40
namespace Go.Am
open Go.Proofs

/-! ### small functions of judge, and of slices -/
theorem rightJ_spec (n : Net) (six : Bool) (a : Addr4) : FSpec Tryz.prog 15 [n.av, .bool six, a.av] [] (.bool (rightN n six a)) [] := by
  refine FSpec.of_flat (q := []) Tryz.func15 (by kernel_rfl) rfl Tryz.ntmps15 Tryz.results15 hP (by kernel_rfl) (by simp) (by first | rfl | simp) ?_
  simp
  first | refine CallK.same (checkN_spec n) rfl rfl ?_ | refine CallQ.same (checkN_spec n) rfl rfl ?_ | refine CallQG.same _ (checkN_spec n) rfl ?_ | refine CallG.same _ (checkN_spec n) rfl ?_ | refine CallK.pv (checkN_spec n) rfl rfl ?_
  simp
  first | refine CallK.same (rightA_spec six a) rfl rfl ?_ | refine CallQ.same (rightA_spec six a) rfl rfl ?_ | refine CallQG.same _ (rightA_spec six a) rfl ?_ | refine CallG.same _ (rightA_spec six a) rfl ?_ | refine CallK.pv (rightA_spec six a) rfl rfl ?_
  simp [rightN]
  cases netOk n <;> simp
theorem ends_spec (h : Hop) (r : Int) : FSpec Tryz.prog 43 [h.av, .int .i64 r] [] (endsF h r).av [] := by
  refine FSpec.of_flat (q := []) Tryz.func43 (by kernel_rfl) rfl Tryz.ntmps43 Tryz.results43 hP (by kernel_rfl) (by simp) (by first | rfl | simp) ?_
  simp
  refine ⟨fun h2 => ?_, fun h2 => ⟨fun h3 => ?_, fun h3 => ?_⟩⟩
  · simp [endsF, h2]
  · simp [endsF, h2, h3]
  · simp [endsF, h2, h3]
theorem indexI_spec (l : List Int) (x : Int) : FSpec Tryz.prog 41 [.im (.sl 1 (rowI l)), .int .i64 x] [] (.int .i64 (onL l x 0)) [] := by
  refine FSpec.bd (enters_of Tryz.func41 (by kernel_rfl) rfl) fun hbd => ?_
  have hl : l.length ≤ 9223372036854775807 := by simp [maxLen] at hbd; exact hbd.1
  refine FSpec.of_flat (q := []) Tryz.func41 (by kernel_rfl) rfl Tryz.ntmps41 Tryz.results41 hP (by kernel_rfl) (by simp) (by first | rfl | simp) ?_
  simp
  refine LoopK.plain (fun k : Nat => [(0, .im (.sl 1 (rowI l))), (1, .int .i64 x), (7, .int .i64 l.length), (8, .int .i64 k)])
    (fun k => k ≤ l.length ∧ onL (l.drop k) x k = onL l x 0) (fun k => l.length - k) 0 ⟨Nat.zero_le _, by simp⟩ (by simp) ?_
  rintro k ⟨hk, hR⟩
  by_cases hlt : k < l.length
  · have e1 : IntKind.i64.wrap (k + 1) = (k + 1 : Nat) := wrap64 (by omega) (by omega)
    have hg := rowI_get l k _ (List.getElem?_eq_getElem hlt)
    rw [List.drop_eq_getElem_cons hlt, onL] at hR
    simp [hlt, e1, hg]
    refine ⟨fun h => ?_, fun h => ?_⟩
    · rw [← hR, if_pos h.symm]
    · rw [if_neg (Ne.symm h)] at hR
      refine Again.plain (k + 1) ⟨hlt, by rw [← hR]; simp⟩ (by omega) (by simp)
  · have : k = l.length := by omega
    subst this
    simp [onL] at hR
    simp [← hR]
theorem minI_snoc : ∀ (l : List Int) (m x : Int), minI (l ++ [x]) m = min (minI l m) x
  | [], m, x => rfl
  | y :: l, m, x => by rw [List.cons_append, minI, minI_snoc l, minI]
theorem minS_spec (l : List Int) (h : l ≠ []) : FSpec Tryz.prog 68 [.im (.sl 1 (rowI l))] [] (.int .i64 (minL l)) [] := by
  refine FSpec.bd (enters_of Tryz.func68 (by kernel_rfl) rfl) fun hbd => ?_
  have hl : l.length ≤ 9223372036854775807 := by simp [maxLen] at hbd; exact hbd.1
  obtain ⟨y, t, rfl⟩ : ∃ y t, l = y :: t := by cases l with | nil => exact absurd rfl h | cons y t => exact ⟨y, t, rfl⟩
  simp only [minL]
  refine FSpec.of_flat (q := []) Tryz.func68 (by kernel_rfl) rfl Tryz.ntmps68 Tryz.results68 hP (by kernel_rfl) (by simp) (by first | rfl | simp) ?_
  have hg0 := rowI_get (y :: t) 0 y rfl
  have hc : ¬ ((y :: t).length : Int) < 1 := by simp; omega
  generalize hL : y :: t = L at *
  have hLl : L.length = t.length + 1 := by rw [← hL]; rfl
  simp [hg0, hLl]
  refine ⟨by omega, fun _ => ?_⟩
  have hy : L[0]'(by omega) = y := by simp [← hL]
  refine LoopK.plain (fun k : Nat => [(0, .im (.sl 1 (rowI L))), (3, .int .i64 (minI (t.take k) y)), (4, .int .i64 (k + 1 : Nat))])
    (fun k => k ≤ t.length) (fun k => t.length - k) 0 (Nat.zero_le _) (by simp [minI, hy]) ?_
  intro k hk
  by_cases hlt : k < t.length
  · have e1 : IntKind.i64.wrap (((k + 1 : Nat) : Int) + 1) = (k + 1 + 1 : Nat) := wrap64 (by omega) (by omega)
    have e2 : (k : Int) + 1 < t.length + 1 := by omega
    have hg : (rowI L)[k + 1]? = some [.sc (.int .i64 t[k])] := rowI_get L (k + 1) _ (by rw [← hL]; simp)
    simp at e1
    simp [hLl, e1, e2, hg, hlt]
    refine ⟨by omega, ?_⟩
    have hLk : L[k + 1]'(by omega) = t[k] := by simp [← hL]
    have hm : (if t[k] < minI (t.take k) y then t[k] else minI (t.take k) y) = minI (t.take (k + 1)) y := by
      rw [List.take_add_one, List.getElem?_eq_getElem hlt, Option.toList_some, minI_snoc]
      split <;> omega
    refine Again.plain (k + 1) hlt (by omega) ?_
    simp [hLk, hm]
  · have : k = t.length := by omega
    subst this
    simp [hLl]
end Go.Am

set_option linter.unusedVariables false
set_option linter.unusedSimpArgs false
set_option pp.deepTerms false
set_option pp.deepTerms.threshold 40
namespace Go.Am
open Go.Proofs

/-! ### rows one behind the other -/
theorem growI_spec (n : Int) (h0 : 0 ≤ n) (h1 : n ≤ 1000) : FSpec Tryz.prog 91 [.im (.sc (.slice none 0 0)), .int .i64 n] [] (.row 0) [.row 3 1 []] := by
  refine FSpec.of_o (q := []) Tryz.func91 (by kernel_rfl) rfl Tryz.ntmps91 Tryz.results91 hP (by kernel_rfl) (by simp) (by first | rfl | simp) ?_
  have e0 : IntKind.i64.wrap 0 = 0 := by decide
  have e1 : IntKind.i64.wrap n = n := wrap64 (by omega) (by omega)
  simp [e0, e1]
  refine ⟨h0, fun _ => ⟨fun hp => ⟨⟨hp, by unfold maxLen; omega, by omega⟩, .inr ⟨by omega, ?_⟩⟩, fun hz => ?_⟩⟩
  · refine EndO.ret [] [1] (.row 1) (by simp) (by simp)
  · refine EndO.nilR (.sl 4 3 1) ?_
    simp
    refine EndO.ret [] [0] (.row 0) (by simp) (by simp)
theorem rowL_get (l : List (List Int)) (k : Nat) (h : k < l.length) : (rowL l)[k]? = some [.sl 1 (rowI l[k])] := by simp [rowL, h]
@[simp] theorem rowL_getElem (l : List (List Int)) (k : Nat) (h : k < (rowL l).length) : (rowL l)[k] = [.sl 1 (rowI (l[k]'(by simpa [rowL] using h)))] := by simp [rowL]
@[simp] theorem rowL_length (l : List (List Int)) : (rowL l).length = l.length := by simp [rowL]
theorem rowI_append (l t : List Int) : rowI (l ++ t) = rowI l ++ rowI t := by simp [rowI]
def sumL (l : List (List Int)) : Nat := (l.map List.length).sum
theorem sumL_snoc (l : List (List Int)) (x : List Int) : sumL (l ++ [x]) = sumL l + x.length := by simp [sumL]
theorem sumL_take (l : List (List Int)) (k : Nat) (h : k < l.length) : sumL (l.take (k + 1)) = sumL (l.take k) + l[k].length := by
  rw [List.take_add_one, List.getElem?_eq_getElem h]; exact sumL_snoc _ _
theorem sumL_le (l : List (List Int)) : ∀ k, sumL (l.take k) ≤ sumL l := fun k => by
  have : sumL l = sumL (l.take k) + sumL (l.drop k) := by
    unfold sumL
    rw [← List.sum_append, ← List.map_append, List.take_append_drop]
  omega
theorem flat_take (l : List (List Int)) (k : Nat) (h : k < l.length) : (l.take (k + 1)).flatten = (l.take k).flatten ++ l[k] := by
  rw [List.take_add_one, List.getElem?_eq_getElem h, List.flatten_append]; simp
theorem flat_len (l : List (List Int)) : l.flatten.length = sumL l := by simp [sumL, List.length_flatten]
set_option maxRecDepth 4000 in
theorem concat_spec (l : List (List Int)) (hs : sumL l ≤ 1000) (hlen : l.length ≤ 1000) : FSpec Tryz.prog 69 [.im (.sl 1 (rowL l))] [] (.im (.sl 1 (rowI l.flatten))) [] := by
  refine FSpec.of_z (q := []) Tryz.func69 (by kernel_rfl) rfl Tryz.ntmps69 Tryz.results69 hP (by kernel_rfl) (by simp) (by first | rfl | simp) ?_
  simp
  refine LoopK.plain (fun k : Nat => [(0, .im (.sl 1 (rowL l))), (3, .int .i64 (sumL (l.take k))), (9, .im (.sl 1 (rowL l))), (10, .int .i64 l.length), (11, .int .i64 k)])
    (fun k => k ≤ l.length) (fun k => l.length - k) 0 (Nat.zero_le _) (by simp [sumL]) ?_
  intro k hk
  by_cases hlt : k < l.length
  · have e1 : IntKind.i64.wrap (k + 1) = (k + 1 : Nat) := wrap64 (by omega) (by omega)
    have hst := sumL_take l k hlt
    have hsl := sumL_le l (k + 1)
    have e2 : IntKind.i64.wrap ((sumL (l.take k) : Int) + l[k].length) = (sumL (l.take (k + 1)) : Nat) := by rw [wrap64 (by omega) (by omega)]; omega
    have hg := rowL_get l k hlt
    simp [hlt, hg, e1, e2]
    refine Again.plain (k + 1) hlt (by omega) (by simp)
  · have hkk : k = l.length := by omega
    subst hkk
    simp
    refine CallK.outs [] (growI_spec (sumL l) (by omega) (by omega)) rfl ?_ ?_ ?_
    · simp
    · simp [AV.flat]
    simp
    refine LoopK.os (fun k : Nat => [(6, .row 0), (25, .im (.sl 1 (rowL l))), (26, .int .i64 l.length), (27, .int .i64 k)])
      (fun k => [.row 3 1 (rowI (l.take k).flatten)]) (fun k => k ≤ l.length) (fun k => l.length - k) 0 [0] (Nat.zero_le _) (by simp [rowI]) ?_
    intro k hk
    by_cases hlt : k < l.length
    · have e1 : IntKind.i64.wrap (k + 1) = (k + 1 : Nat) := wrap64 (by omega) (by omega)
      have hg := rowL_get l k hlt
      have hft := flat_take l k hlt
      have hst := sumL_take l k hlt
      have hsl := sumL_le l (k + 1)
      have hfl := flat_len (l.take k)
      simp [-List.length_flatten, hlt, hg, e1]
      refine ⟨⟨by omega, by unfold maxLen; omega⟩, ?_⟩
      refine Again.os (k + 1) [1] hlt (by omega) ?_
      simp [hft, rowI_append]
    · have hkk : k = l.length := by omega
      subst hkk
      simp
      refine EndZ.ret [0] (.row 0) (by simp) (by simp)
end Go.Am

set_option linter.unusedVariables false
set_option linter.unusedSimpArgs false
set_option pp.deepTerms false
set_option pp.deepTerms.threshold 40
namespace Go.Am
open Go.Proofs

/-! ### the court -/
def kmap {β : Type} (f : β → AV) (l : List (Int × β)) : List (Int × AV) := l.map fun p => (p.1, f p.2)
theorem midx_kmap {β : Type} (f : β → AV) : ∀ (l : List (Int × β)) (x : Int), (midx (kmap f l) x = none ↔ kget l x = none) ∧ ∀ i, midx (kmap f l) x = some i → ∃ v, kget l x = some v ∧ l[i]? = some (x, v) ∧ ∀ u, kput l x u = l.modify i fun p => (p.1, u)
  | [], x => ⟨by simp [kmap, midx, kget], fun i h => by simp [kmap, midx] at h⟩
  | (k, v) :: l, x => by
    obtain ⟨h1, h2⟩ := midx_kmap f l x
    have e : kmap f ((k, v) :: l) = (k, f v) :: kmap f l := rfl
    rw [e]
    by_cases hk : x = k
    · subst hk
      refine ⟨by simp [midx, kget], fun i hi => ?_⟩
      simp [midx] at hi
      subst hi
      exact ⟨v, by simp [kget], rfl, fun u => by simp [kput]⟩
    · refine ⟨by simp [midx, kget, hk, h1], fun i hi => ?_⟩
      simp only [midx, hk, if_false, Option.map_eq_some_iff] at hi
      obtain ⟨j, hj, rfl⟩ := hi
      obtain ⟨u, g1, g2, g3⟩ := h2 j hj
      exact ⟨u, by simp [kget, hk, g1], by simpa using g2, fun u => by simp [kput, hk, g3]⟩
theorem mget_kmap {β : Type} (f : β → AV) (l : List (Int × β)) (x : Int) : mget (kmap f l) x = (kget l x).map f := by
  obtain ⟨h1, h2⟩ := midx_kmap f l x
  unfold mget
  cases h : midx (kmap f l) x with
  | none => rw [h1.1 h]; rfl
  | some i =>
    obtain ⟨v, g1, g2, _⟩ := h2 i h
    rw [g1]
    simp [kmap, g2]
theorem mput_kmap {β : Type} (f : β → AV) (l : List (Int × β)) (x : Int) (v : β) : mput (kmap f l) x (f v) = kmap f (kput l x v) := by
  obtain ⟨h1, h2⟩ := midx_kmap f l x
  unfold mput
  cases h : midx (kmap f l) x with
  | none =>
    have hput : ∀ (l : List (Int × β)), kget l x = none → kput l x v = l ++ [(x, v)] := by
      intro l
      induction l with
      | nil => intro _; rfl
      | cons p l ih =>
        obtain ⟨k, u⟩ := p
        intro hg
        rw [kget] at hg
        split at hg
        · cases hg
        · rename_i hk
          simp [kput, hk, ih hg]
    rw [hput l (h1.1 h)]
    simp [kmap]
  | some i =>
    obtain ⟨u, g1, g2, g3⟩ := h2 i h
    rw [g3]
    simp only [kmap]
    have key : ∀ (l : List (Int × β)) (i : Nat), (l.map fun p => (p.1, f p.2)).modify i (fun y => (y.1, f v)) = (l.modify i fun p => (p.1, v)).map fun p => (p.1, f p.2) := by
      intro l
      induction l with
      | nil => intro i; simp
      | cons p l ih =>
        intro i
        cases i with
        | zero => simp
        | succ i => simp [ih i]
    exact key l i
theorem renM_kmap {β : Type} (ρ : Nat → Nat) (f : β → AV) (hf : ∀ b, (f b).pure = true) : ∀ l : List (Int × β), renM ρ (kmap f l) = kmap f l
  | [] => rfl
  | (k, v) :: l => by
    have ih := renM_kmap ρ f hf l
    show (k, (f v).ren ρ) :: renM ρ (kmap f l) = (k, f v) :: kmap f l
    rw [ih, AV.pure_ren ρ _ (hf v)]
@[simp] theorem renM_hop (ρ : Nat → Nat) (l : List (Int × Hop)) : renM ρ (kmap Hop.av l) = kmap Hop.av l := renM_kmap ρ _ (fun _ => rfl) l
@[simp] theorem renM_verd (ρ : Nat → Nat) (l : List (Int × Verd)) : renM ρ (kmap Verd.av l) = kmap Verd.av l := renM_kmap ρ _ (fun _ => rfl) l
theorem setK_app (v : Verd) : ∀ (l t : List Int) (kn : List (Int × Verd)), setK v (l ++ t) kn = setK v t (setK v l kn)
  | [], t, kn => rfl
  | x :: l, t, kn => by rw [List.cons_append, setK, setK, setK_app v l t]
theorem setK_take (v : Verd) (kn : List (Int × Verd)) (l : List Int) (k : Nat) (h : k < l.length) : setK v (l.take (k + 1)) kn = kput (setK v (l.take k) kn) l[k] v := by
  rw [List.take_add_one, List.getElem?_eq_getElem h, setK_app]; rfl
theorem rndK_app : ∀ (l t : List Int) (kn : List (Int × Verd)), rndK (l ++ t) kn = rndK t (rndK l kn)
  | [], t, kn => rfl
  | x :: l, t, kn => by rw [List.cons_append, rndK, rndK, rndK_app l t]
theorem rndK_take (kn : List (Int × Verd)) (l : List Int) (k : Nat) (h : k < l.length) : rndK (l.take (k + 1)) kn = kput (rndK (l.take k) kn) l[k] ⟨4, l[k]⟩ := by
  rw [List.take_add_one, List.getElem?_eq_getElem h, rndK_app]; rfl
/-- .. with a row of loops that has moved. -/
def courtN (hs : List (Int × Hop)) (s : Court) : List AObj := [.box 67 [.map 1, .map 2, .row 4], .mp .i64 (kmap Hop.av hs), .mp .i64 (kmap Verd.av s.1), .gone, .row 39 1 (rowL s.2)]
def courtO (hs : List (Int × Hop)) (s : Court) : List AObj := [.box 67 [.map 1, .map 2, .row 3], .mp .i64 (kmap Hop.av hs), .mp .i64 (kmap Verd.av s.1), .row 39 1 (rowL s.2)]
theorem settle_spec (hs : List (Int × Hop)) (s : Court) (way : List Int) (v : Verd) : FSpec Tryz.prog 40 [.ptr 0 0, .im (.sl 1 (rowI way)), v.av] (courtO hs s) (.tup []) (courtO hs (setK v way s.1, s.2)) := by
  refine FSpec.bd (enters_of Tryz.func40 (by kernel_rfl) rfl) fun hbd => ?_
  have hl : way.length ≤ 9223372036854775807 := by simp [maxLen] at hbd; exact hbd.1
  refine FSpec.of_o (q := [(4, .n 6)]) Tryz.func40 (by kernel_rfl) rfl Tryz.ntmps40 Tryz.results40 hP (by kernel_rfl) (by simp) (by first | rfl | simp) ?_
  simp [courtO]
  refine LoopK.os (fun k : Nat => [(0, .ptr 0 0), (5, .ptr 4 0), (8, .im (.sl 1 (rowI way))), (9, .int .i64 way.length), (10, .int .i64 k)])
    (fun k => [.box 67 [.map 1, .map 2, .row 3], .mp .i64 (kmap Hop.av hs), .mp .i64 (kmap Verd.av (setK v (way.take k) s.1)), .row 39 1 (rowL s.2), .box 36 [.int .u8 v.kind, .int .i64 v.at_]])
    (fun k => k ≤ way.length) (fun k => way.length - k) 0 [0, 1, 2, 3, 4] (Nat.zero_le _) (by simp [setK]) ?_
  intro k hk
  by_cases hlt : k < way.length
  · have e1 : IntKind.i64.wrap (k + 1) = (k + 1 : Nat) := wrap64 (by omega) (by omega)
    have hg := rowI_get way k _ (List.getElem?_eq_getElem hlt)
    have hst := setK_take v s.1 way k hlt
    have hput := mput_kmap Verd.av (setK v (way.take k) s.1) way[k] v
    simp only [Verd.av] at hput
    simp [hlt, e1, hg, hput]
    refine Again.os (k + 1) [0, 1, 2, 3, 4] hlt (by omega) ?_
    simp [hst]
  · have hkk : k = way.length := by omega
    subst hkk
    simp
    refine EndO.normal [] [0, 1, 2, 3] (.tup []) (by simp) ?_
    simp
theorem onL_min {l : List Int} (h : l ≠ []) : 0 ≤ onL l (minL l) 0 ∧ onL l (minL l) 0 < l.length := by
  have h1 := (onL_neg l (minL l) 0 (Int.le_refl _)).2 (minL_mem h).1
  have := onL_lt l (minL l) 0 (Int.le_refl _) h1
  omega
theorem round_spec_ (hs : List (Int × Hop)) (s : Court) (l : List Int) (hne : l ≠ []) (hlen : l.length ≤ 200) (hlp : s.2.length ≤ 200) : FSpec Tryz.prog 42 [.ptr 0 0, .im (.sl 1 (rowI l))] (courtO hs s) (.tup []) (courtN hs (rndK l s.1, s.2 ++ [rotM l])) := by
  refine FSpec.of_o (q := [(6, .m [.p [1, 2, 3, 4], .p [1, 2, 3], .p [1, 2, 3], .p [1, 2, 3], .p [1, 2, 3], .p [], .p [], .p [], .p [], .p [], .p [], .e [32, 35], .e [36], .e [37], .e [29, 38]])]) Tryz.func42 (by kernel_rfl) rfl Tryz.ntmps42 Tryz.results42 hP (by kernel_rfl) (by simp) (by first | rfl | simp) ?_
  simp [courtO, courtN]
  refine LoopK.os (fun k : Nat => [(0, .ptr 0 0), (1, .im (.sl 1 (rowI l))), (7, .im (.sl 1 (rowI l))), (8, .int .i64 l.length), (9, .int .i64 k)])
    (fun k => [.box 67 [.map 1, .map 2, .row 3], .mp .i64 (kmap Hop.av hs), .mp .i64 (kmap Verd.av (rndK (l.take k) s.1)), .row 39 1 (rowL s.2)])
    (fun k => k ≤ l.length) (fun k => l.length - k) 0 [0, 1, 2, 3] (Nat.zero_le _) (by simp [rndK]) ?_
  intro k hk
  by_cases hlt : k < l.length
  · have e1 : IntKind.i64.wrap (k + 1) = (k + 1 : Nat) := wrap64 (by omega) (by omega)
    have hg := rowI_get l k _ (List.getElem?_eq_getElem hlt)
    have hst := rndK_take s.1 l k hlt
    have hput := mput_kmap Verd.av (rndK (l.take k) s.1) l[k] ⟨4, l[k]⟩
    simp only [Verd.av] at hput
    simp [hlt, e1, hg, hput]
    refine Again.os (k + 1) [0, 1, 2, 3] hlt (by omega) ?_
    simp [hst]
  · have hkk : k = l.length := by omega
    subst hkk
    simp
    first | refine CallK.same (minS_spec l hne) rfl rfl ?_ | refine CallQ.same (minS_spec l hne) rfl rfl ?_ | refine CallQG.same _ (minS_spec l hne) rfl ?_ | refine CallG.same _ (minS_spec l hne) rfl ?_ | refine CallK.pv (minS_spec l hne) rfl rfl ?_
    simp
    first | refine CallK.same (indexI_spec l (minL l)) rfl rfl ?_ | refine CallQ.same (indexI_spec l (minL l)) rfl rfl ?_ | refine CallQG.same _ (indexI_spec l (minL l)) rfl ?_ | refine CallG.same _ (indexI_spec l (minL l)) rfl ?_ | refine CallK.pv (indexI_spec l (minL l)) rfl rfl ?_
    simp
    obtain ⟨g1, g2⟩ := onL_min hne
    refine ⟨⟨g1, by omega⟩, ?_⟩
    have hcat : FSpec Tryz.prog 69 [.im (.sl 1 [[.sl 1 (List.drop (onL l (minL l) 0).toNat (List.take l.length (rowI l)))], [.sl 1 (List.take (onL l (minL l) 0).toNat (rowI l))]])] [] (.im (.sl 1 (rowI (rotM l)))) [] := by
      rw [show List.take l.length (rowI l) = rowI l by rw [← rowI_length l, List.take_length]]
      have := concat_spec [l.drop (onL l (minL l) 0).toNat, l.take (onL l (minL l) 0).toNat] (by simp [sumL]; omega) (by simp)
      simpa [rowL, rowI, rotM] using this
    have hrl : (rowL (s.2 ++ [rotM l])) = rowL s.2 ++ [[.sl 1 (rowI (rotM l))]] := by simp [rowL]
    refine CallK.val [4] hcat rfl (by simp) rfl ?_ ?_
    all_goals
      simp
      refine ⟨⟨by omega, by unfold maxLen; omega⟩, ?_⟩
      refine EndO.normal [] [0, 1, 2, 3, 6] (.tup []) (by simp) ?_
      simp [hrl]

set_option maxRecDepth 8000 in
theorem judgeJ_spec (hs : List (Int × Hop)) (s : Court) (H : Int → Hop) (l : List Int) (r : Int) (hH : ∀ x, (kget hs x).getD ⟨0, 0⟩ = H x) (hl : ∀ x, moves H x → x ∈ l) (hk : ∀ x, (H x).kind = 0 ∨ (H x).kind = 1 ∨ (H x).kind = 2 ∨ (H x).kind = 3) (hlen : l.length ≤ 100) (hlp : s.2.length ≤ 200) :
    FSpec Tryz.prog 27 [.ptr 0 0, .int .i64 r] (courtO hs s) (.tup []) (courtN hs (judgeF H (l.length + 2) [] r s)) := by
  refine FSpec.of_o (q := [(8, .n 10)]) Tryz.func27 (by kernel_rfl) rfl Tryz.ntmps27 Tryz.results27 hP (by kernel_rfl) (by simp) (by first | rfl | simp) ?_
  simp [courtO, courtN]
  refine LoopK.nil (.sl 4 3 1) ?_
  simp
  have hr0 : roundsI l [] ≤ l.length := List.countP_le_length
  refine LoopK.os (fun g : List Int × Int × Nat => [(0, .ptr 0 0), (4, .row 4), (5, .int .i64 g.2.1)])
    (fun g => [.box 67 [.map 1, .map 2, .row 3], .mp .i64 (kmap Hop.av hs), .mp .i64 (kmap Verd.av s.1), .row 39 1 (rowL s.2), .row 3 1 (rowI g.1)])
    (fun g => roundsI l g.1 + 1 < g.2.2 ∧ g.1.length + g.2.2 = l.length + 2 ∧ judgeF H g.2.2 g.1 g.2.1 s = judgeF H (l.length + 2) [] r s) (fun g => g.2.2) ([], r, l.length + 2) [0, 1, 2, 3, 4] ⟨by simp only; omega, by simp, rfl⟩ (by simp [rowI]) ?_
  rintro ⟨way, x, f⟩ ⟨hf, hw, hR⟩
  simp only at hf hw hR
  obtain ⟨f, rfl⟩ : ∃ f', f = f' + 1 := ⟨f - 1, by omega⟩
  generalize judgeF H (l.length + 2) [] r s = RES at *
  rw [judgeF] at hR
  have hgk := mget_kmap Verd.av s.1 x
  have hgh : (mget (kmap Hop.av hs) x).getD (.agg [.int .u8 0, .int .i64 0]) = (H x).av := by
    rw [mget_kmap, ← hH x]
    cases kget hs x <;> rfl
  cases hx : kget s.1 x with
  | some v =>
    rw [hx] at hR hgk
    simp only at hR
    subst hR
    simp [hgk]
    refine CallO.mk [4] [0, 1, 2, 3] (settle_spec hs s way v) (by simp) rfl (by simp [courtO]) (by simp [courtO]) (by simp) ?_
    simp [courtO]
    refine EndO.nilR (.mv 0 2) ?_
    simp
    refine EndO.ret [] [0, 1, 2, 3, 6] (.tup []) (by simp) ?_
    simp
  | none =>
    rw [hx] at hR hgk
    simp only at hR
    simp [hgk]
    refine CallK.fz [4] (indexI_spec way x) (by simp) (by simp) rfl ?_
    simp
    refine ⟨fun hon => ?_, fun hon => ?_⟩
    · rw [if_pos hon] at hR
      subst hR
      have hxw := (onL_neg _ _ _ (Int.le_refl _)).1 hon
      have hlt := onL_lt way x 0 (Int.le_refl _) hon
      obtain ⟨i, hi⟩ : ∃ i : Nat, onL way x 0 = i := ⟨(onL way x 0).toNat, by omega⟩
      have hi2 : i < way.length := by omega
      rw [hi]
      simp [hi2]
      refine ⟨by omega, ?_⟩
      refine CallX.pre (.fz [4]) ?_
      simp
      have hdr : List.take (way.length - i) (List.drop i (rowI way)) = rowI (way.drop i) := by
        rw [← rowI_length way, ← List.length_drop, List.take_length]
        simp [rowI]
      have htk : List.take i (rowI way) = rowI (way.take i) := by simp [rowI]
      refine CallO.mk [] [0, 1, 2, 3] (round_spec_ hs s (way.drop i) (by simp; omega) (by simp; omega) hlp) (by simp) rfl (by simp [courtO, courtN]) (by simp [courtO]) ?_ ?_
      · have hc : i + (way.length - i) ≤ way.length := by omega
        simp [hdr, hc]
      · have hgk2 := mget_kmap Verd.av (rndK (way.drop i) s.1) x
        have hv : kget (rndK (way.drop i) s.1) x = some ⟨4, x⟩ := by
          rw [kget_rnd, if_pos]
          obtain ⟨a, b, h1, h2, h3⟩ := onL_split 0 hxw
          have : i = a.length := by omega
          subst this
          rw [h1]; simp
        rw [hv] at hgk2
        simp [courtN, hgk2, hi2, htk]
        refine ⟨by omega, ?_⟩
        have hcn : courtO hs (rndK (way.drop i) s.1, s.2 ++ [rotM (way.drop i)]) = courtO hs (rndK (way.drop i) s.1, s.2 ++ [rotM (way.drop i)]) := rfl
        refine CallO.mk [] [0, 1, 2, 6] (settle_spec hs (rndK (way.drop i) s.1, s.2 ++ [rotM (way.drop i)]) (way.take i) ⟨4, x⟩) (by simp) rfl (by simp [courtO]) (by simp [courtO]) (by simp) ?_
        simp [courtO]
        refine EndO.ret [] [0, 1, 2, 3, 6] (.tup []) (by simp) ?_
        simp [hv]
    · rw [if_neg (by omega)] at hR
      simp [hgh]
      have hrw : rowI (way ++ [x]) = rowI way ++ [[.sc (.int .i64 x)]] := by simp [rowI]
      refine ⟨⟨by omega, by unfold maxLen; omega⟩, fun hk1 => ?_, fun hk1 => ?_⟩
      · rw [if_neg hk1] at hR
        subst hR
        first | refine CallK.same (ends_spec (H x) x) rfl rfl ?_ | refine CallQ.same (ends_spec (H x) x) rfl rfl ?_ | refine CallQG.same _ (ends_spec (H x) x) rfl ?_ | refine CallG.same _ (ends_spec (H x) x) rfl ?_ | refine CallK.pv (ends_spec (H x) x) rfl rfl ?_
        simp
        refine CallX.pre (.fz [8]) ?_
        simp
        refine CallO.mk [] [0, 1, 2, 3] (settle_spec hs s (way ++ [x]) (endsF (H x) x)) (by simp) rfl (by simp [courtO]) (by simp [courtO]) (by simp [hrw]) ?_
        simp [courtO]
        refine EndO.nilR (.mv 0 2) ?_
        simp
        refine EndO.ret [] [0, 1, 2, 3, 9] (.tup []) (by simp) ?_
        simp
      · rw [if_pos hk1] at hR
        have hxw : ¬ x ∈ way := fun h' => by have := (onL_neg way x 0 (Int.le_refl _)).2 h'; omega
        have hst := roundsI_step (hl x ⟨by omega, by omega, by omega⟩) hxw
        refine Again.os (way ++ [x], (H x).peer, f) [0, 1, 2, 3, 8] ⟨by simp only; omega, by simp; omega, hR⟩ (by simp only; omega) ?_
        simp [hrw]
end Go.Am

set_option linter.unusedVariables false
set_option linter.unusedSimpArgs false
set_option pp.deepTerms false
set_option pp.deepTerms.threshold 40
namespace Go.Am
open Go.Proofs

/-! ### the court sits -/
theorem judgeF_len (H : Int → Hop) : ∀ (f : Nat) (way : List Int) (x : Int) (s : Court), (judgeF H f way x s).2.length ≤ s.2.length + 1
  | 0, _, _, s => by simp [judgeF]
  | f + 1, way, x, s => by
    rw [judgeF]
    split
    · simp
    · split
      · simp
      · split
        · exact judgeF_len H f _ _ s
        · simp
theorem sitF_snoc (H : Int → Hop) (f : Nat) : ∀ (l : List Int) (x : Int) (s : Court), sitF H f (l ++ [x]) s = judgeF H f [] x (sitF H f l s)
  | [], x, s => rfl
  | y :: l, x, s => by rw [List.cons_append, sitF, sitF_snoc H f l, sitF]
theorem sitF_len (H : Int → Hop) (f : Nat) : ∀ (l : List Int) (s : Court), (sitF H f l s).2.length ≤ s.2.length + l.length
  | [], s => by simp [sitF]
  | y :: l, s => by
    have h1 := sitF_len H f l (judgeF H f [] y s)
    have h2 := judgeF_len H f [] y s
    rw [sitF]
    simp; omega
@[simp] theorem kmap_nil {β : Type} (f : β → AV) : kmap f [] = [] := rfl
@[simp] theorem renM_nil (ρ : Nat → Nat) : renM ρ ([] : List (Int × AV)) = [] := rfl
def idsN (n : Net) : List Int := n.routers.map Router.id
def hopN (n : Net) (six : Bool) (a : Addr4) : Int → Hop := fun x => doesF n x six a
def hopsK (H : Int → Hop) : List Int → List (Int × Hop) → List (Int × Hop)
  | [], m => m
  | x :: l, m => hopsK H l (kput m x (H x))
theorem hopsK_app (H : Int → Hop) : ∀ (l t : List Int) (m : List (Int × Hop)), hopsK H (l ++ t) m = hopsK H t (hopsK H l m)
  | [], t, m => rfl
  | x :: l, t, m => by rw [List.cons_append, hopsK, hopsK, hopsK_app H l t]
theorem kget_hops (H : Int → Hop) : ∀ (l : List Int) (m : List (Int × Hop)) (y : Int), kget (hopsK H l m) y = if y ∈ l then some (H y) else kget m y
  | [], m, y => by simp [hopsK]
  | x :: l, m, y => by
    rw [hopsK, kget_hops H l, kget_put]
    by_cases h1 : y ∈ l
    · simp [h1]
    · by_cases h2 : y = x
      · subst h2; simp
      · simp [h1, h2]
theorem hopN_out {n : Net} {six : Bool} {a : Addr4} {x : Int} (h : x ∉ idsN n) : hopN n six a x = ⟨0, 0⟩ := by
  unfold hopN doesF
  cases hr : routerF n.routers x with
  | none => rfl
  | some r =>
    exfalso
    have hm := List.mem_of_find?_eq_some hr
    have hp := List.find?_some hr
    simp at hp
    exact h (List.mem_map.2 ⟨r, hm, hp⟩)
theorem hopN_moves (n : Net) (six : Bool) (a : Addr4) (x : Int) (h : moves (hopN n six a) x) : x ∈ idsN n := by
  apply Classical.byContradiction
  intro hx
  rw [moves, hopN_out hx] at h
  exact h.1 rfl
theorem hopF_kind (r : Router) (six : Bool) (a : Addr4) : (hopF r six a).kind = 0 ∨ (hopF r six a).kind = 1 ∨ (hopF r six a).kind = 2 ∨ (hopF r six a).kind = 3 := by
  unfold hopF
  repeat' split
  all_goals simp
theorem hopN_kind (n : Net) (six : Bool) (a : Addr4) (x : Int) : (hopN n six a x).kind = 0 ∨ (hopN n six a x).kind = 1 ∨ (hopN n six a x).kind = 2 ∨ (hopN n six a x).kind = 3 := by
  unfold hopN doesF
  split
  · simp
  · exact hopF_kind _ _ _
def sitN (n : Net) (six : Bool) (a : Addr4) : Court := sitF (hopN n six a) ((idsN n).length + 2) (idsN n) ([], [])
def hopsN (n : Net) (six : Bool) (a : Addr4) : List (Int × Hop) := hopsK (hopN n six a) (idsN n) []
theorem idsN_take (n : Net) (k : Nat) (h : k < n.routers.length) : (idsN n).take (k + 1) = (idsN n).take k ++ [n.routers[k].id] := by
  unfold idsN
  rw [List.take_add_one, List.getElem?_map, List.getElem?_eq_getElem h]
  rfl
theorem hopsN_get (n : Net) (six : Bool) (a : Addr4) (x : Int) : (kget (hopsN n six a) x).getD ⟨0, 0⟩ = hopN n six a x := by
  unfold hopsN
  rw [kget_hops]
  split
  · rfl
  · rename_i h
    rw [hopN_out h]; rfl
set_option maxRecDepth 8000 in
theorem sit_spec (n : Net) (six : Bool) (a : Addr4) (hok : netOk n = true) (hw : n.wf) (ha : a.wf) (hr : rightA six a = true) :
    FSpec Tryz.prog 16 [n.av, .bool six, a.av] [] (.ptr 0 0) (courtO (hopsN n six a) (sitN n six a)) := by
  have hlen := netOk_len hok
  have hidl : (idsN n).length = n.routers.length := by simp [idsN]
  refine FSpec.of_o (q := [(5, .n 12)]) Tryz.func16 (by kernel_rfl) rfl Tryz.ntmps16 Tryz.results16 hP (by kernel_rfl) (by simp) (by first | rfl | simp) ?_
  simp
  refine LoopK.nil (.cl 4 2 39 1) ?_
  simp
  refine LoopK.os (fun k : Nat => [(1, .bool six), (3, .ptr 0 0), (5, .ptr 1 0), (7, .ptr 4 0), (17, .im (.sl 4 (n.routers.map Router.iv))), (18, .int .i64 n.routers.length), (19, .int .i64 k)])
    (fun k => [.box 25 [.im (.sl 4 (n.seats.map Seat.iv)), .im (.sl 4 (n.routers.map Router.iv))], .box 28 [.int .u64 a.hi, .int .u64 a.lo], .mp .i64 (kmap Hop.av (hopsK (hopN n six a) ((idsN n).take k) [])), .mp .i64 [], .box 67 [.map 2, .map 3, .row 5], .row 39 1 []])
    (fun k => k ≤ n.routers.length) (fun k => n.routers.length - k) 0 [0, 1, 2, 3, 4, 5] (Nat.zero_le _) (by simp [hopsK]) ?_
  intro k hk
  by_cases hlt : k < n.routers.length
  · have e1 : IntKind.i64.wrap (k + 1) = (k + 1 : Nat) := wrap64 (by omega) (by omega)
    have htk := idsN_take n k hlt
    have hput := mput_kmap Hop.av (hopsK (hopN n six a) ((idsN n).take k) []) n.routers[k].id (hopN n six a n.routers[k].id)
    have hst : hopsK (hopN n six a) ((idsN n).take (k + 1)) [] = kput (hopsK (hopN n six a) ((idsN n).take k) []) n.routers[k].id (hopN n six a n.routers[k].id) := by
      rw [htk, hopsK_app]; rfl
    simp [hlt]
    generalize n.routers[k] = y at *
    have hd := doesN_spec n y.id six a hok hw ha hr
    first | refine CallK.same (hd) rfl rfl ?_ | refine CallQ.same (hd) rfl rfl ?_ | refine CallQG.same _ (hd) rfl ?_ | refine CallG.same _ (hd) rfl ?_ | refine CallK.pv (hd) rfl rfl ?_
    simp [hopN] at hput
    simp [e1, hput]
    refine Again.os (k + 1) [0, 1, 2, 3, 4, 5] hlt (by omega) ?_
    simp [hst, hopN]
  · have hkk : k = n.routers.length := by omega
    subst hkk
    have htl : (idsN n).take n.routers.length = idsN n := by rw [← hidl, List.take_length]
    simp [htl]
    refine LoopK.os (fun k : Nat => [(1, .bool six), (3, .ptr 0 0), (5, .ptr 1 0), (7, .ptr 4 0), (37, .im (.sl 4 (n.routers.map Router.iv))), (38, .int .i64 n.routers.length), (39, .int .i64 k)])
      (fun k => [.box 25 [.im (.sl 4 (n.seats.map Seat.iv)), .im (.sl 4 (n.routers.map Router.iv))], .box 28 [.int .u64 a.hi, .int .u64 a.lo], .mp .i64 (kmap Hop.av (hopsN n six a)), .mp .i64 (kmap Verd.av (sitF (hopN n six a) ((idsN n).length + 2) ((idsN n).take k) ([], [])).1), .box 67 [.map 2, .map 3, .row 5], .row 39 1 (rowL (sitF (hopN n six a) ((idsN n).length + 2) ((idsN n).take k) ([], [])).2)])
      (fun k => k ≤ n.routers.length) (fun k => n.routers.length - k) 0 [0, 1, 2, 3, 4, 5] (Nat.zero_le _) (by simp [hopsN, sitF, rowL]) ?_
    clear hk hlt
    intro k hk
    by_cases hlt : k < n.routers.length
    · have e1 : IntKind.i64.wrap (k + 1) = (k + 1 : Nat) := wrap64 (by omega) (by omega)
      have htk := idsN_take n k hlt
      have hst : sitF (hopN n six a) ((idsN n).length + 2) ((idsN n).take (k + 1)) ([], []) = judgeF (hopN n six a) ((idsN n).length + 2) [] n.routers[k].id (sitF (hopN n six a) ((idsN n).length + 2) ((idsN n).take k) ([], [])) := by
        rw [htk, sitF_snoc]
      have hsl := sitF_len (hopN n six a) ((idsN n).length + 2) ((idsN n).take k) ([], [])
      simp [hlt]
      generalize n.routers[k] = y at *
      generalize hS : sitF (hopN n six a) ((idsN n).length + 2) ((idsN n).take k) ([], []) = S at *
      refine CallO.mk [] [4, 2, 3, 5] (judgeJ_spec (hopsN n six a) S (hopN n six a) (idsN n) y.id (hopsN_get n six a) (hopN_moves n six a) (hopN_kind n six a) (by omega) (by simp at hsl; omega)) (by simp) rfl (by simp [courtO, courtN]) (by simp [courtO]) (by simp) ?_
      simp [courtN, e1]
      refine Again.os (k + 1) [0, 1, 2, 3, 4, 7] hlt (by omega) ?_
      simp [hst]
    · have hkk : k = n.routers.length := by omega
      subst hkk
      simp [htl]
      refine EndO.ret [] [4, 2, 3, 5] (.ptr 4 0) (by simp) ?_
      simp [courtO, sitN]
end Go.Am

set_option linter.unusedVariables false
set_option linter.unusedSimpArgs false
set_option pp.deepTerms false
set_option pp.deepTerms.threshold 40
namespace Go.Am
open Go.Proofs

/-! ### all routers' fates -/
theorem wayN_goes (n : Net) (six : Bool) (a : Addr4) (r : Int) : Goes (hopN n six a) [r] r (wayN n six a r) := by
  have h1 : roundsI (idsN n) [r] ≤ (idsN n).length := List.countP_le_length
  have h2 : (idsN n).length = n.routers.length := by simp [idsN]
  exact wayF_goes (hopN_moves n six a) _ _ _ (by simp) (by omega)
theorem sitN_ok (n : Net) (six : Bool) (a : Addr4) : Court.Ok (hopN n six a) (sitN n six a) ∧ ∀ y ∈ idsN n, (kget (sitN n six a).1 y).isSome = true := by
  have := Court.Ok.sit (hopN_moves n six a) (hopN_kind n six a) (f := (idsN n).length + 2) (by omega) (idsN n) (Court.ok0 (H := hopN n six a))
  exact ⟨this.1, this.2.1⟩
theorem sitN_get (n : Net) (six : Bool) (a : Addr4) {y : Router} (hy : y ∈ n.routers) : kget (sitN n six a).1 y.id = some (wayN n six a y.id).2 := by
  obtain ⟨h1, h2⟩ := sitN_ok n six a
  obtain ⟨v, hv⟩ := Option.isSome_iff_exists.1 (h2 y.id (List.mem_map.2 ⟨y, hy, rfl⟩))
  obtain ⟨w, hg⟩ := h1.right _ _ hv
  rw [hv, (wayN_goes n six a y.id).det hg]
set_option maxRecDepth 8000 in
theorem fatesJ_spec (n : Net) (six : Bool) (a : Addr4) (hw : n.wf) (ha : a.wf) :
    FSpec Tryz.prog 6 [n.av, .bool six, a.av] [] (.tup [.im (.sl 3 ((fatesN n six a).map Fate.iv)), .int .i64 (if rightN n six a then 0 else 2)]) [] := by
  refine FSpec.of_z (q := [(8, .m [.p [1], .p [], .p [], .p [], .p [], .p [], .p [], .p [], .p [], .p [], .p [], .e [38]])]) Tryz.func6 (by kernel_rfl) rfl Tryz.ntmps6 Tryz.results6 hP (by kernel_rfl) (by simp) (by first | rfl | simp) ?_
  simp
  first | refine CallK.same (rightJ_spec n six a) rfl rfl ?_ | refine CallQ.same (rightJ_spec n six a) rfl rfl ?_ | refine CallQG.same _ (rightJ_spec n six a) rfl ?_ | refine CallG.same _ (rightJ_spec n six a) rfl ?_ | refine CallK.pv (rightJ_spec n six a) rfl rfl ?_
  simp
  cases e : rightN n six a with
  | false =>
    simp
    refine EndZ.ret [] (.tup [.im (.sc (.slice none 0 0)), .int .i64 2]) (by simp) ?_
    simp [fatesN, e]
  | true =>
    have h1 : netOk n = true := by unfold rightN at e; simp at e; exact e.1
    have h2 : rightA six a = true := by unfold rightN at e; simp at e; exact e.2
    have hlen := netOk_len h1
    simp
    refine CallK.outs [] (sit_spec n six a h1 hw ha h2) rfl ?_ ?_ ?_
    · simp
    · simp [AV.flat]
    simp [courtO]
    refine LoopK.nil (.sl 9 38 3) ?_
    simp
    simp only [fatesN, e, if_true]
    refine LoopK.os (fun k : Nat => [(1, .bool six), (3, .ptr 0 0), (5, .ptr 1 0), (8, .ptr 2 0), (9, .row 4), (22, .im (.sl 4 (n.routers.map Router.iv))), (23, .int .i64 n.routers.length), (24, .int .i64 k)])
      (fun k => [.box 25 [.im (.sl 4 (n.seats.map Seat.iv)), .im (.sl 4 (n.routers.map Router.iv))], .box 28 [.int .u64 a.hi, .int .u64 a.lo], .box 67 [.undef, .map 3, .undef], .mp .i64 (kmap Verd.av (sitN n six a).1), .row 38 3 (fatesK n six a k)])
      (fun k => k ≤ n.routers.length) (fun k => n.routers.length - k) 0 [0, 1, 2, 4, 6] (Nat.zero_le _) (by simp [fatesK_zero]) ?_
    intro k hk
    by_cases hlt : k < n.routers.length
    · have e1 : IntKind.i64.wrap (k + 1) = (k + 1 : Nat) := wrap64 (by omega) (by omega)
      have hg := List.getElem?_eq_getElem hlt
      have hs := fatesK_succ n six a hg
      have hget := sitN_get n six a (List.getElem_mem hlt)
      have hmg := mget_kmap Verd.av (sitN n six a).1 n.routers[k].id
      rw [hget] at hmg
      simp [hlt]
      generalize n.routers[k] = y at *
      simp at hmg
      simp [hmg, e1]
      refine ⟨⟨by omega, by unfold maxLen; omega⟩, ?_⟩
      refine Again.os (k + 1) [0, 1, 2, 3, 7] hlt (by omega) ?_
      simp [hs]
    · have hkk : k = n.routers.length := by omega
      subst hkk
      simp
      refine EndZ.ret [4] (.tup [.row 4, .int .i64 0]) (by simp) ?_
      simp [fatesK_all]
end Go.Am

set_option linter.unusedVariables false
set_option linter.unusedSimpArgs false
set_option pp.deepTerms false
set_option pp.deepTerms.threshold 40
namespace Go.Am
open Go.Proofs

/-! ### loops, in order -/
def keyL : List IV → Int
  | [.sl _ ([.sc (.int _ v)] :: _)] => v
  | _ => 0
theorem keyL_row (l : List Int) : keyL [.sl 1 (rowI l)] = headI l := by
  cases l <;> rfl
def unrow : List IV → List Int
  | [.sl _ rows] => rows.map fun x => match x with | [.sc (.int _ v)] => v | _ => 0
  | _ => []
theorem unrow_row (l : List Int) : unrow [.sl 1 (rowI l)] = l := by
  simp [unrow, rowI, Function.comp_def]
theorem rowL_perm {ys : List (List IV)} {L : List (List Int)} (h : ys.Perm (rowL L)) : ys = rowL (ys.map unrow) ∧ (ys.map unrow).Perm L := by
  constructor
  · unfold rowL
    rw [List.map_map]
    conv => lhs; rw [← List.map_id ys]
    refine List.map_congr_left fun y hy => ?_
    have := h.mem_iff.1 hy
    unfold rowL at this
    obtain ⟨l, _, rfl⟩ := List.mem_map.1 this
    simp [unrow_row]
  · have := h.map unrow
    unfold rowL at this
    rw [List.map_map] at this
    have e : (unrow ∘ fun x => [IV.sl 1 (rowI x)]) = id := by funext x; exact unrow_row x
    rw [e, List.map_id] at this
    exact this
theorem cmpLoops_spec (a b : List Int) (ha : a ≠ []) (hb : b ≠ []) (ha1 : 0 ≤ headI a ∧ headI a ≤ 1048576) (hb1 : 0 ≤ headI b ∧ headI b ≤ 1048576) :
    FSpec Tryz.prog 20 [.im (.sl 1 (rowI a)), .im (.sl 1 (rowI b))] [] (.int .i64 (headI a - headI b)) [] := by
  obtain ⟨x, a, rfl⟩ : ∃ x t, a = x :: t := by cases a with | nil => exact absurd rfl ha | cons x t => exact ⟨x, t, rfl⟩
  obtain ⟨y, b, rfl⟩ : ∃ x t, b = x :: t := by cases b with | nil => exact absurd rfl hb | cons x t => exact ⟨x, t, rfl⟩
  simp only [headI, List.head?_cons, Option.getD_some] at *
  have e1 : IntKind.i64.wrap (x - y) = x - y := wrap64 (by omega) (by omega)
  refine FSpec.of_flat (q := [(1, .n 6)]) Tryz.func20 (by kernel_rfl) rfl Tryz.ntmps20 Tryz.results20 hP (by kernel_rfl) (by simp) (by first | rfl | simp) ?_
  simp [rowI, e1]
theorem loopsL_mem (n : Net) (six : Bool) (a : Addr4) (L : List Int) : ∀ l : List Router, L ∈ loopsL n six a l ↔ ∃ r ∈ l, leastB (roundF (wayN n six a r.id)) r.id = true ∧ L = roundF (wayN n six a r.id)
  | [] => by simp [loopsL]
  | r :: l => by
    rw [loopsL]
    split
    · rename_i h
      simp [loopsL_mem n six a L l, h]
    · rename_i h
      simp [loopsL_mem n six a L l, h]
theorem loopsL_order (n : Net) (six : Bool) (a : Addr4) : ∀ {l : List Router}, (l.Pairwise fun x y => x.id < y.id) → (loopsL n six a l).Pairwise fun x y => headI x < headI y
  | [], _ => List.Pairwise.nil
  | r :: l, h => by
    have ih := loopsL_order n six a (List.Pairwise.of_cons h)
    rw [loopsL]
    split
    · rename_i hl
      refine List.Pairwise.cons (fun L hL => ?_) ih
      obtain ⟨r', hr', hl', rfl⟩ := (loopsL_mem n six a L l).1 hL
      have h1 := (leastB_iff.1 hl).1
      have h2 := (leastB_iff.1 hl').1
      unfold headI
      rw [h1, h2]
      exact List.rel_of_pairwise_cons h hr'
    · exact ih
theorem loops_sorted (n : Net) (six : Bool) (a : Addr4) (hok : netOk n = true) (ys : List (List IV)) (hp : ys.Perm (rowL (sitN n six a).2)) (hs : ys.Pairwise fun x y => keyL x ≤ keyL y) : ys = rowL (loopsL n six a n.routers) := by
  obtain ⟨h1, h2⟩ := sitN_ok n six a
  obtain ⟨e, hp'⟩ := rowL_perm hp
  generalize ys.map unrow = L' at *
  subst e
  congr 1
  have hd : L'.Pairwise fun x y => headI x ≠ headI y := (hp'.pairwise_iff (fun h => Ne.symm h)).2 h1.heads
  refine heads_eq ?_ (loopsL_order n six a (netOk_routers hok).1) fun L => ?_
  · unfold rowL at hs
    rw [List.pairwise_map] at hs
    simp only [keyL_row] at hs
    exact (hs.and hd).imp fun ⟨h1, h2⟩ => by omega
  · rw [hp'.mem_iff, h1.loops_iff h2 (hopN_moves n six a) (W := wayN n six a) (wayN_goes n six a), loopsL_mem]
    constructor
    · rintro ⟨r, hr, g1, g2⟩
      obtain ⟨y, hy, rfl⟩ := List.mem_map.1 hr
      exact ⟨y, hy, g1, g2⟩
    · rintro ⟨y, hy, g1, g2⟩
      exact ⟨y.id, List.mem_map.2 ⟨y, hy, rfl⟩, g1, g2⟩
end Go.Am

set_option linter.unusedVariables false
set_option linter.unusedSimpArgs false
set_option pp.deepTerms false
set_option pp.deepTerms.threshold 40
namespace Go.Proofs
def Tryz.sortLoops_ren : Go.Shelf.Ren := ⟨fun | 6 => 19 | 15 => 30 | 14 => 29 | 28 => 53 | 29 => 54 | 20 => 45 | 21 => 46 | 22 => 47 | 23 => 48 | 24 => 49 | 25 => 50 | 26 => 51 | 27 => 52 | 46 => 70 | 47 => 71 | 48 => 72 | 49 => 73 | 50 => 74 | 57 => 92 | n => n, fun | 22 => 47 | 24 => 39 | 25 => 74 | 3 => 3 | 39 => 103 | 0 => 0 | 53 => 127 | 55 => 26 | 4 => 4 | 46 => 121 | 45 => 120 | 50 => 107 | 5 => 5 | 9 => 9 | 66 => 146 | 70 => 150 | 76 => 174 | 77 => 175 | n => n, fun | n => n⟩
theorem Tryz.sortLoops : SlLaysF.n6 Tryz.prog Tryz.sortLoops_ren := {
  mixed := by kernel_rfl,
  f6 := ⟨Tryz.f19.name, by decide, Tryz.func19.trans (congrArg some (by kernel_rfl))⟩,
  f14 := ⟨Tryz.f29.name, by decide, Tryz.func29.trans (congrArg some (by kernel_rfl))⟩,
  f15 := Tryz.func30.trans (congrArg some (by kernel_rfl)),
  f20 := ⟨Tryz.f45.name, by decide, Tryz.func45.trans (congrArg some (by kernel_rfl))⟩,
  f21 := ⟨Tryz.f46.name, by decide, Tryz.func46.trans (congrArg some (by kernel_rfl))⟩,
  f22 := ⟨Tryz.f47.name, by decide, Tryz.func47.trans (congrArg some (by kernel_rfl))⟩,
  f23 := ⟨Tryz.f48.name, by decide, Tryz.func48.trans (congrArg some (by kernel_rfl))⟩,
  f24 := ⟨Tryz.f49.name, by decide, Tryz.func49.trans (congrArg some (by kernel_rfl))⟩,
  f25 := ⟨Tryz.f50.name, by decide, Tryz.func50.trans (congrArg some (by kernel_rfl))⟩,
  f26 := ⟨Tryz.f51.name, by decide, Tryz.func51.trans (congrArg some (by kernel_rfl))⟩,
  f27 := ⟨Tryz.f52.name, by decide, Tryz.func52.trans (congrArg some (by kernel_rfl))⟩,
  f28 := Tryz.func53.trans (congrArg some (by kernel_rfl)),
  f29 := Tryz.func54.trans (congrArg some (by kernel_rfl)),
  f46 := ⟨Tryz.f70.name, by decide, Tryz.func70.trans (congrArg some (by kernel_rfl))⟩,
  f47 := Tryz.func71.trans (congrArg some (by kernel_rfl)),
  f48 := Tryz.func72.trans (congrArg some (by kernel_rfl)),
  f49 := ⟨Tryz.f73.name, by decide, Tryz.func73.trans (congrArg some (by kernel_rfl))⟩,
  f50 := ⟨Tryz.f74.name, by decide, Tryz.func74.trans (congrArg some (by kernel_rfl))⟩,
  f57 := ⟨Tryz.f92.name, by decide, Tryz.func92.trans (congrArg some (by kernel_rfl))⟩,
  t0 := Tryz.underlying0,
  a0 := Tryz.isAgg0,
  z0 := Tryz.sizeOf0,
  v0 := Tryz.zeroValue0,
  t3 := Tryz.underlying3,
  a3 := Tryz.isAgg3,
  z3 := Tryz.sizeOf3,
  v3 := Tryz.zeroValue3,
  t4 := Tryz.underlying4,
  a4 := Tryz.isAgg4,
  z4 := Tryz.sizeOf4,
  v4 := Tryz.zeroValue4,
  t5 := Tryz.underlying5,
  a5 := Tryz.isAgg5,
  z5 := Tryz.sizeOf5,
  v5 := Tryz.zeroValue5,
  t9 := Tryz.underlying9,
  a9 := Tryz.isAgg9,
  z9 := Tryz.sizeOf9,
  v9 := Tryz.zeroValue9,
  t22 := Tryz.underlying47,
  a22 := Tryz.isAgg47,
  z22 := Tryz.sizeOf47,
  v22 := Tryz.zeroValue47,
  a24 := Tryz.isAgg39,
  z24 := Tryz.sizeOf39,
  t25 := Tryz.underlying74,
  a25 := Tryz.isAgg74,
  z25 := Tryz.sizeOf74,
  v25 := Tryz.zeroValue74,
  t39 := Tryz.underlying103,
  a39 := Tryz.isAgg103,
  z39 := Tryz.sizeOf103,
  v39 := Tryz.zeroValue103,
  t45 := Tryz.underlying120,
  a45 := Tryz.isAgg120,
  z45 := Tryz.sizeOf120,
  v45 := Tryz.zeroValue120,
  t46 := Tryz.underlying121,
  a46 := Tryz.isAgg121,
  z46 := Tryz.sizeOf121,
  v46 := Tryz.zeroValue121,
  t50 := Tryz.underlying107,
  a50 := Tryz.isAgg107,
  z50 := Tryz.sizeOf107,
  v50 := Tryz.zeroValue107,
  t53 := Tryz.underlying127,
  a53 := Tryz.isAgg127,
  z53 := Tryz.sizeOf127,
  v53 := Tryz.zeroValue127,
  t55 := Tryz.underlying26,
  a55 := Tryz.isAgg26,
  z55 := Tryz.sizeOf26,
  v55 := Tryz.zeroValue26,
  t66 := Tryz.underlying146,
  a66 := Tryz.isAgg146,
  z66 := Tryz.sizeOf146,
  v66 := Tryz.zeroValue146,
  t70 := Tryz.underlying150,
  a70 := Tryz.isAgg150,
  z70 := Tryz.sizeOf150,
  v70 := Tryz.zeroValue150,
  t76 := Tryz.underlying174,
  a76 := Tryz.isAgg174,
  z76 := Tryz.sizeOf174,
  v76 := Tryz.zeroValue174,
  t77 := Tryz.underlying175,
  a77 := Tryz.isAgg175,
  z77 := Tryz.sizeOf175,
  v77 := Tryz.zeroValue175 }
end Go.Proofs
namespace Go.Am
open Go.Proofs

/-! ### where packets go round -/
theorem checkSL_right : ∀ {l : List Seat} {ah : Int}, checkSL l ah = 0 → ∀ x ∈ l, rightS x = true
  | [], _, _, x, hx => by cases hx
  | s :: l, ah, h, x, hx => by
    rw [checkSL] at h
    split at h
    · cases h
    · rename_i hc
      simp at hc
      rcases List.mem_cons.1 hx with rfl | hx
      · exact hc.1
      · exact checkSL_right h x hx
theorem netOk_ids {n : Net} (h : netOk n = true) : ∀ x ∈ idsN n, 0 ≤ x ∧ x ≤ 1048576 := by
  unfold netOk at h
  simp only [Bool.and_eq_true, beq_iff_eq] at h
  obtain ⟨g1, _⟩ := zipOk_map h.1.2
  intro x hx
  unfold idsN at hx
  rw [g1] at hx
  obtain ⟨s, hs, rfl⟩ := List.mem_map.1 hx
  have h1 := h.1.1.1
  unfold checkS at h1
  split at h1
  · cases h1
  · have := checkSL_right h1 s hs
    simp [rightS] at this
    omega
theorem sitN_heads (n : Net) (six : Bool) (a : Addr4) (hok : netOk n = true) {L : List Int} (hL : L ∈ (sitN n six a).2) : L ≠ [] ∧ 0 ≤ headI L ∧ headI L ≤ 1048576 := by
  obtain ⟨h1, h2⟩ := sitN_ok n six a
  obtain ⟨r, hr, g1, rfl⟩ := (h1.loops_iff h2 (hopN_moves n six a) (W := wayN n six a) (wayN_goes n six a) L).1 hL
  have hh := (leastB_iff.1 g1).1
  have := netOk_ids hok r hr
  refine ⟨fun e => (by rw [e] at hh; cases hh), ?_, ?_⟩
  · unfold headI; rw [hh]; exact this.1
  · unfold headI; rw [hh]; exact this.2
theorem sitN_len (n : Net) (six : Bool) (a : Addr4) (hok : netOk n = true) : (sitN n six a).2.length ≤ 64 := by
  have := sitF_len (hopN n six a) ((idsN n).length + 2) (idsN n) ([], [])
  have h1 := netOk_len hok
  have h2 : (idsN n).length = n.routers.length := by simp [idsN]
  unfold sitN
  simp at this
  omega
theorem bitsLen64_0 : FSpec Tryz.prog 54 [.int .u64 0] [] (.int .i64 0) [] := by
  refine FSpec.of_flat (q := []) Tryz.func54 (by kernel_rfl) rfl Tryz.ntmps54 Tryz.results54 hP (by kernel_rfl) (by simp) (by first | rfl | simp) ?_
  simp
  decide +kernel
theorem bitsLen0 : FSpec Tryz.prog 30 [.int .u64 0] [] (.int .i64 0) [] := by
  refine FSpec.of_flat (q := []) Tryz.func30 (by kernel_rfl) rfl Tryz.ntmps30 Tryz.results30 hP (by kernel_rfl) (by simp) (by first | rfl | simp) ?_
  simp
  first | refine CallK.same (bitsLen64_0) rfl rfl ?_ | refine CallQ.same (bitsLen64_0) rfl rfl ?_ | refine CallQG.same _ (bitsLen64_0) rfl ?_ | refine CallG.same _ (bitsLen64_0) rfl ?_ | refine CallK.pv (bitsLen64_0) rfl rfl ?_
  simp
theorem insNone_spec (T : TypeId) : FSpec Tryz.prog 45 [.row 0, .int .i64 0, .int .i64 0, .fn 20 []] [.row T 1 []] (.tup []) [.row T 1 []] := by
  have e1 : IntKind.i64.wrap 1 = 1 := by decide
  refine FSpec.of_o (q := [(4, .n 14), (6, .m [.p [], .p [], .p [1], .p [1], .p [1], .p [], .p [], .p [], .p [], .p [], .p [], .p [], .p [], .p [], .p [], .e [51, 46]])]) Tryz.func45 (by kernel_rfl) rfl Tryz.ntmps45 Tryz.results45 hP (by kernel_rfl) (by simp) (by first | rfl | simp) ?_
  simp [e1]
  refine LoopK.os (fun _ : Unit => [(0, .row 0), (2, .int .i64 0), (8, .int .i64 1)]) (fun _ => [.row T 1 []]) (fun _ => True) (fun _ => 0) () [0] trivial (by simp) ?_
  intro _ _
  simp
  refine EndO.normal [] [0] (.tup []) (by simp) (by simp)
theorem pdqNone_spec (T : TypeId) : FSpec Tryz.prog 29 [.row 0, .int .i64 0, .int .i64 0, .int .i64 0, .fn 20 []] [.row T 1 []] (.tup []) [.row T 1 []] := by
  have e0 : IntKind.i64.wrap 0 = 0 := by decide
  refine FSpec.of_o (q := [(17, .n 13)]) Tryz.func29 (by kernel_rfl) rfl Tryz.ntmps29 Tryz.results29 hP (by kernel_rfl) (by simp) (by first | rfl | simp) ?_
  simp
  refine LoopK.os (fun _ : Unit => [(0, .row 0), (1, .int .i64 0), (2, .int .i64 0), (3, .int .i64 0), (4, .fn 20 [])]) (fun _ => [.row T 1 []]) (fun _ => True) (fun _ => 0) () [0] trivial (by simp) ?_
  intro _ _
  simp [e0]
  refine CallO.mk [] [0] (insNone_spec T) (by simp) rfl (by simp) (by simp) (by simp) ?_
  simp
  refine EndO.ret [] [0] (.tup []) (by simp) (by simp)
theorem sortNone_spec (T : TypeId) : FSpec Tryz.prog 19 [.row 0, .fn 20 []] [.row T 1 (rowL [])] (.tup []) [.row T 1 (rowL [])] := by
  have e0 : IntKind.u64.wrap 0 = 0 := by decide
  refine FSpec.of_o (q := []) Tryz.func19 (by kernel_rfl) rfl Tryz.ntmps19 Tryz.results19 hP (by kernel_rfl) (by simp) (by first | rfl | simp) ?_
  simp [rowL, e0]
  first | refine CallK.same (bitsLen0) rfl rfl ?_ | refine CallQ.same (bitsLen0) rfl rfl ?_ | refine CallQG.same _ (bitsLen0) rfl ?_ | refine CallG.same _ (bitsLen0) rfl ?_ | refine CallK.pv (bitsLen0) rfl rfl ?_
  simp
  refine CallO.mk [] [0] (pdqNone_spec T) (by simp) rfl (by simp) (by simp) (by simp) ?_
  simp
  refine EndO.normal [] [0] (.tup []) (by simp) (by simp)
theorem sortLoops_spec (n : Net) (six : Bool) (a : Addr4) (hok : netOk n = true) :
    FSpec Tryz.prog 19 [.row 0, .fn 20 []] [.row 39 1 (rowL (sitN n six a).2)] (.tup []) [.row 39 1 (rowL (loopsL n six a n.routers))] := by
  by_cases hne : (sitN n six a).2 = []
  · have he : loopsL n six a n.routers = [] := by
      have := loops_sorted n six a hok [] (by rw [hne]; exact List.Perm.refl _) List.Pairwise.nil
      unfold rowL at this
      exact List.map_eq_nil_iff.1 this.symm
    rw [hne, he]
    exact sortNone_spec _
  · have hmem : ∀ x, x ∈ rowL (sitN n six a).2 → ∃ L, L ∈ (sitN n six a).2 ∧ x = [.sl 1 (rowI L)] := fun x hx => by
      unfold rowL at hx
      obtain ⟨L, h1, rfl⟩ := List.mem_map.1 hx
      exact ⟨L, h1, rfl⟩
    refine sortFunc1 Tryz.sortLoops 39 _ _ (fun x y => keyL x - keyL y) keyL (enters_of Tryz.func20 (by kernel_rfl) rfl) (by unfold rowL; simpa using hne) ?_ (fun x y _ _ => by omega) ?_ (loops_sorted n six a hok)
    · intro x y hx hy
      obtain ⟨L, hL, rfl⟩ := hmem x hx
      obtain ⟨M, hM, rfl⟩ := hmem y hy
      obtain ⟨g1, g2⟩ := sitN_heads n six a hok hL
      obtain ⟨k1, k2⟩ := sitN_heads n six a hok hM
      rw [keyL_row, keyL_row]
      exact cmpLoops_spec L M g1 k1 g2 k2
    · have := sitN_len n six a hok
      simp; omega
set_option maxRecDepth 8000 in
theorem loopsJ_spec (n : Net) (six : Bool) (a : Addr4) (hw : n.wf) (ha : a.wf) :
    FSpec Tryz.prog 8 [n.av, .bool six, a.av] [] (.tup [.im (.sl 1 (rowL (loopsN n six a))), .int .i64 (if rightN n six a then 0 else 2)]) [] := by
  refine FSpec.of_z (q := []) Tryz.func8 (by kernel_rfl) rfl Tryz.ntmps8 Tryz.results8 hP (by kernel_rfl) (by simp) (by first | rfl | simp) ?_
  simp
  first | refine CallK.same (rightJ_spec n six a) rfl rfl ?_ | refine CallQ.same (rightJ_spec n six a) rfl rfl ?_ | refine CallQG.same _ (rightJ_spec n six a) rfl ?_ | refine CallG.same _ (rightJ_spec n six a) rfl ?_ | refine CallK.pv (rightJ_spec n six a) rfl rfl ?_
  simp
  cases e : rightN n six a with
  | false =>
    simp
    refine EndZ.ret [] (.tup [.im (.sc (.slice none 0 0)), .int .i64 2]) (by simp) ?_
    simp [loopsN, e, rowL]
  | true =>
    have h1 : netOk n = true := by unfold rightN at e; simp at e; exact e.1
    have h2 : rightA six a = true := by unfold rightN at e; simp at e; exact e.2
    simp
    refine CallK.outs [] (sit_spec n six a h1 hw ha h2) rfl ?_ ?_ ?_
    · simp
    · simp [AV.flat]
    simp [courtO]
    refine CallO.mk [] [5] (sortLoops_spec n six a h1) (by simp) rfl (by simp) (by simp) (by simp) ?_
    simp
    refine EndZ.ret [5] (.tup [.row 5, .int .i64 0]) (by simp) ?_
    simp [loopsN, e]
end Go.Am

set_option linter.unusedVariables false
set_option linter.unusedSimpArgs false
set_option pp.deepTerms false
set_option pp.deepTerms.threshold 40
namespace Go.Am
open Go.Proofs

/-! ### the first fate of each router -/
def firstsK : List Fate → List (Int × Verd)
  | [] => []
  | f :: l => kput (firstsK l) f.router f.v
theorem backward_spec (l : List Fate) : FSpec Tryz.prog 36 [.im (.sl 3 (l.map Fate.iv))] [] (.fn 65 [.ptr 0 0]) [.box 30 [.im (.sl 3 (l.map Fate.iv))]] := by
  refine FSpec.of_o (q := []) Tryz.func36 (by kernel_rfl) rfl Tryz.ntmps36 Tryz.results36 hP (by kernel_rfl) (by simp) (by first | rfl | simp) ?_
  simp
  refine EndO.ret [] [0] _ rfl ?_
  simp
set_option maxRecDepth 4000 in
theorem firsts_spec (l : List Fate) : FSpec Tryz.prog 24 [.im (.sl 3 (l.map Fate.iv))] [] (.map 0) [.mp .i64 (kmap Verd.av (firstsK l))] := by
  refine FSpec.bd (enters_of Tryz.func24 (by kernel_rfl) rfl) fun hbd => ?_
  have hl : l.length ≤ 9223372036854775807 := by simp [maxLen] at hbd; exact hbd
  refine FSpec.of_o (q := []) Tryz.func24 (by kernel_rfl) rfl Tryz.ntmps24 Tryz.results24 hP (by kernel_rfl) (by simp) (by first | rfl | simp) ?_
  simp
  refine CallK.outs [] (backward_spec l) rfl ?_ ?_ ?_
  · simp
  · simp [AV.flat]
  simp [rangeK]
  intro a0 b rr
  refine ⟨_, _, _, [], Tryz.func65, (by kernel_rfl), rfl, Tryz.ntmps65, Tryz.results65, (by kernel_rfl), (by simp), ?_⟩
  have e1 : IntKind.i64.wrap ((l.length : Int) - 1) = (l.length : Int) - 1 := wrap64 (by omega) (by omega)
  simp [e1]
  refine LoopK.os (fun k : Nat => [(0, .yld 4), (1, .ptr 2 0), (3, .int .i64 ((k : Int) - 1))])
    (fun k => [.mp .i64 (kmap Verd.av (firstsK (l.drop k))), .box 65 [.map 0], .box 30 [.im (.sl 3 (l.map Fate.iv))], .sv a0 [(3, .ptr 1 0)], .lp b rr .ready none])
    (fun k => k ≤ l.length) (fun k => k) l.length [0, 1, 2, 3, 4] (Nat.le_refl _) (by simp [firstsK, renM]) ?_
  intro k hk
  cases k with
  | zero =>
    simp
    refine ⟨3, _, 4, .ready, none, rfl, rfl, .inl rfl, ?_⟩
    simp [pendK]
    refine EndO.ret [] [0] (.map 0) (by simp) (by simp)
  | succ k =>
    have hg := List.getElem?_eq_getElem (show k < l.length by omega)
    have hst : firstsK (l.drop k) = kput (firstsK (l.drop (k + 1))) l[k].router l[k].v := by
      rw [List.drop_eq_getElem_cons (show k < l.length by omega), firstsK]
    have hput := mput_kmap Verd.av (firstsK (l.drop (k + 1))) l[k].router l[k].v
    have e2 : ((k + 1 : Nat) : Int) - 1 = k := by omega
    have e3 : IntKind.i64.wrap ((k : Int) - 1) = (k : Int) - 1 := wrap64 (by omega) (by omega)
    simp only [e2]
    simp [hg, show k < l.length by omega]
    refine ⟨3, _, rfl, rfl, rfl, fun aI => ?_⟩
    simp [putL, asgK]
    refine ⟨4, by simp, ?_⟩
    simp at hput
    simp [hput]
    refine endRd_normal 5 4 (by simp; rfl) (by simp) ?_
    simp [e3]
    refine Again.os k [0, 1, 2, 3, 4] (by omega) (by omega) ?_
    simp [hst, renM]
end Go.Am

set_option linter.unusedVariables false
set_option linter.unusedSimpArgs false
set_option pp.deepTerms false
set_option pp.deepTerms.threshold 40
namespace Go.Am
open Go.Proofs

/-! ### the keys of a map, in order -/
theorem keysB_spec (M : List (Int × AV)) (hM : ∀ ρ, renM ρ M = M) : FSpec Tryz.prog 26 [.map 0] [.mp .i64 M] (.fn 39 [.ptr 1 0]) [.mp .i64 M, .box 88 [.map 0]] := by
  refine FSpec.of_o (q := []) Tryz.func26 (by kernel_rfl) rfl Tryz.ntmps26 Tryz.results26 hP (by kernel_rfl) (by simp) (by first | rfl | simp) ?_
  simp
  refine EndO.ret [] [0, 1] _ rfl ?_
  simp [hM]
def keysOf (M : List (Int × AV)) : List Int := M.map (·.1)
def someOrder (ks : List Int) (xs : List (List IV)) : Prop := ∃ l : List Int, l.Perm ks ∧ xs = rowI l
def keyAt (M : List (Int × AV)) (i : Nat) : Int := (M[i]?.map (·.1)).getD 0
theorem nodup_len : ∀ (n : Nat) (g : List Nat), g.Nodup → (∀ i ∈ g, i < n) → g.length ≤ n
  | 0, g, _, h => by cases g with | nil => exact Nat.le_refl _ | cons x g => have := h x List.mem_cons_self; omega
  | n + 1, g, hn, h => by
    by_cases hm : n ∈ g
    · have h1 := nodup_len n (g.erase n) (hn.erase n) fun i hi => by
        rw [hn.mem_erase_iff] at hi
        have := h i hi.2
        omega
      rw [List.length_erase_of_mem hm] at h1
      omega
    · have h1 := nodup_len n g hn fun i hi => by
        have := h i hi
        have : i ≠ n := fun e => hm (e ▸ hi)
        omega
      omega
theorem keys_perm (M : List (Int × AV)) {seen : List Nat} (hn : seen.Nodup) (hlt : ∀ i ∈ seen, i < M.length) (hall : ∀ i, i < M.length → i ∈ seen) : (seen.map (keyAt M)).Perm (keysOf M) := by
  have h1 : seen.Perm (List.range M.length) := (List.perm_ext_iff_of_nodup hn List.nodup_range).2 fun i => by
    rw [List.mem_range]
    exact ⟨hlt i, hall i⟩
  have h2 : (List.range M.length).map (keyAt M) = keysOf M := by
    apply List.ext_getElem
    · simp [keysOf]
    · intro i h3 h4
      simp at h3
      simp [keysOf, keyAt, h3]
  rw [← h2]
  exact h1.map _
set_option maxRecDepth 4000 in
theorem appendSeq_spec (M : List (Int × AV)) (hM : ∀ ρ, renM ρ M = M) (hlen : M.length ≤ 1000000000) :
    FSpec Tryz.prog 66 [.im (.sc (.slice none 0 0)), .fn 39 [.ptr 1 0]] [.mp .i64 M, .box 88 [.map 0]] (.row 2) [.mp .i64 M, .box 88 [.map 0], .rowE 3 1 (someOrder (keysOf M))] := by
  refine FSpec.of_o (q := []) Tryz.func66 (by kernel_rfl) rfl Tryz.ntmps66 Tryz.results66 hP (by kernel_rfl) (by simp) (by first | rfl | simp) ?_
  simp [rangeK]
  intro a0 b rr
  refine ⟨_, _, _, [], Tryz.func39, (by kernel_rfl), rfl, Tryz.ntmps39, Tryz.results39, (by kernel_rfl), (by simp), ?_⟩
  simp
  refine LoopK.nil (.cl 2 0 3 1) ?_
  simp
  refine LoopK.os (fun _ : List Nat => [(0, .yld 4), (1, .ptr 1 0), (5, .ptr 5 0)])
    (fun g => [.mp .i64 M, .box 88 [.map 0], .box 39 [.row 6], .sv a0 [(2, .ptr 2 0)], .lp b rr .ready none, .it 0 M.length g, .row 3 1 (rowI (g.map (keyAt M)))])
    (fun g => g.Nodup ∧ ∀ i ∈ g, i < M.length) (fun g => M.length - g.length) [] [0, 1, 2, 3, 4, 5, 6] ⟨List.nodup_nil, by simp⟩ (by simp [hM, rowI, renM]) ?_
  rintro g ⟨hn, hlt⟩
  have hgl : g.length ≤ M.length := nodup_len _ g hn hlt
  simp
  refine ⟨5, 0, M.length, g, .i64, M, rfl, rfl, rfl, rfl, fun i e he hi => ?_, fun hall => ?_⟩
  · have hil : i < M.length := (List.getElem?_eq_some_iff.1 he).1
    have hn' : (g ++ [i]).Nodup := by
      rw [List.nodup_append]
      exact ⟨hn, by simp, fun a ha b hb e => by rw [List.mem_singleton] at hb; subst hb; subst e; exact hi ha⟩
    have hlt' : ∀ j ∈ g ++ [i], j < M.length := fun j hj => by
      rcases List.mem_append.1 hj with hj | hj
      · exact hlt j hj
      · rw [List.mem_singleton] at hj; subst hj; exact hil
    have hgl' := nodup_len _ _ hn' hlt'
    have hk : keyAt M i = e.1 := by unfold keyAt; rw [he]; rfl
    rw [List.length_append, List.length_singleton] at hgl'
    simp [he]
    refine ⟨3, _, rfl, rfl, rfl, fun aI => ?_⟩
    simp [putL, asgK]
    refine ⟨4, by simp, ?_⟩
    simp
    refine ⟨⟨by omega, by unfold maxLen; omega⟩, ?_⟩
    refine endRd_normal 7 4 (by simp; rfl) (by simp) ?_
    simp
    refine Again.os (g ++ [i]) [0, 1, 2, 3, 4, 5, 9] ⟨hn', hlt'⟩ (by simp; omega) ?_
    simp [hM, hk, rowI, renM]
  · simp
    refine ⟨3, _, 4, .ready, none, rfl, rfl, .inl rfl, ?_⟩
    simp [pendK]
    refine EndO.ret [] [0, 1, 6] (.row 6) (by simp) ?_
    simp [hM]
    exact ⟨g.map (keyAt M), keys_perm M hn hlt hall, rfl⟩
theorem collect_spec (M : List (Int × AV)) (hM : ∀ ρ, renM ρ M = M) (hlen : M.length ≤ 1000000000) :
    FSpec Tryz.prog 37 [.fn 39 [.ptr 1 0]] [.mp .i64 M, .box 88 [.map 0]] (.row 2) [.mp .i64 M, .box 88 [.map 0], .rowE 3 1 (someOrder (keysOf M))] := by
  refine FSpec.of_o (q := []) Tryz.func37 (by kernel_rfl) rfl Tryz.ntmps37 Tryz.results37 hP (by kernel_rfl) (by simp) (by first | rfl | simp) ?_
  simp
  refine CallO.mk [] [0, 1] (appendSeq_spec M hM hlen) (by simp) rfl (by simp) (by simp [hM]) (by simp) ?_
  simp [hM]
  refine EndO.ret [] [0, 1, 2] (.row 2) (by simp) ?_
  simp [hM]
end Go.Am
