import Derived.Test.YtholjnkcajjiiaaGreatPE3
import Derived.Test.YtholjnkcajjiiaaGreatPE4
set_option linter.unusedVariables false
set_option linter.unusedSimpArgs false
namespace Go.Am
open Go.Proofs

structure Addr4 where
  hi : Int
  lo : Int
@[simp] def Addr4.av (a : Addr4) : AV := .agg [.int .u64 a.hi, .int .u64 a.lo]
structure Pfx where
  six : Bool
  addr : Addr4
  len : Int
@[simp] def Pfx.av (p : Pfx) : AV := .agg [.bool p.six, .int .u64 p.addr.hi, .int .u64 p.addr.lo, .int .i64 p.len]

def wide (six : Bool) : Int := if six then 128 else 32
theorem wide_spec (six : Bool) : FSpec Tryz.prog 107 [.bool six] [] (.int .i64 (wide six)) [] := by
  refine FSpec.of_flat (q := []) Tryz.func107 (by kernel_rfl) rfl Tryz.ntmps107 Tryz.results107 hP (by kernel_rfl) (by simp) (by first | rfl | simp) ?_
  simp [wide]


def rightA (six : Bool) (a : Addr4) : Bool := six || (a.hi == 0 && a.lo.fdiv (2 ^ 32) == 0)
theorem rightA_spec (six : Bool) (a : Addr4) : FSpec Tryz.prog 69 [.bool six, a.av] [] (.bool (rightA six a)) [] := by
  refine FSpec.of_flat (q := []) Tryz.func69 (by kernel_rfl) rfl Tryz.ntmps69 Tryz.results69 hP (by kernel_rfl) (by simp) (by first | rfl | simp) ?_
  simp [rightA, IntKind.bits]
  intro h; by_cases h0 : a.hi = 0 <;> simp [h, h0]

def orInt : List Int → Int
  | [] => 0
  | x :: l => if x ≠ 0 then x else orInt l
theorem orInt_spec (l : List Int) : FSpec Tryz.prog 105 [.im (.sl 1 (l.map fun x => [.int .i64 x]))] [] (.int .i64 (orInt l)) [] := by
  refine FSpec.bd (enters_of Tryz.func105 (by kernel_rfl) rfl) fun hbd => ?_
  have hl : l.length ≤ 9223372036854775807 := by simpa [maxLen] using hbd
  refine FSpec.of_flat (q := []) Tryz.func105 (by kernel_rfl) rfl Tryz.ntmps105 Tryz.results105 hP (by kernel_rfl) (by simp) (by first | rfl | simp) ?_
  simp
  refine LoopK.plain (fun k : Nat => [(2, .int .i64 0), (3, .int .i64 0), (6, .im (.sl 1 (l.map fun x => [.int .i64 x]))), (7, .int .i64 l.length), (8, .int .i64 k)]) (fun k => k ≤ l.length ∧ orInt (l.drop k) = orInt l)
    (fun k => l.length - k) 0 (by simp) (by simp) ?_
  rintro k ⟨hk, hR⟩
  by_cases hlt : k < l.length
  · have hs : l[k]? = some l[k] := List.getElem?_eq_getElem hlt
    have hw : IntKind.i64.wrap (k + 1) = (k + 1 : Nat) := wrap64 (by omega) (by omega)
    rw [List.drop_eq_getElem_cons hlt, orInt] at hR
    simp [hlt, hs, hw]
    refine ⟨fun h => by simpa [h] using hR, fun h => ?_⟩
    refine Again.plain (k + 1) ⟨hlt, by simpa [h] using hR⟩ (by omega) (by simp)
  · simp at hlt
    have : k = l.length := by omega
    subst this
    simp [orInt] at hR
    simp [← hR]

def cmpI (a b : Int) : Int := if a < b then -1 else if a > b then 1 else 0
theorem isNaNI_spec (a : Int) : FSpec Tryz.prog 199 [.int .i64 a] [] (.bool false) [] := by
  refine FSpec.of_flat (q := []) Tryz.func199 (by kernel_rfl) rfl Tryz.ntmps199 Tryz.results199 hP (by kernel_rfl) (by simp) (by first | rfl | simp) ?_
  simp
theorem isNaNU_spec (a : Int) : FSpec Tryz.prog 144 [.int .u64 a] [] (.bool false) [] := by
  refine FSpec.of_flat (q := []) Tryz.func144 (by kernel_rfl) rfl Tryz.ntmps144 Tryz.results144 hP (by kernel_rfl) (by simp) (by first | rfl | simp) ?_
  simp
theorem cmpI_spec (a b : Int) : FSpec Tryz.prog 155 [.int .i64 a, .int .i64 b] [] (.int .i64 (cmpI a b)) [] := by
  refine FSpec.of_flat (q := []) Tryz.func155 (by kernel_rfl) rfl Tryz.ntmps155 Tryz.results155 hP (by kernel_rfl) (by simp) (by first | rfl | simp) ?_
  simp
  refine CallK.same (isNaNI_spec _) rfl rfl ?_
  simp
  refine CallK.same (isNaNI_spec _) rfl rfl ?_
  simp [cmpI]
  refine ⟨fun h h' => by omega, fun h => ⟨fun h' => ?_, fun h' => ?_⟩⟩
  all_goals (repeat' split) <;> omega
theorem cmpU_spec (a b : Int) : FSpec Tryz.prog 106 [.int .u64 a, .int .u64 b] [] (.int .i64 (cmpI a b)) [] := by
  refine FSpec.of_flat (q := []) Tryz.func106 (by kernel_rfl) rfl Tryz.ntmps106 Tryz.results106 hP (by kernel_rfl) (by simp) (by first | rfl | simp) ?_
  simp
  refine CallK.same (isNaNU_spec _) rfl rfl ?_
  simp
  refine CallK.same (isNaNU_spec _) rfl rfl ?_
  simp [cmpI]
  refine ⟨fun h h' => by omega, fun h => ⟨fun h' => ?_, fun h' => ?_⟩⟩
  all_goals (repeat' split) <;> omega

def cmpA (a b : Addr4) : Int := orInt [cmpI a.hi b.hi, cmpI a.lo b.lo]
theorem cmpA_spec (a b : Addr4) : FSpec Tryz.prog 70 [a.av, b.av] [] (.int .i64 (cmpA a b)) [] := by
  refine FSpec.of_flat (q := [(1, .n 9)]) Tryz.func70 (by kernel_rfl) rfl Tryz.ntmps70 Tryz.results70 hP (by kernel_rfl) (by simp) (by first | rfl | simp) ?_
  simp
  refine CallQ.same (cmpU_spec _ _) rfl rfl ?_
  simp
  refine CallK.same (cmpU_spec _ _) rfl rfl ?_
  simp
  refine CallK.fz [2] (orInt_spec [cmpI a.hi b.hi, cmpI a.lo b.lo]) (by simp) (by simp) rfl ?_
  simp [cmpA]
end Go.Am


set_option linter.unusedVariables false
set_option linter.unusedSimpArgs false
namespace Go.Am
open Go.Proofs

def below (n : Int) : Addr4 :=
  if n ≥ 128 then ⟨18446744073709551615, 18446744073709551615⟩
  else if n ≥ 64 then ⟨IntKind.u64.wrap (IntKind.u64.wrap (2 ^ min (n - 64).toNat 64) - 1), 18446744073709551615⟩
  else ⟨0, IntKind.u64.wrap (IntKind.u64.wrap (2 ^ min n.toNat 64) - 1)⟩
theorem below_spec (n : Int) (h0 : 0 ≤ n) : FSpec Tryz.prog 145 [.int .i64 n] [] (below n).av [] := by
  refine FSpec.of_flat (q := []) Tryz.func145 (by kernel_rfl) rfl Tryz.ntmps145 Tryz.results145 hP (by kernel_rfl) (by simp) (by first | rfl | simp) ?_
  simp [below]
  refine ⟨fun h => by simp [h], fun h => ⟨fun h' => ?_, fun h' => ?_⟩⟩
  · have hw : IntKind.i64.wrap (n - 64) = n - 64 := wrap64 (by omega) (by omega)
    simp [show ¬ 128 ≤ n by omega, h', hw]
  · simp [show ¬ 128 ≤ n by omega, show ¬ 64 ≤ n by omega, h0]
def host (p : Pfx) : Addr4 := below (wide p.six - p.len)
theorem wide_le (b : Bool) : 0 ≤ wide b ∧ wide b ≤ 128 := by cases b <;> decide
theorem host_spec (p : Pfx) (h0 : p.len ≤ wide p.six) (h1 : 0 ≤ p.len) : FSpec Tryz.prog 108 [p.av] [] (host p).av [] := by
  have hw : IntKind.i64.wrap (wide p.six - p.len) = wide p.six - p.len := wrap64 (by have := wide_le p.six; omega) (by have := wide_le p.six; omega)
  refine FSpec.of_flat (q := [(1, .n 5)]) Tryz.func108 (by kernel_rfl) rfl Tryz.ntmps108 Tryz.results108 hP (by kernel_rfl) (by simp) (by first | rfl | simp) ?_
  simp
  refine CallQ.same (wide_spec _) rfl rfl ?_
  simp [hw]
  refine CallK.same (below_spec _ (by omega)) rfl rfl ?_
  simp [host]

abbrev and64 := andI .u64
abbrev or64 := orI .u64
def checkP (p : Pfx) : Int :=
  if p.len < 0 || wide p.six < p.len || !rightA p.six p.addr then 2
  else if or64 (and64 p.addr.hi (host p).hi) (and64 p.addr.lo (host p).lo) ≠ 0 then 2 else 0
theorem checkP_spec (p : Pfx) : FSpec Tryz.prog 73 [p.av] [] (.int .i64 (checkP p)) [] := by
  refine FSpec.of_flat (q := [(1, .n 16)]) Tryz.func73 (by kernel_rfl) rfl Tryz.ntmps73 Tryz.results73 hP (by kernel_rfl) (by simp) (by first | rfl | simp) ?_
  simp
  refine CallQG.same _ (wide_spec _) rfl ?_
  simp
  refine CallG.same _ (rightA_spec p.six p.addr) rfl ?_
  simp
  refine ⟨?_, fun h0 h1 h2 => ?_⟩
  · rintro ((h | h) | h) <;> simp [checkP, h]
  · refine CallK.same (host_spec p h1 h0) rfl rfl ?_
    simp [checkP, h2, show ¬ p.len < 0 by omega, show ¬ wide p.six < p.len by omega]
end Go.Am


set_option linter.unusedVariables false
set_option linter.unusedSimpArgs false
namespace Go.Am
open Go.Proofs

structure Seat where
  router : Int
  seq : Int
  time : Int
  up : Bool
@[simp] def Seat.iv (s : Seat) : List IV := [.sc (.int .i64 s.router), .sc (.int .u64 s.seq), .sc (.int .i64 s.time), .sc (.bool s.up)]
@[simp] def Seat.av (s : Seat) : AV := .agg [.int .i64 s.router, .int .u64 s.seq, .int .i64 s.time, .bool s.up]
def rightS (s : Seat) : Bool := decide (0 ≤ s.router) && decide (s.router ≤ 1048576) && decide (1 ≤ s.seq) && decide (s.seq ≤ 1099511627776) && decide (0 ≤ s.time) && decide (s.time ≤ 1099511627776)
theorem rightS_spec (s : Seat) : FSpec Tryz.prog 149 [s.av] [] (.bool (rightS s)) [] := by
  refine FSpec.of_flat (q := []) Tryz.func149 (by kernel_rfl) rfl Tryz.ntmps149 Tryz.results149 hP (by kernel_rfl) (by simp) (by first | rfl | simp) ?_
  simp [rightS]

def checkSL : List Seat → Int → Int
  | [], _ => 0
  | s :: t, ah => if !rightS s || decide (s.router ≤ ah) then 2 else checkSL t s.router
def checkS (l : List Seat) : Int := if l.length > 64 then 2 else checkSL l (-1)
theorem checkS_spec (l : List Seat) : FSpec Tryz.prog 120 [.im (.sl 4 (l.map Seat.iv))] [] (.int .i64 (checkS l)) [] := by
  refine FSpec.of_flat (q := []) Tryz.func120 (by kernel_rfl) rfl Tryz.ntmps120 Tryz.results120 hP (by kernel_rfl) (by simp) (by first | rfl | simp) ?_
  simp [checkS]
  refine ⟨fun h h' => by omega, fun hle => ?_⟩
  refine LoopK.plain (fun g : Nat × Int => [(3, .int .i64 g.2), (9, .im (.sl 4 (l.map Seat.iv))), (10, .int .i64 l.length), (11, .int .i64 g.1)]) (fun g => g.1 ≤ l.length ∧ checkSL (l.drop g.1) g.2 = checkSL l (-1))
    (fun g => l.length - g.1) (0, -1) (by simp) (by simp) ?_
  rintro ⟨k, ah⟩ ⟨hk, hR⟩
  simp only at hk hR
  by_cases hlt : k < l.length
  · have hs : l[k]? = some l[k] := List.getElem?_eq_getElem hlt
    have hw : IntKind.i64.wrap (k + 1) = (k + 1 : Nat) := wrap64 (by omega) (by omega)
    rw [List.drop_eq_getElem_cons hlt, checkSL] at hR
    simp [hlt, hs, hw]
    refine CallK.same (rightS_spec l[k]) rfl rfl ?_
    simp [hw]
    refine ⟨fun h _ => ?_, fun h h' => ?_⟩
    · rw [← hR, if_pos (by simpa using h)]
    · refine Again.plain (k + 1, l[k].router) ⟨hlt, ?_⟩ (by simp only; omega) (by simp)
      rw [← hR, if_neg (by simp [h]; omega)]
  · simp at hlt
    have : k = l.length := by omega
    subst this
    simp [checkSL] at hR
    simp [← hR]
    omega
end Go.Am


set_option linter.unusedVariables false
set_option linter.unusedSimpArgs false
namespace Go.Am
open Go.Proofs

structure Link where
  iface : Int
  peer : Int
@[simp] def Link.iv (s : Link) : List IV := [.sc (.int .i64 s.iface), .sc (.int .i64 s.peer)]
@[simp] def Link.av (s : Link) : AV := .agg [.int .i64 s.iface, .int .i64 s.peer]
def rightL (s : Link) : Bool := decide (0 ≤ s.iface) && decide (s.iface ≤ 65536) && decide (0 ≤ s.peer) && decide (s.peer ≤ 1048576)
theorem rightL_spec (s : Link) : FSpec Tryz.prog 198 [s.av] [] (.bool (rightL s)) [] := by
  refine FSpec.of_flat (q := []) Tryz.func198 (by kernel_rfl) rfl Tryz.ntmps198 Tryz.results198 hP (by kernel_rfl) (by simp) (by first | rfl | simp) ?_
  simp [rightL]
def idOk (n : Int) : Bool := decide (0 ≤ n) && decide (n ≤ 1048576)
theorem idOk_spec (n : Int) : FSpec Tryz.prog 150 [.int .i64 n] [] (.bool (idOk n)) [] := by
  refine FSpec.of_flat (q := []) Tryz.func150 (by kernel_rfl) rfl Tryz.ntmps150 Tryz.results150 hP (by kernel_rfl) (by simp) (by first | rfl | simp) ?_
  simp [idOk]

def checkLL : List Link → Int → Int
  | [], _ => 0
  | s :: t, ah => if !rightL s || decide (s.iface ≤ ah) then 2 else checkLL t s.iface
def checkL (l : List Link) : Int := if l.length > 32 then 2 else checkLL l (-1)
theorem checkL_spec (l : List Link) : FSpec Tryz.prog 152 [.im (.sl 2 (l.map Link.iv))] [] (.int .i64 (checkL l)) [] := by
  refine FSpec.of_flat (q := []) Tryz.func152 (by kernel_rfl) rfl Tryz.ntmps152 Tryz.results152 hP (by kernel_rfl) (by simp) (by first | rfl | simp) ?_
  simp [checkL]
  refine ⟨fun h h' => by omega, fun hle => ?_⟩
  refine LoopK.plain (fun g : Nat × Int => [(3, .int .i64 g.2), (9, .im (.sl 2 (l.map Link.iv))), (10, .int .i64 l.length), (11, .int .i64 g.1)]) (fun g => g.1 ≤ l.length ∧ checkLL (l.drop g.1) g.2 = checkLL l (-1))
    (fun g => l.length - g.1) (0, -1) (by simp) (by simp) ?_
  rintro ⟨k, ah⟩ ⟨hk, hR⟩
  simp only at hk hR
  by_cases hlt : k < l.length
  · have hs : l[k]? = some l[k] := List.getElem?_eq_getElem hlt
    have hw : IntKind.i64.wrap (k + 1) = (k + 1 : Nat) := wrap64 (by omega) (by omega)
    rw [List.drop_eq_getElem_cons hlt, checkLL] at hR
    simp [hlt, hs, hw]
    refine CallK.same (rightL_spec l[k]) rfl rfl ?_
    simp [hw]
    refine ⟨fun h _ => ?_, fun h h' => ?_⟩
    · rw [← hR, if_pos (by simpa using h)]
    · refine Again.plain (k + 1, l[k].iface) ⟨hlt, ?_⟩ (by simp only; omega) (by simp)
      rw [← hR, if_neg (by simp [h]; omega)]
  · simp at hlt
    have : k = l.length := by omega
    subst this
    simp [checkLL] at hR
    simp [← hR]
    omega
end Go.Am


set_option linter.unusedVariables false
set_option linter.unusedSimpArgs false
namespace Go.Am
open Go.Proofs

end Go.Am


set_option linter.unusedVariables false
set_option linter.unusedSimpArgs false
namespace Go.Am
open Go.Proofs

end Go.Am


set_option linter.unusedVariables false
set_option linter.unusedSimpArgs false
namespace Go.Am
open Go.Proofs

structure Act where
  kind : Int
  iface : Int
structure Route where
  pfx : Pfx
  act : Act
@[simp] def Route.iv (r : Route) : List IV := [.sc (.bool r.pfx.six), .sc (.int .u64 r.pfx.addr.hi), .sc (.int .u64 r.pfx.addr.lo), .sc (.int .i64 r.pfx.len), .sc (.int .u8 r.act.kind), .sc (.int .i64 r.act.iface)]
@[simp] def Route.av (r : Route) : AV := .agg (r.iv.map .im)
structure Router where
  id : Int
  up : Bool
  routes : List Route
  links : List Link
@[simp] def Router.iv (r : Router) : List IV := [.sc (.int .i64 r.id), .sc (.bool r.up), .sl 6 (r.routes.map Route.iv), .sl 2 (r.links.map Link.iv)]
def many : List Router → Int → Int
  | [], n => n
  | r :: l, n => many l (IntKind.i64.wrap (n + IntKind.i64.wrap (r.routes.length + r.links.length)))
theorem total_spec (l : List Router) : FSpec Tryz.prog 121 [.im (.sl 4 (l.map Router.iv))] [] (.int .i64 (many l 0)) [] := by
  refine FSpec.bd (enters_of Tryz.func121 (by kernel_rfl) rfl) fun hbd => ?_
  have hl : l.length ≤ 9223372036854775807 := by simp [maxLen] at hbd; exact hbd.1
  refine FSpec.of_flat (q := []) Tryz.func121 (by kernel_rfl) rfl Tryz.ntmps121 Tryz.results121 hP (by kernel_rfl) (by simp) (by first | rfl | simp) ?_
  simp
  refine LoopK.plain (fun g : Nat × Int => [(3, .int .i64 g.2), (6, .im (.sl 4 (l.map Router.iv))), (7, .int .i64 l.length), (8, .int .i64 g.1)]) (fun g => g.1 ≤ l.length ∧ many (l.drop g.1) g.2 = many l 0)
    (fun g => l.length - g.1) (0, 0) (by simp) (by simp) ?_
  rintro ⟨k, n⟩ ⟨hk, hR⟩
  simp only at hk hR
  by_cases hlt : k < l.length
  · have hs : l[k]? = some l[k] := List.getElem?_eq_getElem hlt
    have hw : IntKind.i64.wrap (k + 1) = (k + 1 : Nat) := wrap64 (by omega) (by omega)
    rw [List.drop_eq_getElem_cons hlt, many] at hR
    simp [hlt, hs, hw]
    exact Again.plain (k + 1, IntKind.i64.wrap (n + IntKind.i64.wrap (l[k].routes.length + l[k].links.length))) ⟨hlt, hR⟩ (by simp only; omega) (by simp)
  · simp at hlt
    have : k = l.length := by omega
    subst this
    simp [many] at hR
    simp [← hR]
end Go.Am


set_option linter.unusedVariables false
set_option linter.unusedSimpArgs false
namespace Go.Am
open Go.Proofs

def kindP (p : Pfx) : Int := if p.six then 1 else 0
theorem kindP_spec (p : Pfx) : FSpec Tryz.prog 229 [p.av] [] (.int .i64 (kindP p)) [] := by
  refine FSpec.of_flat (q := []) Tryz.func229 (by kernel_rfl) rfl Tryz.ntmps229 Tryz.results229 hP (by kernel_rfl) (by simp) (by first | rfl | simp) ?_
  simp [kindP]
def cmpP (p q : Pfx) : Int := orInt [cmpI (kindP p) (kindP q), cmpA p.addr q.addr, cmpI p.len q.len]
theorem cmpP_spec (p q : Pfx) : FSpec Tryz.prog 197 [p.av, q.av] [] (.int .i64 (cmpP p q)) [] := by
  refine FSpec.of_flat (q := [(1, .n 14)]) Tryz.func197 (by kernel_rfl) rfl Tryz.ntmps197 Tryz.results197 hP (by kernel_rfl) (by simp) (by first | rfl | simp) ?_
  simp
  refine CallQ.same (kindP_spec p) rfl rfl ?_
  simp
  refine CallQ.same (kindP_spec q) rfl rfl ?_
  simp
  refine CallQ.same (cmpI_spec _ _) rfl rfl ?_
  simp
  refine CallQ.same (cmpA_spec p.addr q.addr) rfl rfl ?_
  simp
  refine CallK.same (cmpI_spec _ _) rfl rfl ?_
  simp
  refine CallK.fz [2] (orInt_spec [cmpI (kindP p) (kindP q), cmpA p.addr q.addr, cmpI p.len q.len]) (by simp) (by simp) rfl ?_
  simp [cmpP]
end Go.Am


set_option linter.unusedVariables false
set_option linter.unusedSimpArgs false
namespace Go.Am
open Go.Proofs

end Go.Am


set_option linter.unusedVariables false
set_option linter.unusedSimpArgs false
namespace Go.Am
open Go.Proofs

@[simp] def Act.av (a : Act) : AV := .agg [.int .u8 a.kind, .int .i64 a.iface]
def ifaceOk (n : Int) : Bool := decide (0 ≤ n) && decide (n ≤ 65536)
theorem ifaceOk_spec (n : Int) : FSpec Tryz.prog 237 [.int .i64 n] [] (.bool (ifaceOk n)) [] := by
  refine FSpec.of_flat (q := []) Tryz.func237 (by kernel_rfl) rfl Tryz.ntmps237 Tryz.results237 hP (by kernel_rfl) (by simp) (by first | rfl | simp) ?_
  simp [ifaceOk]
def actOk (a : Act) : Bool := if a.kind = 1 then ifaceOk a.iface else (a.kind == 2 || a.kind == 3) && a.iface == 0
theorem actOk_spec (a : Act) : FSpec Tryz.prog 236 [a.av] [] (.bool (actOk a)) [] := by
  refine FSpec.of_flat (q := []) Tryz.func236 (by kernel_rfl) rfl Tryz.ntmps236 Tryz.results236 hP (by kernel_rfl) (by simp) (by first | rfl | simp) ?_
  simp
  refine ⟨fun h => ?_, fun h => ?_⟩
  · refine CallK.same (ifaceOk_spec _) rfl rfl ?_
    simp [actOk, h]
  · simp [actOk, h]
    omega
end Go.Am


set_option linter.unusedVariables false
set_option linter.unusedSimpArgs false
set_option pp.deepTerms false
set_option pp.deepTerms.threshold 40
namespace Go.Am
open Go.Proofs

def Addr4.wf (a : Addr4) : Prop := 0 ≤ a.hi ∧ a.hi < 18446744073709551616 ∧ 0 ≤ a.lo ∧ a.lo < 18446744073709551616
def Addr4.num (a : Addr4) : Nat := a.hi.toNat * 18446744073709551616 + a.lo.toNat
def wideN (six : Bool) : Nat := if six then 128 else 32
def bitAt (W V j : Nat) : Int := ((V / 2 ^ (W - 1 - j) % 2 : Nat) : Int)
def bitsL (W V k : Nat) : List Int := (List.range W).map fun j => if W ≤ j + k then bitAt W V j else 0
def bitsA (six : Bool) (a : Addr4) : List Int := bitsL (wideN six) a.num (wideN six)
def rowI (l : List Int) : List (List IV) := l.map fun x => [.sc (.int .i64 x)]

@[simp] theorem rowI_length (l : List Int) : (rowI l).length = l.length := by simp [rowI]
@[simp] theorem bitsL_length (W V k : Nat) : (bitsL W V k).length = W := by simp [bitsL]
theorem wrapU {x : Int} (h0 : 0 ≤ x) (h1 : x < 18446744073709551616) : IntKind.u64.wrap x = x := by
  simp [IntKind.wrap, IntKind.signed, IntKind.bits]
  omega
theorem bitsA_get (six : Bool) (a : Addr4) (k : Nat) (h : k < wideN six) : (bitsA six a)[k]? = some (bitAt (wideN six) a.num k) := by
  unfold bitsA bitsL
  rw [List.getElem?_map, List.getElem?_range h]
  simp
@[simp] theorem bitsA_length (six : Bool) (a : Addr4) : (bitsA six a).length = wideN six := by simp [bitsA]
@[simp] theorem rowI_getElem (l : List Int) (k : Nat) (h : k < (rowI l).length) : (rowI l)[k] = [.sc (.int .i64 (l[k]'(by simpa using h)))] := by simp [rowI]
@[simp] theorem bitsA_getElem (six : Bool) (a : Addr4) (k : Nat) (h : k < (bitsA six a).length) : (bitsA six a)[k] = bitAt (wideN six) a.num k := by
  have := bitsA_get six a k (by simpa using h)
  rw [List.getElem?_eq_getElem h] at this
  exact Option.some.inj this
end Go.Am


set_option linter.unusedVariables false
set_option linter.unusedSimpArgs false
set_option pp.deepTerms false
set_option pp.deepTerms.threshold 40
namespace Go.Am
open Go.Proofs

def moreB (n : Int) : Int := orI .u8 (IntKind.u8.wrap n) 128
def addL : Nat → Int → List Int
  | 0, n => [IntKind.u8.wrap n]
  | f + 1, n => if 128 ≤ n then moreB n :: addL f (n.fdiv 128) else [IntKind.u8.wrap n]
def rowB (l : List Int) : List (List IV) := l.map fun x => [.sc (.int .u8 x)]
@[simp] theorem rowB_append (l m : List Int) : rowB l ++ rowB m = rowB (l ++ m) := by simp [rowB]
@[simp] theorem rowB_length (l : List Int) : (rowB l).length = l.length := by simp [rowB]
@[simp] theorem bytesOf_rowB (l : List Int) : bytesOf (rowB l) = some l := by
  induction l with
  | nil => rfl
  | cons x l ih => simp only [rowB, List.map_cons, bytesOf] at ih ⊢; rw [ih]; rfl

theorem addN_spec (l : List Int) (n : Int) (h0 : 0 ≤ n) (h1 : n ≤ 65536) (hl : l.length ≤ 1000) :
    FSpec Tryz.prog 262 [.row 0, .int .u64 n] [.row 5 1 (rowB l)] (.row 1) [.gone, .row 5 1 (rowB (l ++ addL n.toNat n))] := by
  refine FSpec.of_o (q := []) Tryz.func262 (by kernel_rfl) rfl Tryz.ntmps262 Tryz.results262 hP (by kernel_rfl) (by simp) (by first | rfl | simp) ?_
  simp
  refine LoopK.os (fun g : Bool × List Int × Int × Nat => [(0, if g.1 then .row 1 else .row 0), (1, .int .u64 g.2.2.1)])
    (fun g => if g.1 then [.gone, .row 5 1 (rowB g.2.1)] else [.row 5 1 (rowB g.2.1)])
    (fun g => 0 ≤ g.2.2.1 ∧ (g.2.1.length : Int) + g.2.2.1 ≤ 66536 ∧ g.2.2.1 ≤ g.2.2.2 ∧ g.2.1 ++ addL g.2.2.2 g.2.2.1 = l ++ addL n.toNat n) (fun g => g.2.2.1.toNat) (false, l, n, n.toNat) [0]
    ⟨h0, by simp only; omega, by simp only; omega, rfl⟩ (by simp) ?_
  rintro ⟨b, l', n', f⟩ ⟨a1, a2, a3, a4⟩
  simp only at a1 a2 a3 a4
  cases b
  all_goals
    have hfd : n'.fdiv 128 = n' / 128 := Int.fdiv_eq_ediv_of_nonneg _ (by omega)
    have hone : ∀ x, rowB l' ++ [[IV.sc (.int .u8 x)]] = rowB (l' ++ [x]) := fun x => by simp [rowB]
    simp [hone]
    refine ⟨fun hge => ⟨⟨by omega, by unfold maxLen; omega⟩, ?_⟩, fun hlt => ⟨⟨by omega, by unfold maxLen; omega⟩, ?_⟩⟩
    · cases f with
      | zero => omega
      | succ f =>
        rw [addL, if_pos hge] at a4
        have h5 : 0 ≤ (l' ++ [moreB n'], n'.fdiv 128, f).2.1 := by simp only [hfd]; omega
        have h6 : ((l' ++ [moreB n']).length : Int) + n'.fdiv 128 ≤ 66536 := by simp [hfd]; omega
        have h7 : n'.fdiv 128 ≤ (f : Int) := by rw [hfd]; omega
        have h8 : (l' ++ [moreB n']) ++ addL f (n'.fdiv 128) = l ++ addL n.toNat n := by simpa using a4
        have h9 : (n'.fdiv 128).toNat < n'.toNat := by rw [hfd]; omega
        first
          | (refine Again.os (true, l' ++ [moreB n'], n'.fdiv 128, f) [0, 2] ⟨h5, h6, h7, h8⟩ h9 ?_; simp [moreB]; done)
          | exact Again.os (true, l' ++ [moreB n'], n'.fdiv 128, f) [0, 3] ⟨h5, h6, h7, h8⟩ h9 (by simp [moreB])
    · have h5 : addL f n' = [IntKind.u8.wrap n'] := by cases f <;> simp [addL]; omega
      rw [h5] at a4
      rw [← a4]
      first
        | exact EndO.ret [] [0, 2] (.row 2) rfl (by simp)
        | exact EndO.ret [] [0, 3] (.row 3) rfl (by simp)

theorem action_spec (a : Act) (h : actOk a = true) : ∃ l, FSpec Tryz.prog 250 [.im (.sc (.slice none 0 0)), a.av] [] (.im (.sl 1 (rowB l))) [] := by
  by_cases hk : a.kind = 1
  · have hi : 0 ≤ a.iface ∧ a.iface ≤ 65536 := by simpa [actOk, hk, ifaceOk] using h
    have hw : IntKind.u64.wrap a.iface = a.iface := wrapU (by omega) (by omega)
    refine ⟨[a.kind] ++ addL a.iface.toNat a.iface, ?_⟩
    refine FSpec.of_z (q := []) Tryz.func250 (by kernel_rfl) rfl Tryz.ntmps250 Tryz.results250 hP (by kernel_rfl) (by simp) (by first | rfl | simp) ?_
    simp [hk, hw]
    refine ⟨by unfold maxLen; omega, ?_⟩
    refine CallO.mk [] [2] (addN_spec [1] a.iface hi.1 hi.2 (by simp)) (by simp) rfl (by simp) (by simp [rowB]) (by simp) ?_
    simp
    refine EndZ.ret [3] _ rfl ?_
    simp
  · refine ⟨[a.kind], ?_⟩
    refine FSpec.of_z (q := []) Tryz.func250 (by kernel_rfl) rfl Tryz.ntmps250 Tryz.results250 hP (by kernel_rfl) (by simp) (by first | rfl | simp) ?_
    simp [hk]
    refine ⟨by unfold maxLen; omega, ?_⟩
    refine EndZ.ret [2] _ rfl ?_
    simp [rowB]
theorem putAction_spec (a : Act) : ∃ s, FSpec Tryz.prog 228 [a.av] [] (.tup [.im (.sc (.string s)), .int .i64 (if actOk a then 0 else 2)]) [] := by
  cases h : actOk a with
  | false =>
    refine ⟨ByteArray.empty, ?_⟩
    refine FSpec.of_flat (q := []) Tryz.func228 (by kernel_rfl) rfl Tryz.ntmps228 Tryz.results228 hP (by kernel_rfl) (by simp) (by first | rfl | simp) ?_
    simp
    first | refine CallK.same (actOk_spec a) rfl rfl ?_ | refine CallQ.same (actOk_spec a) rfl rfl ?_ | refine CallQG.same _ (actOk_spec a) rfl ?_ | refine CallG.same _ (actOk_spec a) rfl ?_ | refine CallK.pv (actOk_spec a) rfl rfl ?_
    simp [h]
    rfl
  | true =>
    obtain ⟨l, hl⟩ := action_spec a h
    refine ⟨l.foldl (fun r n => r.push (UInt8.ofNat n.toNat)) ByteArray.empty, ?_⟩
    refine FSpec.of_flat (q := []) Tryz.func228 (by kernel_rfl) rfl Tryz.ntmps228 Tryz.results228 hP (by kernel_rfl) (by simp) (by first | rfl | simp) ?_
    simp
    first | refine CallK.same (actOk_spec a) rfl rfl ?_ | refine CallQ.same (actOk_spec a) rfl rfl ?_ | refine CallQG.same _ (actOk_spec a) rfl ?_ | refine CallG.same _ (actOk_spec a) rfl ?_ | refine CallK.pv (actOk_spec a) rfl rfl ?_
    simp [h]
    refine CallK.pv hl rfl rfl ?_
    simp

def routeOk (r : Route) : Bool := actOk r.act && checkP r.pfx == 0
theorem routeOk_spec (r : Route) : FSpec Tryz.prog 196 [r.av] [] (.bool (routeOk r)) [] := by
  obtain ⟨s, hs⟩ := putAction_spec r.act
  refine FSpec.of_flat (q := []) Tryz.func196 (by kernel_rfl) rfl Tryz.ntmps196 Tryz.results196 hP (by kernel_rfl) (by simp) (by first | rfl | simp) ?_
  simp
  refine CallK.pv hs rfl rfl ?_
  simp
  cases h : actOk r.act with
  | false =>
    simp
    first | refine CallK.same (checkP_spec r.pfx) rfl rfl ?_ | refine CallQ.same (checkP_spec r.pfx) rfl rfl ?_ | refine CallQG.same _ (checkP_spec r.pfx) rfl ?_ | refine CallG.same _ (checkP_spec r.pfx) rfl ?_ | refine CallK.pv (checkP_spec r.pfx) rfl rfl ?_
    simp [routeOk, h]
  | true =>
    simp
    first | refine CallK.same (checkP_spec r.pfx) rfl rfl ?_ | refine CallQ.same (checkP_spec r.pfx) rfl rfl ?_ | refine CallQG.same _ (checkP_spec r.pfx) rfl ?_ | refine CallG.same _ (checkP_spec r.pfx) rfl ?_ | refine CallK.pv (checkP_spec r.pfx) rfl rfl ?_
    simp [routeOk, h]
end Go.Am


set_option linter.unusedVariables false
set_option linter.unusedSimpArgs false
set_option pp.deepTerms false
set_option pp.deepTerms.threshold 40
namespace Go.Am
open Go.Proofs

def aheadR (pv : Option Pfx) (r : Route) : Bool := match pv with | none => true | some p => decide (cmpP p r.pfx < 0)
def checkRL : List Route → Option Pfx → Int
  | [], _ => 0
  | r :: t, pv => if !routeOk r || !aheadR pv r then 2 else checkRL t (some r.pfx)
def checkR (l : List Route) : Int := if l.length > 256 then 2 else checkRL l none
def prevR (l : List Route) (k : Nat) : Option Pfx := if k = 0 then none else (l[k - 1]?).map Route.pfx
set_option maxRecDepth 4000 in
theorem checkR_spec (l : List Route) : FSpec Tryz.prog 151 [.im (.sl 6 (l.map Route.iv))] [] (.int .i64 (checkR l)) [] := by
  refine FSpec.of_flat (q := [(6, .n 15)]) Tryz.func151 (by kernel_rfl) rfl Tryz.ntmps151 Tryz.results151 hP (by kernel_rfl) (by simp) (by first | rfl | simp) ?_
  simp [checkR]
  refine ⟨fun h h' => by omega, fun hle => ?_⟩
  refine LoopK.plain (fun k : Nat => [(0, .im (.sl 6 (l.map Route.iv))), (8, .im (.sl 6 (l.map Route.iv))), (9, .int .i64 l.length), (10, .int .i64 k)]) (fun k => k ≤ l.length ∧ checkRL (l.drop k) (prevR l k) = checkRL l none)
    (fun k => l.length - k) 0 (by simp [prevR]) (by simp) ?_
  rintro k ⟨hk, hR⟩
  by_cases hlt : k < l.length
  · have hs : l[k]? = some l[k] := List.getElem?_eq_getElem hlt
    have hw : IntKind.i64.wrap (k + 1) = (k + 1 : Nat) := wrap64 (by omega) (by omega)
    have hw1 : IntKind.i64.wrap (k - 1) = (k : Int) - 1 := wrap64 (by omega) (by omega)
    rw [List.drop_eq_getElem_cons hlt, checkRL] at hR
    simp [hlt, hs, hw]
    first | refine CallK.same (routeOk_spec l[k]) rfl rfl ?_ | refine CallQ.same (routeOk_spec l[k]) rfl rfl ?_ | refine CallQG.same _ (routeOk_spec l[k]) rfl ?_ | refine CallG.same _ (routeOk_spec l[k]) rfl ?_ | refine CallK.pv (routeOk_spec l[k]) rfl rfl ?_
    obtain ⟨y, hy, hp⟩ : ∃ y, l[k - 1]? = some y ∧ (0 < k → prevR l k = some y.pfx) := by
      refine ⟨l[k - 1]'(by omega), List.getElem?_eq_getElem (by omega), fun h => ?_⟩
      simp [prevR, show k ≠ 0 by omega, List.getElem?_eq_getElem (show k - 1 < l.length by omega)]
    have hp0 : k = 0 → prevR l k = none := by intro h; simp [prevR, h]
    simp [hw, hw1, hy]
    refine ⟨fun _ _ => ⟨by omega, by omega⟩, ?_⟩
    first | refine CallK.same (cmpP_spec y.pfx l[k].pfx) rfl rfl ?_ | refine CallQ.same (cmpP_spec y.pfx l[k].pfx) rfl rfl ?_ | refine CallQG.same _ (cmpP_spec y.pfx l[k].pfx) rfl ?_ | refine CallG.same _ (cmpP_spec y.pfx l[k].pfx) rfl ?_ | refine CallK.pv (cmpP_spec y.pfx l[k].pfx) rfl rfl ?_
    have hah : aheadR (prevR l k) l[k] = (decide (k = 0) || decide (cmpP y.pfx l[k].pfx < 0)) := by
      rcases Nat.eq_zero_or_pos k with e | e
      · rw [hp0 e]; simp [aheadR, e]
      · rw [hp e]; simp [aheadR, show k ≠ 0 by omega]
    simp [hw, hw1, hy]
    cases h1 : routeOk l[k] with
    | false =>
      simp [h1] at hR
      simp [← hR]
    | true =>
      rcases Nat.eq_zero_or_pos k with e | e
      · subst e
        simp
        refine Again.plain 1 ⟨by omega, ?_⟩ (by omega) (by simp)
        rw [hah] at hR
        simpa [h1, prevR, hs] using hR
      · have e0 : k ≠ 0 := by omega
        simp [e, impB]
        refine ⟨fun h2 => ?_, fun h2 => ?_⟩
        · rw [hah] at hR
          rw [← hR, if_pos (by simp [h1, e0]; omega)]
          omega
        · refine Again.plain (k + 1) ⟨hlt, ?_⟩ (by omega) (by simp)
          rw [hah] at hR
          rw [← hR, if_neg (by simp [h1, e0]; omega)]
          simp [prevR, hs]
  · have : k = l.length := by omega
    subst this
    simp [checkRL] at hR
    simp [← hR]
    omega

end Go.Am


set_option linter.unusedVariables false
set_option linter.unusedSimpArgs false
set_option pp.deepTerms false
set_option pp.deepTerms.threshold 40
namespace Go.Am
open Go.Proofs

@[simp] def Router.av (r : Router) : AV := .agg [.int .i64 r.id, .bool r.up, .im (.sl 6 (r.routes.map Route.iv)), .im (.sl 2 (r.links.map Link.iv))]
def routerOk (r : Router) : Bool := idOk r.id && (r.up || (r.routes.isEmpty && r.links.isEmpty)) && checkR r.routes == 0 && checkL r.links == 0
def Router.wf (r : Router) : Prop := ∀ x ∈ r.routes, x.pfx.addr.wf
theorem checkR_len {l : List Route} (h : checkR l = 0) : l.length ≤ 256 := by
  unfold checkR at h
  split at h
  · cases h
  · omega
theorem checkL_len {l : List Link} (h : checkL l = 0) : l.length ≤ 32 := by
  unfold checkL at h
  split at h
  · cases h
  · omega
theorem up_sum (r : Router) (hu : r.up = false) (h : 0 < IntKind.i64.wrap ((r.routes.length : Int) + r.links.length)) : routerOk r = false := by
  unfold routerOk
  have : ¬ (r.routes.isEmpty = true ∧ r.links.isEmpty = true) := by
    rintro ⟨h1, h2⟩
    rw [List.isEmpty_iff] at h1 h2
    rw [h1, h2] at h
    simp [IntKind.wrap, IntKind.bits, IntKind.signed] at h
  cases h1 : r.routes.isEmpty <;> cases h2 : r.links.isEmpty <;> simp_all
theorem up_sum0 (r : Router) (hu : r.up = false → IntKind.i64.wrap ((r.routes.length : Int) + r.links.length) ≤ 0) (hi : idOk r.id = true) (hr : checkR r.routes = 0) (hl : checkL r.links = 0) : routerOk r = true := by
  have h1 := checkR_len hr
  have h2 := checkL_len hl
  rw [wrap64 (by omega) (by omega)] at hu
  unfold routerOk
  simp only [hi, hr, hl, Bool.true_and, beq_self_eq_true, Bool.and_true]
  cases hup : r.up with
  | true => rfl
  | false =>
    have := hu hup
    have e1 : r.routes = [] := List.eq_nil_of_length_eq_zero (by omega)
    have e2 : r.links = [] := List.eq_nil_of_length_eq_zero (by omega)
    simp [e1, e2]
theorem checkF_spec (r : Router) : FSpec Tryz.prog 122 [r.av] [] (.int .i64 (if routerOk r then 0 else 2)) [] := by
  refine FSpec.of_flat (q := []) Tryz.func122 (by kernel_rfl) rfl Tryz.ntmps122 Tryz.results122 hP (by kernel_rfl) (by simp) (by first | rfl | simp) ?_
  simp
  first | refine CallK.same (idOk_spec r.id) rfl rfl ?_ | refine CallQ.same (idOk_spec r.id) rfl rfl ?_ | refine CallQG.same _ (idOk_spec r.id) rfl ?_ | refine CallG.same _ (idOk_spec r.id) rfl ?_ | refine CallK.pv (idOk_spec r.id) rfl rfl ?_
  simp
  refine ⟨fun h => by simp [h], ?_, fun hi hu => ?_⟩
  · rintro (h | ⟨h1, h2⟩)
    · simp [routerOk, h]
    · exact up_sum r h1 h2
  first | refine CallK.same (checkR_spec r.routes) rfl rfl ?_ | refine CallQ.same (checkR_spec r.routes) rfl rfl ?_ | refine CallQG.same _ (checkR_spec r.routes) rfl ?_ | refine CallG.same _ (checkR_spec r.routes) rfl ?_ | refine CallK.pv (checkR_spec r.routes) rfl rfl ?_
  simp
  first | refine CallK.same (checkL_spec r.links) rfl rfl ?_ | refine CallQ.same (checkL_spec r.links) rfl rfl ?_ | refine CallQG.same _ (checkL_spec r.links) rfl ?_ | refine CallG.same _ (checkL_spec r.links) rfl ?_ | refine CallK.pv (checkL_spec r.links) rfl rfl ?_
  simp
  refine ⟨fun h => ?_, fun h1 h2 => up_sum0 r hu hi h1 h2⟩
  simp [routerOk]
  intro _ _ h1
  simpa [h1] using h
end Go.Am


set_option linter.unusedVariables false
set_option linter.unusedSimpArgs false
set_option pp.deepTerms false
set_option pp.deepTerms.threshold 40
namespace Go.Am
open Go.Proofs

structure Net where
  seats : List Seat
  routers : List Router
@[simp] def Net.av (n : Net) : AV := .agg [.im (.sl 4 (n.seats.map Seat.iv)), .im (.sl 4 (n.routers.map Router.iv))]
def Net.wf (n : Net) : Prop := ∀ r ∈ n.routers, r.wf
def zipOk : List Router → List Seat → Bool
  | [], [] => true
  | r :: l, s :: t => routerOk r && r.id == s.router && r.up == s.up && zipOk l t
  | _, _ => false
def netOk (n : Net) : Bool := checkS n.seats == 0 && n.routers.length == n.seats.length && zipOk n.routers n.seats && decide (many n.routers 0 ≤ 1024)
theorem checkS_len {l : List Seat} (h : checkS l = 0) : l.length ≤ 64 := by
  unfold checkS at h
  split at h
  · cases h
  · omega
theorem checkN_spec (n : Net) : FSpec Tryz.prog 83 [n.av] [] (.int .i64 (if netOk n then 0 else 2)) [] := by
  refine FSpec.of_flat (q := []) Tryz.func83 (by kernel_rfl) rfl Tryz.ntmps83 Tryz.results83 hP (by kernel_rfl) (by simp) (by first | rfl | simp) ?_
  simp
  first | refine CallK.same (checkS_spec n.seats) rfl rfl ?_ | refine CallQ.same (checkS_spec n.seats) rfl rfl ?_ | refine CallQG.same _ (checkS_spec n.seats) rfl ?_ | refine CallG.same _ (checkS_spec n.seats) rfl ?_ | refine CallK.pv (checkS_spec n.seats) rfl rfl ?_
  simp
  first | refine CallK.same (total_spec n.routers) rfl rfl ?_ | refine CallQ.same (total_spec n.routers) rfl rfl ?_ | refine CallQG.same _ (total_spec n.routers) rfl ?_ | refine CallG.same _ (total_spec n.routers) rfl ?_ | refine CallK.pv (total_spec n.routers) rfl rfl ?_
  simp
  refine ⟨?_, fun h1 h2 h3 => ?_⟩
  · rintro ((h | h) | h)
    · simp [netOk, h]
    · simp [netOk]; intro _ _; omega
    · simp [netOk]; intro _ _ _; omega
  have hlen := checkS_len h1
  refine LoopK.os (fun k : Nat => [(1, .ptr 0 0), (26, .im (.sl 4 (n.routers.map Router.iv))), (27, .int .i64 n.routers.length), (28, .int .i64 k)])
    (fun _ => [.box 25 [.im (.sl 4 (n.seats.map Seat.iv)), .im (.sl 4 (n.routers.map Router.iv))]])
    (fun k => k ≤ n.routers.length ∧ zipOk (n.routers.drop k) (n.seats.drop k) = zipOk n.routers n.seats) (fun k => n.routers.length - k) 0 [0] ⟨Nat.zero_le _, rfl⟩ (by simp) ?_
  rintro k ⟨hk, hR⟩
  by_cases hlt : k < n.routers.length
  · have hs : n.routers[k]? = some n.routers[k] := List.getElem?_eq_getElem hlt
    have hlt2 : k < n.seats.length := by omega
    have hs2 : n.seats[k]? = some n.seats[k] := List.getElem?_eq_getElem hlt2
    have hw : IntKind.i64.wrap (k + 1) = (k + 1 : Nat) := wrap64 (by omega) (by omega)
    rw [List.drop_eq_getElem_cons hlt, List.drop_eq_getElem_cons hlt2, zipOk] at hR
    simp [hlt, hlt2, hs, hs2, hw]
    first | refine CallK.same (checkF_spec n.routers[k]) rfl rfl ?_ | refine CallQ.same (checkF_spec n.routers[k]) rfl rfl ?_ | refine CallQG.same _ (checkF_spec n.routers[k]) rfl ?_ | refine CallG.same _ (checkF_spec n.routers[k]) rfl ?_ | refine CallK.pv (checkF_spec n.routers[k]) rfl rfl ?_
    simp [hw, hs2, hlt2]
    refine ⟨fun h => ?_, fun h1 h2 h3 => ?_⟩
    · have hz : zipOk n.routers n.seats = false := by
        rw [← hR]
        rcases h with (h | h) | h
        · simp [h]
        · simp [h]
        · simp [h]
      simp [netOk, hz]
    · refine Again.os (k + 1) [0] ⟨hlt, ?_⟩ (by omega) ?_
      · rw [← hR]; simp [h1, h2, h3]
      · simp
  · have : k = n.routers.length := by omega
    subst this
    have hz : zipOk n.routers n.seats = true := by
      rw [← hR, List.drop_of_length_le (by omega), List.drop_of_length_le (by omega)]; rfl
    simp [netOk, h1, hz]
    omega
end Go.Am


set_option linter.unusedVariables false
set_option linter.unusedSimpArgs false
set_option pp.deepTerms false
set_option pp.deepTerms.threshold 40
namespace Go.Am
open Go.Proofs

end Go.Am


set_option linter.unusedVariables false
set_option linter.unusedSimpArgs false
set_option pp.deepTerms false
set_option pp.deepTerms.threshold 40
namespace Go.Am
open Go.Proofs

inductive Ent where
  | nd (p : List Nat) (v : Option Nat)
  | rt (r : Route)
  | pb (p : Pfx)
def Ent.isAt (p : List Nat) : Ent → Bool
  | .nd q _ => q == p
  | _ => false
def ix (T : List Ent) (p : List Nat) : Option Nat := T.findIdx? (Ent.isAt p)
def ptrO : Option Nat → AV
  | none => .im (.sc (.pointer none))
  | some k => .ptr k 0
def ndCells (T : List Ent) (p : List Nat) (v : Option Nat) : List AV := [ptrO v, ptrO (ix T (p ++ [0])), ptrO (ix T (p ++ [1]))]
def Ent.ob (six : Bool) (T : List Ent) (i : Nat) : Ent → AObj
  | .nd p v => if i = 0 then .box 255 (.bool six :: ndCells T p v) else .box 253 (ndCells T p v)
  | .rt r => .box 117 (r.iv.map .im)
  | .pb p => .box 34 [.bool p.six, .int .u64 p.addr.hi, .int .u64 p.addr.lo, .int .i64 p.len]
def obs (six : Bool) (T : List Ent) : List AObj := T.mapIdx (Ent.ob six T)
@[simp] theorem obs_length (six : Bool) (T : List Ent) : (obs six T).length = T.length := by simp [obs]
theorem obs_get (six : Bool) (T : List Ent) (i : Nat) : (obs six T)[i]? = T[i]?.map (Ent.ob six T i) := by simp [obs]
@[simp] theorem obs_noSv (six : Bool) (T : List Ent) : (obs six T).all AObj.noSv = true := by
  rw [List.all_eq_true]
  intro x hx
  obtain ⟨i, hi, rfl⟩ := List.mem_iff_getElem.1 hx
  have h := obs_get six T i
  rw [List.getElem?_eq_getElem hi] at h
  have hi' : i < T.length := by simpa using hi
  rw [List.getElem?_eq_getElem hi'] at h
  rw [Option.some.inj h]
  cases T[i] <;> simp only [Ent.ob] <;> (try split) <;> rfl
structure WT (T : List Ent) : Prop where
  root : ∃ v, T[0]? = some (.nd [] v)
  uniq : ∀ {i j : Nat} {p : List Nat} {v v' : Option Nat}, T[i]? = some (.nd p v) → T[j]? = some (.nd p v') → i = j
  pre : ∀ {i : Nat} {p : List Nat} {b : Nat} {v : Option Nat}, T[i]? = some (.nd (p ++ [b]) v) → ∃ (j : Nat) (v' : Option Nat), T[j]? = some (.nd p v')
  val : ∀ {i : Nat} {p : List Nat} {j : Nat}, T[i]? = some (.nd p (some j)) → ∃ r, T[j]? = some (.rt r)
theorem ix_some {T : List Ent} {p : List Nat} {k : Nat} (h : ix T p = some k) : ∃ v, T[k]? = some (.nd p v) := by
  obtain ⟨hk, h1, _⟩ := List.findIdx?_eq_some_iff_getElem.1 h
  rw [List.getElem?_eq_getElem hk]
  generalize T[k] = e at *
  cases e <;> simp [Ent.isAt] at h1
  subst h1
  exact ⟨_, rfl⟩
theorem ix_none {T : List Ent} {p : List Nat} (h : ix T p = none) (k : Nat) (v : Option Nat) : T[k]? ≠ some (.nd p v) := by
  intro hk
  have := List.findIdx?_eq_none_iff.1 h _ (List.mem_of_getElem? hk)
  simp [Ent.isAt] at this
theorem WT.ix {T : List Ent} (h : WT T) {p : List Nat} {k : Nat} {v : Option Nat} (hk : T[k]? = some (.nd p v)) : ix T p = some k := by
  cases hi : Go.Am.ix T p with
  | none => exact absurd hk (ix_none hi k v)
  | some j =>
    obtain ⟨v', h1⟩ := ix_some hi
    rw [h.uniq h1 hk]
theorem get_push1 {α : Type} (l : List α) (x : α) (i : Nat) : (l ++ [x])[i]? = if i < l.length then l[i]? else if i = l.length then some x else none := by
  by_cases h : i < l.length
  · simp [h, List.getElem?_append]
  · rw [List.getElem?_append_right (by omega), if_neg h]
    by_cases h1 : i = l.length
    · simp [h1]
    · rw [if_neg h1, List.getElem?_eq_none]
      simp; omega
theorem WT.new {T : List Ent} (h : WT T) {p : List Nat} {b k : Nat} {v : Option Nat} (hk : T[k]? = some (.nd p v)) (hn : Go.Am.ix T (p ++ [b]) = none) : WT (T ++ [.nd (p ++ [b]) none]) := by
  have hg : ∀ {i : Nat} {q : List Nat} {v : Option Nat}, (T ++ [Ent.nd (p ++ [b]) none])[i]? = some (.nd q v) ↔ T[i]? = some (.nd q v) ∨ (i = T.length ∧ q = p ++ [b] ∧ v = none) := by
    intro i q v
    rw [get_push1]
    by_cases h1 : i < T.length
    · simp [h1]; omega
    · rw [if_neg h1, List.getElem?_eq_none (l := T) (by omega)]
      by_cases h2 : i = T.length
      · simp [h2, eq_comm]
      · simp [h2]
  refine ⟨?_, ?_, ?_, ?_⟩
  · obtain ⟨v, hv⟩ := h.root
    exact ⟨v, hg.2 (.inl hv)⟩
  · intro i j q v v' h1 h2
    rcases hg.1 h1 with h1 | ⟨h1, h3, h4⟩ <;> rcases hg.1 h2 with h2 | ⟨h2, h5, h6⟩
    · exact h.uniq h1 h2
    · subst h5; exact absurd h1 (ix_none hn i v)
    · subst h3; exact absurd h2 (ix_none hn j v')
    · omega
  · intro i q b' v h1
    rcases hg.1 h1 with h1 | ⟨h1, h3, h4⟩
    · obtain ⟨j, v', h2⟩ := h.pre h1
      exact ⟨j, v', hg.2 (.inl h2)⟩
    · obtain ⟨rfl, _⟩ := List.append_inj' h3 rfl
      exact ⟨k, _, hg.2 (.inl hk)⟩
  · intro i q j h1
    rcases hg.1 h1 with h1 | ⟨h1, h3, h4⟩
    · obtain ⟨r', h2⟩ := h.val h1
      refine ⟨r', ?_⟩
      rw [get_push1, if_pos (List.getElem?_eq_some_iff.1 h2).1]; exact h2
    · cases h4

theorem WT.set {T : List Ent} (h : WT T) {k : Nat} {p : List Nat} {v : Option Nat} {j : Nat} {r : Route} (hk : T[k]? = some (.nd p v)) (hj : T[j]? = some (.rt r)) : WT (T.set k (.nd p (some j))) := by
  have hlt := (List.getElem?_eq_some_iff.1 hk).1
  have hg : ∀ {i : Nat} {q : List Nat} {w : Option Nat}, (T.set k (.nd p (some j)))[i]? = some (.nd q w) → ∃ w', T[i]? = some (.nd q w') ∧ (w = w' ∨ w = some j) := by
    intro i q w h1
    rw [List.getElem?_set] at h1
    split at h1
    · rename_i h2; subst h2
      simp [hlt] at h1
      obtain ⟨rfl, rfl⟩ := h1
      exact ⟨v, hk, .inr rfl⟩
    · exact ⟨w, h1, .inl rfl⟩
  have hg2 : ∀ {i : Nat} {q : List Nat} {w : Option Nat}, T[i]? = some (.nd q w) → ∃ w', (T.set k (.nd p (some j)))[i]? = some (.nd q w') := by
    intro i q w h1
    rw [List.getElem?_set]
    split
    · rename_i h2; subst h2
      rw [hk] at h1
      cases h1
      exact ⟨some j, by simp [hlt]⟩
    · exact ⟨w, h1⟩
  have hg3 : ∀ {i : Nat} {r' : Route}, T[i]? = some (.rt r') → (T.set k (.nd p (some j)))[i]? = some (.rt r') := by
    intro i r' h1
    rw [List.getElem?_set]
    split
    · rename_i h2; subst h2; rw [hk] at h1; cases h1
    · exact h1
  refine ⟨?_, ?_, ?_, ?_⟩
  · obtain ⟨v, hv⟩ := h.root
    exact hg2 hv
  · intro i j q v v' h1 h2
    obtain ⟨_, h1, _⟩ := hg h1
    obtain ⟨_, h2, _⟩ := hg h2
    exact h.uniq h1 h2
  · intro i q b v h1
    obtain ⟨_, h1, _⟩ := hg h1
    obtain ⟨m, w, h2⟩ := h.pre h1
    obtain ⟨w', h3⟩ := hg2 h2
    exact ⟨m, w', h3⟩
  · intro i q m h1
    obtain ⟨w, h1, h2⟩ := hg h1
    rcases h2 with h2 | h2
    · subst h2
      obtain ⟨r', h3⟩ := h.val h1
      exact ⟨r', hg3 h3⟩
    · cases h2
      exact ⟨r, hg3 hj⟩

end Go.Am


set_option linter.unusedVariables false
set_option linter.unusedSimpArgs false
set_option pp.deepTerms false
set_option pp.deepTerms.threshold 40
namespace Go.Am
open Go.Proofs

theorem get_left {α : Type} {l l' : List α} {i : Nat} {x : α} (h : l[i]? = some x) : (l ++ l')[i]? = some x := by
  rw [List.getElem?_append_left (List.getElem?_eq_some_iff.1 h).1]; exact h
end Go.Am


set_option linter.unusedVariables false
set_option linter.unusedSimpArgs false
set_option pp.deepTerms false
set_option pp.deepTerms.threshold 40
namespace Go.Am
open Go.Proofs

structure Ext (U V : List Ent) : Prop where
  old : ∀ {i : Nat} {e : Ent}, U[i]? = some e → V[i]? = some e
  new : ∀ {i : Nat} {e : Ent}, U.length ≤ i → V[i]? = some e → ∀ q v, e = .nd q v → v = none
theorem Ext.refl (U : List Ent) : Ext U U := ⟨fun h => h, fun h1 h2 => by rw [List.getElem?_eq_none (by omega)] at h2; cases h2⟩
theorem Ext.trans {U V W : List Ent} (h1 : Ext U V) (h2 : Ext V W) : Ext U W := by
  refine ⟨fun h => h2.old (h1.old h), fun {i e} hi he => ?_⟩
  rcases Nat.lt_or_ge i V.length with h | h
  · have h3 := h2.old (List.getElem?_eq_getElem h)
    rw [he] at h3
    cases h3
    exact h1.new hi (List.getElem?_eq_getElem h)
  · exact h2.new h he
theorem Ext.push (U : List Ent) (q : List Nat) : Ext U (U ++ [.nd q none]) := by
  refine ⟨get_left, fun {i e} hi he => ?_⟩
  rw [get_push1, if_neg (by omega)] at he
  split at he
  · cases he
    intro q v e; cases e; rfl
  · cases he
theorem WT.one : WT [.nd [] none] := by
  refine ⟨⟨none, rfl⟩, ?_, ?_, ?_⟩
  · intro i j p v v' h1 h2
    have h3 := (List.getElem?_eq_some_iff.1 h1).1
    have h4 := (List.getElem?_eq_some_iff.1 h2).1
    simp at h3 h4; omega
  · intro i p b v h1
    have h3 := (List.getElem?_eq_some_iff.1 h1).1
    simp at h3
    subst h3
    simp at h1
  · intro i p j h1
    have h3 := (List.getElem?_eq_some_iff.1 h1).1
    simp at h3
    subst h3
    simp at h1
end Go.Am


set_option linter.unusedVariables false
set_option linter.unusedSimpArgs false
set_option pp.deepTerms false
set_option pp.deepTerms.threshold 40
namespace Go.Am
open Go.Proofs

theorem Ext.len {U V : List Ent} (h : Ext U V) : U.length ≤ V.length := by
  apply Classical.byContradiction
  intro hc
  have h1 := h.old (List.getElem?_eq_getElem (l := U) (show U.length - 1 < U.length by omega))
  have := (List.getElem?_eq_some_iff.1 h1).1
  omega
end Go.Am


set_option linter.unusedVariables false
set_option linter.unusedSimpArgs false
set_option pp.deepTerms false
set_option pp.deepTerms.threshold 40
namespace Go.Am
open Go.Proofs

def rcO : Option Route → List AV
  | none => [.bool false, .int .u64 0, .int .u64 0, .int .i64 0, .int .u8 0, .int .i64 0]
  | some r => r.iv.map .im
@[simp] theorem rcO_length (x : Option Route) : (rcO x).length = 6 := by cases x <;> rfl
@[simp] theorem rcO_take (x : Option Route) : (rcO x).take 6 = rcO x := by cases x <;> rfl
@[simp] theorem rcO_drop (x : Option Route) : (rcO x).drop 6 = [] := by cases x <;> rfl
end Go.Am


set_option linter.unusedVariables false
set_option linter.unusedSimpArgs false
set_option pp.deepTerms false
set_option pp.deepTerms.threshold 40
namespace Go.Am
open Go.Proofs

def sameBits (six : Bool) (a b : Addr4) (n : Nat) : Bool := (List.range n).all fun i => bitAt (wideN six) a.num i == bitAt (wideN six) b.num i
@[simp] theorem rcO_pure (x : Option Route) : AV.pureL (rcO x) = true := by cases x <;> rfl
end Go.Am


set_option linter.unusedVariables false
set_option linter.unusedSimpArgs false
set_option pp.deepTerms false
set_option pp.deepTerms.threshold 40
namespace Go.Am
open Go.Proofs

theorem cmpP_iff (p q : Pfx) : cmpP p q < 0 ↔ kindP p < kindP q ∨ kindP p = kindP q ∧ (p.addr.hi < q.addr.hi ∨ p.addr.hi = q.addr.hi ∧ (p.addr.lo < q.addr.lo ∨ p.addr.lo = q.addr.lo ∧ p.len < q.len)) := by
  simp only [cmpP, cmpA, orInt, cmpI]
  repeat' split
  all_goals omega
theorem checkRL_sorted : ∀ {l : List Route} {pv : Option Pfx}, checkRL l pv = 0 → (∀ r ∈ l, routeOk r = true) ∧ (∀ p, pv = some p → ∀ r ∈ l, cmpP p r.pfx < 0) ∧ l.Pairwise fun r s => cmpP r.pfx s.pfx < 0
  | [], pv, h => ⟨fun r hr => (by cases hr), fun p _ r hr => (by cases hr), List.Pairwise.nil⟩
  | r :: l, pv, h => by
    rw [checkRL] at h
    split at h
    · cases h
    · rename_i hc
      simp only [Bool.or_eq_true, Bool.not_eq_true', not_or, Bool.not_eq_false] at hc
      obtain ⟨h1, h2, h3⟩ := checkRL_sorted h
      refine ⟨fun s hs => ?_, fun p hp s hs => ?_, List.Pairwise.cons (fun s hs => h2 _ rfl s hs) h3⟩
      · rcases List.mem_cons.1 hs with rfl | hs
        · exact hc.1
        · exact h1 s hs
      · subst hp
        have h4 : cmpP p r.pfx < 0 := by simpa [aheadR] using hc.2
        rcases List.mem_cons.1 hs with rfl | hs
        · exact h4
        · have h5 := h2 _ rfl s hs
          rw [cmpP_iff] at h4 h5 ⊢
          omega
end Go.Am


set_option linter.unusedVariables false
set_option linter.unusedSimpArgs false
set_option pp.deepTerms false
set_option pp.deepTerms.threshold 40
namespace Go.Am
open Go.Proofs

theorem half_eq (lo hi : Nat) (h1 : lo ≤ 9223372036854775807) (h2 : hi ≤ 9223372036854775807) : IntKind.i64.wrap ((IntKind.u64.wrap (IntKind.i64.wrap ((lo : Int) + hi))).fdiv 2) = ((lo + hi) / 2 : Nat) := by
  have e : IntKind.u64.wrap (IntKind.i64.wrap ((lo : Int) + hi)) = (lo : Int) + hi := by
    simp [IntKind.wrap, IntKind.signed, IntKind.bits]
    omega
  rw [e, Int.fdiv_eq_ediv_of_nonneg _ (by omega), wrap64 (by omega) (by omega)]
  omega
/-- Where a first one that is not below stands. -/
def bsI {α : Type} (c : α → Int) : List α → Nat
  | [] => 0
  | x :: l => if c x < 0 then bsI c l + 1 else 0
def bsF {α : Type} (c : α → Int) (l : List α) : Bool := ((l[bsI c l]?).map fun x => decide (c x = 0)).getD false
theorem bsI_le {α : Type} (c : α → Int) : ∀ l : List α, bsI c l ≤ l.length
  | [] => Nat.le_refl _
  | x :: l => by
    rw [bsI]
    have := bsI_le c l
    split <;> simp <;> omega
theorem bsI_eq {α : Type} (c : α → Int) : ∀ (l : List α) (k : Nat), k ≤ l.length → (∀ i x, i < k → l[i]? = some x → c x < 0) → (∀ i x, k ≤ i → l[i]? = some x → ¬ c x < 0) → bsI c l = k
  | [], k, hk, _, _ => by simp at hk; rw [hk]; rfl
  | x :: l, 0, hk, h1, h2 => by
    rw [bsI, if_neg (h2 0 x (Nat.le_refl _) rfl)]
  | x :: l, k + 1, hk, h1, h2 => by
    rw [bsI, if_pos (h1 0 x (by omega) rfl), bsI_eq c l k (by simpa using hk) (fun i y hi hy => h1 (i + 1) y (by omega) (by simpa using hy)) (fun i y hi hy => h2 (i + 1) y (by omega) (by simpa using hy))]

def cmpL (n : Int) (x : Link) : Int := cmpI x.iface n
theorem cmpL_spec (x : Link) (n : Int) : FSpec Tryz.prog 233 [x.av, .int .i64 n] [] (.int .i64 (cmpL n x)) [] := by
  refine FSpec.of_flat (q := []) Tryz.func233 (by kernel_rfl) rfl Tryz.ntmps233 Tryz.results233 hP (by kernel_rfl) (by simp) (by first | rfl | simp) ?_
  simp
  first | refine CallK.same (cmpI_spec x.iface n) rfl rfl ?_ | refine CallQ.same (cmpI_spec x.iface n) rfl rfl ?_ | refine CallQG.same _ (cmpI_spec x.iface n) rfl ?_ | refine CallG.same _ (cmpI_spec x.iface n) rfl ?_ | refine CallK.pv (cmpI_spec x.iface n) rfl rfl ?_
  simp [cmpL]
def upL (c : Link → Int) (l : List Link) : Prop := ∀ (i j : Nat) (x y : Link), i ≤ j → l[i]? = some x → l[j]? = some y → (c y < 0 → c x < 0)
theorem bsL_spec (l : List Link) (n : Int) (hs : upL (cmpL n) l) :
    FSpec Tryz.prog 232 [.im (.sl 2 (l.map Link.iv)), .int .i64 n, .fn 233 []] [] (.tup [.int .i64 (bsI (cmpL n) l), .bool (bsF (cmpL n) l)]) [] := by
  refine FSpec.bd (enters_of Tryz.func232 (by kernel_rfl) rfl) fun hbd => ?_
  have hl : l.length ≤ 9223372036854775807 := by simp [maxLen] at hbd; omega
  refine FSpec.of_flat (q := []) Tryz.func232 (by kernel_rfl) rfl Tryz.ntmps232 Tryz.results232 hP (by kernel_rfl) (by simp) (by first | rfl | simp) ?_
  simp
  refine LoopK.plain (fun g : Nat × Nat => [(0, .im (.sl 2 (l.map Link.iv))), (1, .int .i64 n), (2, .fn 233 []), (8, .int .i64 l.length), (9, .int .i64 g.1), (10, .int .i64 g.2)])
    (fun g => g.1 ≤ g.2 ∧ g.2 ≤ l.length ∧ (∀ i x, i < g.1 → l[i]? = some x → cmpL n x < 0) ∧ (∀ i x, g.2 ≤ i → l[i]? = some x → 0 ≤ cmpL n x)) (fun g => g.2 - g.1) (0, l.length) ?_ ?_ ?_
  · exact ⟨Nat.zero_le _, Nat.le_refl _, fun i x hi => by omega, fun i x hi hx => by rw [List.getElem?_eq_none hi] at hx; cases hx⟩
  · simp
  rintro ⟨lo, hi⟩ ⟨h1, h2, h3, h4⟩
  simp only at h1 h2 h3 h4
  by_cases hlt : lo < hi
  · have hm := half_eq lo hi (by omega) (by omega)
    have hml : (lo + hi) / 2 < l.length := by omega
    obtain ⟨m, hmm⟩ : ∃ m, m = (lo + hi) / 2 := ⟨_, rfl⟩
    rw [← hmm] at hm hml
    have hg := List.getElem?_eq_getElem hml
    have hw1 : IntKind.i64.wrap (m + 1) = (m + 1 : Nat) := wrap64 (by omega) (by omega)
    simp [hlt, hm, hml, hg]
    generalize l[m] = x at *
    first | refine CallK.same (cmpL_spec x n) rfl rfl ?_ | refine CallQ.same (cmpL_spec x n) rfl rfl ?_ | refine CallQG.same _ (cmpL_spec x n) rfl ?_ | refine CallG.same _ (cmpL_spec x n) rfl ?_ | refine CallK.pv (cmpL_spec x n) rfl rfl ?_
    simp [hw1]
    refine ⟨fun hc => ?_, fun hc => ?_⟩
    · refine Again.plain (m + 1, hi) ⟨by omega, h2, fun i y hi' hy => ?_, h4⟩ (by simp only; omega) (by simp)
      exact hs i m y x (by omega) hy hg hc
    · refine Again.plain (lo, m) ⟨by omega, by omega, h3, fun i y hi' hy => ?_⟩ (by simp only; omega) (by simp)
      apply Classical.byContradiction
      intro hc'
      have := hs m i x y hi' hg hy (by omega)
      omega
  · have : lo = hi := by omega
    subst this
    have hb := bsI_eq (cmpL n) l lo h2 h3 (fun i x h5 h6 => by have := h4 i x h5 h6; omega)
    by_cases hll : lo < l.length
    · have hg := List.getElem?_eq_getElem hll
      simp [hll]
      generalize l[lo] = x at *
      first | refine CallK.same (cmpL_spec x n) rfl rfl ?_ | refine CallQ.same (cmpL_spec x n) rfl rfl ?_ | refine CallQG.same _ (cmpL_spec x n) rfl ?_ | refine CallG.same _ (cmpL_spec x n) rfl ?_ | refine CallK.pv (cmpL_spec x n) rfl rfl ?_
      simp [bsF, hb, hg]
      rfl
    · simp [hll, List.getElem?_eq_none (show l.length ≤ lo by omega)]
      refine CallG.off (.int .i64 0) ?_
      simp [bsF, hb, List.getElem?_eq_none (show l.length ≤ lo by omega)]
end Go.Am


set_option linter.unusedVariables false
set_option linter.unusedSimpArgs false
set_option pp.deepTerms false
set_option pp.deepTerms.threshold 40
namespace Go.Am
open Go.Proofs

theorem cmpL_neg (n : Int) (x : Link) : cmpL n x < 0 ↔ x.iface < n := by
  unfold cmpL cmpI
  repeat' split
  all_goals omega
theorem cmpL_zero (n : Int) (x : Link) : cmpL n x = 0 ↔ x.iface = n := by
  unfold cmpL cmpI
  repeat' split
  all_goals omega
theorem checkLL_sorted : ∀ {l : List Link} {ah : Int}, checkLL l ah = 0 → (∀ x ∈ l, ah < x.iface) ∧ l.Pairwise fun x y => x.iface < y.iface
  | [], ah, h => ⟨fun x hx => (by cases hx), List.Pairwise.nil⟩
  | x :: l, ah, h => by
    rw [checkLL] at h
    split at h
    · cases h
    · rename_i hc
      simp at hc
      obtain ⟨h1, h2⟩ := checkLL_sorted h
      refine ⟨fun y hy => ?_, List.Pairwise.cons h1 h2⟩
      rcases List.mem_cons.1 hy with rfl | hy
      · exact hc.2
      · have := h1 y hy; omega
theorem checkL_sorted {l : List Link} (h : checkL l = 0) : l.Pairwise fun x y => x.iface < y.iface := by
  unfold checkL at h
  split at h
  · cases h
  · exact (checkLL_sorted h).2
theorem findL_spec (l : List Link) (n : Int) (hs : upL (cmpL n) l) :
    FSpec Tryz.prog 202 [.im (.sl 2 (l.map Link.iv)), .int .i64 n] [] (.tup [.int .i64 (bsI (cmpL n) l), .bool (bsF (cmpL n) l)]) [] := by
  refine FSpec.of_flat (q := []) Tryz.func202 (by kernel_rfl) rfl Tryz.ntmps202 Tryz.results202 hP (by kernel_rfl) (by simp) (by first | rfl | simp) ?_
  simp
  first | refine CallK.same (bsL_spec l n hs) rfl rfl ?_ | refine CallQ.same (bsL_spec l n hs) rfl rfl ?_ | refine CallQG.same _ (bsL_spec l n hs) rfl ?_ | refine CallG.same _ (bsL_spec l n hs) rfl ?_ | refine CallK.pv (bsL_spec l n hs) rfl rfl ?_
  simp
theorem bsF_lt {α : Type} {c : α → Int} {l : List α} (h : bsF c l = true) : ∃ x, l[bsI c l]? = some x := by
  unfold bsF at h
  cases hx : l[bsI c l]? with
  | none => rw [hx] at h; cases h
  | some x => exact ⟨x, rfl⟩
end Go.Am


set_option linter.unusedVariables false
set_option linter.unusedSimpArgs false
set_option pp.deepTerms false
set_option pp.deepTerms.threshold 40
namespace Go.Am
open Go.Proofs

structure Hop where
  kind : Int
  peer : Int
@[simp] def Hop.av (h : Hop) : AV := .agg [.int .u8 h.kind, .int .i64 h.peer]
end Go.Am


set_option linter.unusedVariables false
set_option linter.unusedSimpArgs false
set_option pp.deepTerms false
set_option pp.deepTerms.threshold 40
namespace Go.Am
open Go.Proofs

def cmpT (n : Int) (x : Router) : Int := cmpI x.id n
theorem cmpT_spec (x : Router) (n : Int) : FSpec Tryz.prog 154 [x.av, .int .i64 n] [] (.int .i64 (cmpT n x)) [] := by
  refine FSpec.of_flat (q := []) Tryz.func154 (by kernel_rfl) rfl Tryz.ntmps154 Tryz.results154 hP (by kernel_rfl) (by simp) (by first | rfl | simp) ?_
  simp
  first | refine CallK.same (cmpI_spec x.id n) rfl rfl ?_ | refine CallQ.same (cmpI_spec x.id n) rfl rfl ?_ | refine CallQG.same _ (cmpI_spec x.id n) rfl ?_ | refine CallG.same _ (cmpI_spec x.id n) rfl ?_ | refine CallK.pv (cmpI_spec x.id n) rfl rfl ?_
  simp [cmpT]
def upT (c : Router → Int) (l : List Router) : Prop := ∀ (i j : Nat) (x y : Router), i ≤ j → l[i]? = some x → l[j]? = some y → (c y < 0 → c x < 0)
theorem bsT_spec (l : List Router) (n : Int) (hs : upT (cmpT n) l) :
    FSpec Tryz.prog 153 [.im (.sl 4 (l.map Router.iv)), .int .i64 n, .fn 154 []] [] (.tup [.int .i64 (bsI (cmpT n) l), .bool (bsF (cmpT n) l)]) [] := by
  refine FSpec.bd (enters_of Tryz.func153 (by kernel_rfl) rfl) fun hbd => ?_
  have hl : l.length ≤ 9223372036854775807 := by simp [maxLen] at hbd; omega
  refine FSpec.of_flat (q := []) Tryz.func153 (by kernel_rfl) rfl Tryz.ntmps153 Tryz.results153 hP (by kernel_rfl) (by simp) (by first | rfl | simp) ?_
  simp
  refine LoopK.plain (fun g : Nat × Nat => [(0, .im (.sl 4 (l.map Router.iv))), (1, .int .i64 n), (2, .fn 154 []), (8, .int .i64 l.length), (9, .int .i64 g.1), (10, .int .i64 g.2)])
    (fun g => g.1 ≤ g.2 ∧ g.2 ≤ l.length ∧ (∀ i x, i < g.1 → l[i]? = some x → cmpT n x < 0) ∧ (∀ i x, g.2 ≤ i → l[i]? = some x → 0 ≤ cmpT n x)) (fun g => g.2 - g.1) (0, l.length) ?_ ?_ ?_
  · exact ⟨Nat.zero_le _, Nat.le_refl _, fun i x hi => by omega, fun i x hi hx => by rw [List.getElem?_eq_none hi] at hx; cases hx⟩
  · simp
  rintro ⟨lo, hi⟩ ⟨h1, h2, h3, h4⟩
  simp only at h1 h2 h3 h4
  by_cases hlt : lo < hi
  · have hm := half_eq lo hi (by omega) (by omega)
    have hml : (lo + hi) / 2 < l.length := by omega
    obtain ⟨m, hmm⟩ : ∃ m, m = (lo + hi) / 2 := ⟨_, rfl⟩
    rw [← hmm] at hm hml
    have hg := List.getElem?_eq_getElem hml
    have hw1 : IntKind.i64.wrap (m + 1) = (m + 1 : Nat) := wrap64 (by omega) (by omega)
    simp [hlt, hm, hml, hg]
    generalize l[m] = x at *
    first | refine CallK.same (cmpT_spec x n) rfl rfl ?_ | refine CallQ.same (cmpT_spec x n) rfl rfl ?_ | refine CallQG.same _ (cmpT_spec x n) rfl ?_ | refine CallG.same _ (cmpT_spec x n) rfl ?_ | refine CallK.pv (cmpT_spec x n) rfl rfl ?_
    simp [hw1]
    refine ⟨fun hc => ?_, fun hc => ?_⟩
    · refine Again.plain (m + 1, hi) ⟨by omega, h2, fun i y hi' hy => ?_, h4⟩ (by simp only; omega) (by simp)
      exact hs i m y x (by omega) hy hg hc
    · refine Again.plain (lo, m) ⟨by omega, by omega, h3, fun i y hi' hy => ?_⟩ (by simp only; omega) (by simp)
      apply Classical.byContradiction
      intro hc'
      have := hs m i x y hi' hg hy (by omega)
      omega
  · have : lo = hi := by omega
    subst this
    have hb := bsI_eq (cmpT n) l lo h2 h3 (fun i x h5 h6 => by have := h4 i x h5 h6; omega)
    by_cases hll : lo < l.length
    · have hg := List.getElem?_eq_getElem hll
      simp [hll]
      generalize l[lo] = x at *
      first | refine CallK.same (cmpT_spec x n) rfl rfl ?_ | refine CallQ.same (cmpT_spec x n) rfl rfl ?_ | refine CallQG.same _ (cmpT_spec x n) rfl ?_ | refine CallG.same _ (cmpT_spec x n) rfl ?_ | refine CallK.pv (cmpT_spec x n) rfl rfl ?_
      simp [bsF, hb, hg]
      rfl
    · simp [hll, List.getElem?_eq_none (show l.length ≤ lo by omega)]
      refine CallG.off (.int .i64 0) ?_
      simp [bsF, hb, List.getElem?_eq_none (show l.length ≤ lo by omega)]
end Go.Am


set_option linter.unusedVariables false
set_option linter.unusedSimpArgs false
set_option pp.deepTerms false
set_option pp.deepTerms.threshold 40
namespace Go.Am
open Go.Proofs

theorem checkSL_sorted : ∀ {l : List Seat} {ah : Int}, checkSL l ah = 0 → (∀ x ∈ l, ah < x.router) ∧ l.Pairwise fun x y => x.router < y.router
  | [], ah, h => ⟨fun x hx => (by cases hx), List.Pairwise.nil⟩
  | x :: l, ah, h => by
    rw [checkSL] at h
    split at h
    · cases h
    · rename_i hc
      simp at hc
      obtain ⟨h1, h2⟩ := checkSL_sorted h
      refine ⟨fun y hy => ?_, List.Pairwise.cons h1 h2⟩
      rcases List.mem_cons.1 hy with rfl | hy
      · exact hc.2
      · have := h1 y hy; omega
theorem zipOk_map : ∀ {l : List Router} {t : List Seat}, zipOk l t = true → l.map Router.id = t.map Seat.router ∧ ∀ r ∈ l, routerOk r = true
  | [], [], _ => ⟨rfl, fun r hr => (by cases hr)⟩
  | r :: l, s :: t, h => by
    simp [zipOk] at h
    obtain ⟨⟨⟨h1, h2⟩, h3⟩, h4⟩ := h
    obtain ⟨g1, g2⟩ := zipOk_map h4
    refine ⟨by simp [h2, g1], fun x hx => ?_⟩
    rcases List.mem_cons.1 hx with rfl | hx
    · exact h1
    · exact g2 x hx
  | [], _ :: _, h => by simp [zipOk] at h
  | _ :: _, [], h => by simp [zipOk] at h
theorem netOk_routers {n : Net} (h : netOk n = true) : (n.routers.Pairwise fun x y => x.id < y.id) ∧ ∀ r ∈ n.routers, routerOk r = true := by
  unfold netOk at h
  simp only [Bool.and_eq_true, beq_iff_eq] at h
  obtain ⟨⟨⟨h1, h2⟩, h3⟩, h4⟩ := h
  obtain ⟨g1, g2⟩ := zipOk_map h3
  refine ⟨?_, g2⟩
  have : (n.seats.map Seat.router).Pairwise (· < ·) := by
    unfold checkS at h1
    split at h1
    · cases h1
    · rw [List.pairwise_map]; exact (checkSL_sorted h1).2
  rw [← g1, List.pairwise_map] at this
  exact this
theorem cmpT_neg (n : Int) (x : Router) : cmpT n x < 0 ↔ x.id < n := by
  unfold cmpT cmpI
  repeat' split
  all_goals omega
theorem cmpT_zero (n : Int) (x : Router) : cmpT n x = 0 ↔ x.id = n := by
  unfold cmpT cmpI
  repeat' split
  all_goals omega
theorem upT_of {l : List Router} (h : l.Pairwise fun x y => x.id < y.id) (n : Int) : upT (cmpT n) l := by
  intro i j x y hij hx hy hc
  rw [cmpT_neg] at hc ⊢
  rcases Nat.eq_or_lt_of_le hij with e | hlt
  · subst e; rw [hx] at hy; cases hy; exact hc
  · obtain ⟨hi, e1⟩ := List.getElem?_eq_some_iff.1 hx
    obtain ⟨hj, e2⟩ := List.getElem?_eq_some_iff.1 hy
    have := List.pairwise_iff_getElem.1 h i j hi hj hlt
    rw [e1, e2] at this
    omega
def routerF (l : List Router) (n : Int) : Option Router := l.find? fun x => decide (x.id = n)
theorem routerF_bs : ∀ {l : List Router} {n : Int}, (l.Pairwise fun x y => x.id < y.id) → routerF l n = if bsF (cmpT n) l then l[bsI (cmpT n) l]? else none
  | [], n, h => rfl
  | x :: l, n, h => by
    have ih := routerF_bs (n := n) (List.Pairwise.of_cons h)
    unfold routerF bsF at *
    rw [bsI, List.find?_cons]
    by_cases h1 : x.id < n
    · have e1 : cmpT n x < 0 := (cmpT_neg n x).2 h1
      have e2 : decide (x.id = n) = false := by simp; omega
      simp only [e1, if_true, e2, List.getElem?_cons_succ]
      exact ih
    · have e1 : ¬ cmpT n x < 0 := fun h => h1 ((cmpT_neg n x).1 h)
      simp only [e1, if_false, List.getElem?_cons_zero]
      by_cases h2 : x.id = n
      · have := (cmpT_zero n x).2 h2
        simp [h2, this]
      · have h3 : ¬ cmpT n x = 0 := fun h => h2 ((cmpT_zero n x).1 h)
        have hno : l.find? (fun x => decide (x.id = n)) = none := by
          rw [List.find?_eq_none]
          intro y hy
          have := List.rel_of_pairwise_cons h hy
          simp; omega
        simp [h2, h3, hno]
end Go.Am


set_option linter.unusedVariables false
set_option linter.unusedSimpArgs false
set_option pp.deepTerms false
set_option pp.deepTerms.threshold 40
namespace Go.Am
open Go.Proofs

theorem netOk_len {n : Net} (h : netOk n = true) : n.routers.length ≤ 64 := by
  unfold netOk at h
  simp only [Bool.and_eq_true, beq_iff_eq] at h
  have := checkS_len h.1.1.1
  omega
theorem modL {α : Type} : ∀ (A : List α) (x : α) (B : List α) (f : α → α), (A ++ x :: B).modify A.length f = A ++ f x :: B
  | [], x, B, f => rfl
  | a :: A, x, B, f => by
    have := modL A x B f
    simp only [List.cons_append, List.length_cons, List.modify_succ_cons]
    rw [this]
end Go.Am


set_option linter.unusedVariables false
set_option linter.unusedSimpArgs false
set_option pp.deepTerms false
set_option pp.deepTerms.threshold 40
namespace Go.Am
open Go.Proofs

structure Ev where
  kind : Int
  router : Int
  seq : Int
  time : Int
  pfx : Pfx
  act : Act
  iface : Int
  peer : Int
@[simp] def Ev.iv (e : Ev) : List IV := [.sc (.int .u8 e.kind), .sc (.int .i64 e.router), .sc (.int .u64 e.seq), .sc (.int .i64 e.time), .sc (.bool e.pfx.six), .sc (.int .u64 e.pfx.addr.hi), .sc (.int .u64 e.pfx.addr.lo), .sc (.int .i64 e.pfx.len), .sc (.int .u8 e.act.kind), .sc (.int .i64 e.act.iface), .sc (.int .i64 e.iface), .sc (.int .i64 e.peer)]
@[simp] def Ev.av (e : Ev) : AV := .agg (e.iv.map .im)
theorem same14_spec (l : List Seat) : FSpec Tryz.prog 64 [.im (.sl 4 (l.map Seat.iv)), .im (.sl 4 (l.map Seat.iv))] [] (.bool true) [] := by
  refine FSpec.bd (enters_of Tryz.func64 (by kernel_rfl) rfl) fun hbd => ?_
  have hl : l.length ≤ 9223372036854775807 := by simp [maxLen] at hbd; exact hbd
  refine FSpec.of_flat (q := [(6, .n 8)]) Tryz.func64 (by kernel_rfl) rfl Tryz.ntmps64 Tryz.results64 hP (by kernel_rfl) (by simp) (by first | rfl | simp) ?_
  simp
  refine LoopK.plain (fun k : Nat => [(0, .im (.sl 4 (l.map Seat.iv))), (1, .im (.sl 4 (l.map Seat.iv))), (12, .int .i64 l.length), (13, .int .i64 k)])
    (fun k => k ≤ l.length) (fun k => l.length - k) 0 (Nat.zero_le _) (by simp) ?_
  intro k hk
  by_cases hlt : k < l.length
  · have e1 : IntKind.i64.wrap (k + 1) = (k + 1 : Nat) := wrap64 (by omega) (by omega)
    simp [hlt, e1]
    refine Again.plain (k + 1) hlt (by omega) (by simp)
  · simp [hlt]
theorem same15_spec (l : List Route) : FSpec Tryz.prog 101 [.im (.sl 6 (l.map Route.iv)), .im (.sl 6 (l.map Route.iv))] [] (.bool true) [] := by
  refine FSpec.bd (enters_of Tryz.func101 (by kernel_rfl) rfl) fun hbd => ?_
  have hl : l.length ≤ 9223372036854775807 := by simp [maxLen] at hbd; exact hbd
  refine FSpec.of_flat (q := [(6, .n 8)]) Tryz.func101 (by kernel_rfl) rfl Tryz.ntmps101 Tryz.results101 hP (by kernel_rfl) (by simp) (by first | rfl | simp) ?_
  simp
  refine LoopK.plain (fun k : Nat => [(0, .im (.sl 6 (l.map Route.iv))), (1, .im (.sl 6 (l.map Route.iv))), (12, .int .i64 l.length), (13, .int .i64 k)])
    (fun k => k ≤ l.length) (fun k => l.length - k) 0 (Nat.zero_le _) (by simp) ?_
  intro k hk
  by_cases hlt : k < l.length
  · have e1 : IntKind.i64.wrap (k + 1) = (k + 1 : Nat) := wrap64 (by omega) (by omega)
    simp [hlt, e1]
    refine Again.plain (k + 1) hlt (by omega) (by simp)
  · simp [hlt]
theorem same16_spec (l : List Link) : FSpec Tryz.prog 102 [.im (.sl 2 (l.map Link.iv)), .im (.sl 2 (l.map Link.iv))] [] (.bool true) [] := by
  refine FSpec.bd (enters_of Tryz.func102 (by kernel_rfl) rfl) fun hbd => ?_
  have hl : l.length ≤ 9223372036854775807 := by simp [maxLen] at hbd; exact hbd
  refine FSpec.of_flat (q := [(6, .n 8)]) Tryz.func102 (by kernel_rfl) rfl Tryz.ntmps102 Tryz.results102 hP (by kernel_rfl) (by simp) (by first | rfl | simp) ?_
  simp
  refine LoopK.plain (fun k : Nat => [(0, .im (.sl 2 (l.map Link.iv))), (1, .im (.sl 2 (l.map Link.iv))), (12, .int .i64 l.length), (13, .int .i64 k)])
    (fun k => k ≤ l.length) (fun k => l.length - k) 0 (Nat.zero_le _) (by simp) ?_
  intro k hk
  by_cases hlt : k < l.length
  · have e1 : IntKind.i64.wrap (k + 1) = (k + 1 : Nat) := wrap64 (by omega) (by omega)
    simp [hlt, e1]
    refine Again.plain (k + 1) hlt (by omega) (by simp)
  · simp [hlt]
theorem same17_spec (r : Router) : FSpec Tryz.prog 65 [r.av, r.av] [] (.bool true) [] := by
  refine FSpec.of_flat (q := []) Tryz.func65 (by kernel_rfl) rfl Tryz.ntmps65 Tryz.results65 hP (by kernel_rfl) (by simp) (by first | rfl | simp) ?_
  simp
  first | refine CallK.same (same15_spec r.routes) rfl rfl ?_ | refine CallQ.same (same15_spec r.routes) rfl rfl ?_ | refine CallQG.same _ (same15_spec r.routes) rfl ?_ | refine CallG.same _ (same15_spec r.routes) rfl ?_ | refine CallK.pv (same15_spec r.routes) rfl rfl ?_
  simp
  first | refine CallK.same (same16_spec r.links) rfl rfl ?_ | refine CallQ.same (same16_spec r.links) rfl rfl ?_ | refine CallQG.same _ (same16_spec r.links) rfl ?_ | refine CallG.same _ (same16_spec r.links) rfl ?_ | refine CallK.pv (same16_spec r.links) rfl rfl ?_
  simp
theorem same18_spec (n : Net) : FSpec Tryz.prog 33 [n.av, n.av] [] (.bool true) [] := by
  refine FSpec.bd (enters_of Tryz.func33 (by kernel_rfl) rfl) fun hbd => ?_
  have hl : n.routers.length ≤ 9223372036854775807 := by simp [maxLen] at hbd; exact hbd.2.1
  refine FSpec.of_flat (q := [(6, .n 10)]) Tryz.func33 (by kernel_rfl) rfl Tryz.ntmps33 Tryz.results33 hP (by kernel_rfl) (by simp) (by first | rfl | simp) ?_
  simp
  first | refine CallK.same (same14_spec n.seats) rfl rfl ?_ | refine CallQ.same (same14_spec n.seats) rfl rfl ?_ | refine CallQG.same _ (same14_spec n.seats) rfl ?_ | refine CallG.same _ (same14_spec n.seats) rfl ?_ | refine CallK.pv (same14_spec n.seats) rfl rfl ?_
  simp
  refine LoopK.os (fun k : Nat => [(2, .ptr 0 0), (3, .ptr 1 0), (23, .int .i64 n.routers.length), (24, .int .i64 k)])
    (fun _ => [.box 25 [.im (.sl 4 (n.seats.map Seat.iv)), .im (.sl 4 (n.routers.map Router.iv))], .box 25 [.im (.sl 4 (n.seats.map Seat.iv)), .im (.sl 4 (n.routers.map Router.iv))]])
    (fun k => k ≤ n.routers.length) (fun k => n.routers.length - k) 0 [0, 1] (Nat.zero_le _) (by simp) ?_
  intro k hk
  by_cases hlt : k < n.routers.length
  · have e1 : IntKind.i64.wrap (k + 1) = (k + 1 : Nat) := wrap64 (by omega) (by omega)
    simp [hlt, e1]
    first | refine CallK.same (same17_spec n.routers[k]) rfl rfl ?_ | refine CallQ.same (same17_spec n.routers[k]) rfl rfl ?_ | refine CallQG.same _ (same17_spec n.routers[k]) rfl ?_ | refine CallG.same _ (same17_spec n.routers[k]) rfl ?_ | refine CallK.pv (same17_spec n.routers[k]) rfl rfl ?_
    simp [e1]
    refine Again.os (k + 1) [0, 1] hlt (by omega) (by simp)
  · simp [hlt]
end Go.Am


set_option linter.unusedVariables false
set_option linter.unusedSimpArgs false
set_option pp.deepTerms false
set_option pp.deepTerms.threshold 40
namespace Go.Am
open Go.Proofs

theorem idM_spec (n : Int) : FSpec Tryz.prog 235 [.int .i64 n] [] (.bool (idOk n)) [] := by
  refine FSpec.of_flat (q := []) Tryz.func235 (by kernel_rfl) rfl Tryz.ntmps235 Tryz.results235 hP (by kernel_rfl) (by simp) (by first | rfl | simp) ?_
  simp [idOk]
def headOk (e : Ev) : Bool := idOk e.router && decide (1 ≤ e.seq) && decide (e.seq ≤ 1099511627776) && decide (0 ≤ e.time) && decide (e.time ≤ 1099511627776)
def pfx0 (p : Pfx) : Bool := !p.six && p.addr.hi == 0 && p.addr.lo == 0 && p.len == 0
def act0 (a : Act) : Bool := a.kind == 0 && a.iface == 0
def tailOk (e : Ev) : Bool :=
  if e.kind = 1 ∨ e.kind = 2 then pfx0 e.pfx && act0 e.act && e.iface == 0 && e.peer == 0
  else if e.kind = 3 then checkP e.pfx == 0 && actOk e.act && e.iface == 0 && e.peer == 0
  else if e.kind = 4 then checkP e.pfx == 0 && act0 e.act && e.iface == 0 && e.peer == 0
  else if e.kind = 5 then ifaceOk e.iface && idOk e.peer && pfx0 e.pfx && act0 e.act
  else if e.kind = 6 then ifaceOk e.iface && e.peer == 0 && pfx0 e.pfx && act0 e.act
  else false
def evOk (e : Ev) : Bool := headOk e && tailOk e
theorem evOk_head {e : Ev} (h : headOk e = true) : evOk e = tailOk e := by simp [evOk, h]
theorem head_bad {e : Ev} (hs : 0 ≤ e.seq) (h : (((idOk e.router = false ∨ e.seq = 0) ∨ 1099511627776 < e.seq) ∨ e.time < 0) ∨ 1099511627776 < e.time) : evOk e = false := by
  have : headOk e = false := by
    unfold headOk
    rcases h with (((h | h) | h) | h) | h
    · simp [h]
    · simp [h]
    · simp [show ¬ e.seq ≤ 1099511627776 by omega]
    · simp [show ¬ 0 ≤ e.time by omega]
    · simp [show ¬ e.time ≤ 1099511627776 by omega]
  simp [evOk, this]
theorem head_good {e : Ev} (hs : 0 ≤ e.seq) (h1 : idOk e.router = true) (h2 : ¬ e.seq = 0) (h3 : e.seq ≤ 1099511627776) (h4 : 0 ≤ e.time) (h5 : e.time ≤ 1099511627776) : evOk e = tailOk e :=
  evOk_head (by unfold headOk; simp [h1, h3, h4, h5, show 1 ≤ e.seq by omega])
theorem kinds_of (k : Int) : k = 1 ∨ k = 2 ∨ k = 3 ∨ k = 4 ∨ k = 5 ∨ k = 6 ∨ (¬ k = 1 ∧ ¬ k = 2 ∧ ¬ k = 3 ∧ ¬ k = 4 ∧ ¬ k = 5 ∧ ¬ k = 6) := by omega
set_option maxRecDepth 8000 in
set_option maxHeartbeats 2000000 in
theorem evOk_spec (e : Ev) (hs : 0 ≤ e.seq) : FSpec Tryz.prog 207 [e.av] [] (.int .i64 (if evOk e then 0 else 2)) [] := by
  refine FSpec.of_flat (q := []) Tryz.func207 (by kernel_rfl) rfl Tryz.ntmps207 Tryz.results207 hP (by kernel_rfl) (by simp) (by first | rfl | simp) ?_
  simp -implicitDefEqProofs
  first | refine CallK.same (idM_spec e.router) rfl rfl ?_ | refine CallQ.same (idM_spec e.router) rfl rfl ?_ | refine CallQG.same _ (idM_spec e.router) rfl ?_ | refine CallG.same _ (idM_spec e.router) rfl ?_ | refine CallK.pv (idM_spec e.router) rfl rfl ?_
  rcases kinds_of e.kind with hk | hk | hk | hk | hk | hk | ⟨k1, k2, k3, k4, k5, k6⟩
  · simp -implicitDefEqProofs [hk]
    refine ⟨head_bad hs, fun h1 h2 h3 h4 h5 => ?_⟩
    rw [head_good hs h1 h2 h3 h4 h5]
    have ht : tailOk e = (pfx0 e.pfx && act0 e.act && e.iface == 0 && e.peer == 0) := by simp [tailOk, hk]
    rw [ht]
    refine ⟨fun h => ?_, fun a b c d f g i j => ?_⟩
    · unfold pfx0 act0
      grind
    · simp [pfx0, act0, *]
  · simp -implicitDefEqProofs [hk]
    refine ⟨head_bad hs, fun h1 h2 h3 h4 h5 => ?_⟩
    rw [head_good hs h1 h2 h3 h4 h5]
    have ht : tailOk e = (pfx0 e.pfx && act0 e.act && e.iface == 0 && e.peer == 0) := by simp [tailOk, hk]
    rw [ht]
    refine ⟨fun h => ?_, fun a b c d f g i j => ?_⟩
    · unfold pfx0 act0
      grind
    · simp [pfx0, act0, *]
  · simp -implicitDefEqProofs [hk]
    refine ⟨head_bad hs, fun h1 h2 h3 h4 h5 => ?_⟩
    have he := head_good hs h1 h2 h3 h4 h5
    have ht : tailOk e = (checkP e.pfx == 0 && actOk e.act && e.iface == 0 && e.peer == 0) := by simp [tailOk, hk]
    rw [ht] at he
    first | refine CallK.same (actOk_spec e.act) rfl rfl ?_ | refine CallQ.same (actOk_spec e.act) rfl rfl ?_ | refine CallQG.same _ (actOk_spec e.act) rfl ?_ | refine CallG.same _ (actOk_spec e.act) rfl ?_ | refine CallK.pv (actOk_spec e.act) rfl rfl ?_
    simp -implicitDefEqProofs
    first | refine CallK.same (checkP_spec e.pfx) rfl rfl ?_ | refine CallQ.same (checkP_spec e.pfx) rfl rfl ?_ | refine CallQG.same _ (checkP_spec e.pfx) rfl ?_ | refine CallG.same _ (checkP_spec e.pfx) rfl ?_ | refine CallK.pv (checkP_spec e.pfx) rfl rfl ?_
    simp -implicitDefEqProofs [he]
    generalize checkP e.pfx = c
    generalize actOk e.act = ao
    try simp only [pfx0, act0]
    grind
  · simp -implicitDefEqProofs [hk]
    refine ⟨head_bad hs, fun h1 h2 h3 h4 h5 => ?_⟩
    have he := head_good hs h1 h2 h3 h4 h5
    have ht : tailOk e = (checkP e.pfx == 0 && act0 e.act && e.iface == 0 && e.peer == 0) := by simp [tailOk, hk]
    rw [ht] at he
    first | refine CallK.same (checkP_spec e.pfx) rfl rfl ?_ | refine CallQ.same (checkP_spec e.pfx) rfl rfl ?_ | refine CallQG.same _ (checkP_spec e.pfx) rfl ?_ | refine CallG.same _ (checkP_spec e.pfx) rfl ?_ | refine CallK.pv (checkP_spec e.pfx) rfl rfl ?_
    simp -implicitDefEqProofs [he]
    generalize checkP e.pfx = c
    try simp only [pfx0, act0]
    grind
  · simp -implicitDefEqProofs [hk]
    refine ⟨head_bad hs, fun h1 h2 h3 h4 h5 => ?_⟩
    have he := head_good hs h1 h2 h3 h4 h5
    have ht : tailOk e = (ifaceOk e.iface && idOk e.peer && pfx0 e.pfx && act0 e.act) := by simp [tailOk, hk]
    rw [ht] at he
    first | refine CallK.same (idM_spec e.peer) rfl rfl ?_ | refine CallQ.same (idM_spec e.peer) rfl rfl ?_ | refine CallQG.same _ (idM_spec e.peer) rfl ?_ | refine CallG.same _ (idM_spec e.peer) rfl ?_ | refine CallK.pv (idM_spec e.peer) rfl rfl ?_
    simp -implicitDefEqProofs
    first | refine CallK.same (ifaceOk_spec e.iface) rfl rfl ?_ | refine CallQ.same (ifaceOk_spec e.iface) rfl rfl ?_ | refine CallQG.same _ (ifaceOk_spec e.iface) rfl ?_ | refine CallG.same _ (ifaceOk_spec e.iface) rfl ?_ | refine CallK.pv (ifaceOk_spec e.iface) rfl rfl ?_
    simp -implicitDefEqProofs [he]
    try simp only [pfx0, act0]
    grind
  · simp -implicitDefEqProofs [hk]
    refine ⟨head_bad hs, fun h1 h2 h3 h4 h5 => ?_⟩
    have he := head_good hs h1 h2 h3 h4 h5
    have ht : tailOk e = (ifaceOk e.iface && e.peer == 0 && pfx0 e.pfx && act0 e.act) := by simp [tailOk, hk]
    rw [ht] at he
    first | refine CallK.same (ifaceOk_spec e.iface) rfl rfl ?_ | refine CallQ.same (ifaceOk_spec e.iface) rfl rfl ?_ | refine CallQG.same _ (ifaceOk_spec e.iface) rfl ?_ | refine CallG.same _ (ifaceOk_spec e.iface) rfl ?_ | refine CallK.pv (ifaceOk_spec e.iface) rfl rfl ?_
    simp -implicitDefEqProofs [he]
    try simp only [pfx0, act0]
    grind
  · simp -implicitDefEqProofs [k1, k2, k3, k4, k5, k6]
    refine ⟨head_bad hs, fun h1 h2 h3 h4 h5 => ?_⟩
    have ht : tailOk e = false := by simp [tailOk, k1, k2, k3, k4, k5, k6]
    simp [head_good hs h1 h2 h3 h4 h5, ht]
end Go.Am


set_option linter.unusedVariables false
set_option linter.unusedSimpArgs false
set_option pp.deepTerms false
set_option pp.deepTerms.threshold 40
namespace Go.Am
open Go.Proofs

def seatF : List Seat → Int → Option Seat
  | [], _ => none
  | s :: l, r => if s.router = r then some s else seatF l r
def seatI : List Seat → Int → Int → Int
  | [], _, _ => -1
  | s :: l, r, k => if s.router = r then k else seatI l r (k + 1)
theorem seatI_F : ∀ (l : List Seat) (r k : Int), 0 ≤ k → (seatF l r = none ∧ seatI l r k = -1) ∨ ∃ (i : Nat) (s : Seat), l[i]? = some s ∧ seatF l r = some s ∧ seatI l r k = k + i
  | [], r, k, _ => .inl ⟨rfl, rfl⟩
  | x :: l, r, k, hk => by
    rw [seatF, seatI]
    by_cases h : x.router = r
    · rw [if_pos h, if_pos h]
      exact .inr ⟨0, x, rfl, rfl, by simp⟩
    · rw [if_neg h, if_neg h]
      rcases seatI_F l r (k + 1) (by omega) with h | ⟨i, s, h1, h2, h3⟩
      · exact .inl h
      · exact .inr ⟨i + 1, s, by simpa using h1, h2, by rw [h3]; omega⟩
def seat0 : Seat := ⟨0, 0, 0, false⟩
theorem find1_spec (s : Seat) (r : Int) : FSpec Tryz.prog 251 [s.av, .ptr 0 0] [.box 3 [.int .i64 r]] (.bool (s.router == r)) [.box 3 [.int .i64 r]] := by
  refine FSpec.of_o (q := []) Tryz.func251 (by kernel_rfl) rfl Tryz.ntmps251 Tryz.results251 hP (by kernel_rfl) (by simp) (by first | rfl | simp) ?_
  simp
  refine EndO.ret [] [0] _ rfl ?_
  simp
theorem indexF_spec (l : List Seat) (r : Int) (hl : l.length ≤ 9223372036854775807) :
    FSpec Tryz.prog 125 [.im (.sl 4 (l.map Seat.iv)), .fn 251 [.ptr 0 0]] [.box 3 [.int .i64 r]] (.int .i64 (seatI l r 0)) [.box 3 [.int .i64 r]] := by
  refine FSpec.of_o (q := []) Tryz.func125 (by kernel_rfl) rfl Tryz.ntmps125 Tryz.results125 hP (by kernel_rfl) (by simp) (by first | rfl | simp) ?_
  simp
  refine LoopK.os (fun k : Nat => [(0, .im (.sl 4 (l.map Seat.iv))), (1, .fn 251 [.ptr 0 0]), (7, .int .i64 l.length), (8, .int .i64 k)])
    (fun _ => [.box 3 [.int .i64 r]])
    (fun k => k ≤ l.length ∧ seatI (l.drop k) r k = seatI l r 0) (fun k => l.length - k) 0 [0] ⟨Nat.zero_le _, by simp⟩ (by simp) ?_
  rintro k ⟨hk, hR⟩
  by_cases hlt : k < l.length
  · have e1 : IntKind.i64.wrap (k + 1) = (k + 1 : Nat) := wrap64 (by omega) (by omega)
    rw [List.drop_eq_getElem_cons hlt, seatI] at hR
    simp -implicitDefEqProofs [hlt, e1]
    refine CallO.mk [] [0] (find1_spec l[k] r) (by simp) rfl (by simp) (by simp) (by simp) ?_
    simp -implicitDefEqProofs
    refine ⟨fun h => ?_, fun h => ?_⟩
    · rw [if_pos h] at hR
      refine EndO.ret [] [0] _ rfl ?_
      simp [← hR]
    · rw [if_neg h] at hR
      refine Again.os (k + 1) [0] ⟨hlt, by simpa using hR⟩ (by omega) ?_
      simp [e1]
  · have hkk : k = l.length := by omega
    subst hkk
    rw [List.drop_length, seatI] at hR
    simp
    refine EndO.ret [] [0] _ rfl ?_
    simp [← hR]
theorem findO_spec (l : List Seat) (r : Int) : FSpec Tryz.prog 234 [.im (.sl 4 (l.map Seat.iv)), .int .i64 r] [] (.tup [((seatF l r).getD seat0).av, .bool (seatF l r).isSome]) [] := by
  refine FSpec.bd (enters_of Tryz.func234 (by kernel_rfl) rfl) fun hbd => ?_
  have hl : l.length ≤ 9223372036854775807 := by simp [maxLen] at hbd; exact hbd
  refine FSpec.of_z (q := []) Tryz.func234 (by kernel_rfl) rfl Tryz.ntmps234 Tryz.results234 hP (by kernel_rfl) (by simp) (by first | rfl | simp) ?_
  simp
  refine CallO.mk [] [0] (indexF_spec l r hl) (by simp) rfl (by simp) (by simp) (by simp) ?_
  simp
  rcases seatI_F l r 0 (Int.le_refl _) with ⟨h1, h2⟩ | ⟨i, s, h1, h2, h3⟩
  · simp [h2]
    refine EndZ.ret [] (.tup [seat0.av, .bool false]) (by simp [seat0]) ?_
    simp [h1]
  · have hlt := (List.getElem?_eq_some_iff.1 h1).1
    have hg := (List.getElem?_eq_some_iff.1 h1).2
    rw [Int.zero_add] at h3
    simp [h3, h1, hlt, hg]
    refine ⟨fun h => by omega, ?_⟩
    refine EndZ.ret [] (.tup [s.av, .bool true]) (by simp) ?_
    simp [h2]
end Go.Am


set_option linter.unusedVariables false
set_option linter.unusedSimpArgs false
set_option pp.deepTerms false
set_option pp.deepTerms.threshold 40
namespace Go.Am
open Go.Proofs

def mayS (l : List Seat) (e : Ev) (hz : Int) : Int :=
  if ¬ checkS l = 0 ∨ evOk e = false then 2
  else if hz < -1 ∨ 1099511627776 < hz then 1
  else if seatF l e.router = none ∧ ¬ e.kind = 1 then 14
  else if ¬ e.seq = ((seatF l e.router).getD seat0).seq + 1 then 12
  else if e.time < ((seatF l e.router).getD seat0).time ∨ e.time ≤ hz then 13
  else if ((seatF l e.router).getD seat0).up = decide (e.kind = 1) then 10
  else if seatF l e.router = none ∧ l.length = 64 then 8
  else 0
def mayT (l : List Seat) (e : Ev) (hz : Int) : Int :=
  if seatF l e.router = none ∧ ¬ e.kind = 1 then 14
  else if ¬ e.seq = ((seatF l e.router).getD seat0).seq + 1 then 12
  else if e.time < ((seatF l e.router).getD seat0).time ∨ e.time ≤ hz then 13
  else if ((seatF l e.router).getD seat0).up = decide (e.kind = 1) then 10
  else if seatF l e.router = none ∧ l.length = 64 then 8
  else 0
theorem mayS_T {l : List Seat} {e : Ev} {hz : Int} (a1 : checkS l = 0) (a2 : evOk e = true) (a3 : -1 ≤ hz) (a4 : hz ≤ 1099511627776) : mayS l e hz = mayT l e hz := by
  unfold mayS
  rw [if_neg (by simp [a1, a2]), if_neg (by omega)]
  rfl
theorem wrapU6 {x : Int} (h0 : 0 ≤ x) (h1 : x ≤ 18446744073709551615) : IntKind.u64.wrap x = x := by
  simp [IntKind.wrap, IntKind.signed, IntKind.bits]
  omega
theorem checkSL_mem : ∀ {l : List Seat} {a : Int}, checkSL l a = 0 → ∀ s ∈ l, rightS s = true
  | [], _, _, s, h => by cases h
  | x :: l, a, hc, s, h => by
    rw [checkSL] at hc
    split at hc
    · omega
    · rename_i hx
      simp at hx
      rcases List.mem_cons.1 h with rfl | h
      · exact hx.1
      · exact checkSL_mem hc s h
theorem checkS_mem {l : List Seat} (hc : checkS l = 0) : ∀ s ∈ l, rightS s = true := by
  unfold checkS at hc
  split at hc
  · omega
  · exact checkSL_mem hc
theorem seatF_mem : ∀ {l : List Seat} {r : Int} {s : Seat}, seatF l r = some s → s ∈ l ∧ s.router = r
  | [], _, _, h => by cases h
  | x :: l, r, s, h => by
    rw [seatF] at h
    split at h
    · cases h; exact ⟨List.mem_cons_self, by assumption⟩
    · have := seatF_mem h
      exact ⟨List.mem_cons_of_mem _ this.1, this.2⟩
theorem seat_seq {l : List Seat} (hc : checkS l = 0) (r : Int) : 0 ≤ ((seatF l r).getD seat0).seq ∧ ((seatF l r).getD seat0).seq ≤ 1099511627776 := by
  cases h : seatF l r with
  | none => simp [seat0]
  | some s =>
    have := checkS_mem hc s (seatF_mem h).1
    unfold rightS at this
    simp at this
    simp
    omega
theorem evOk_seq {e : Ev} (h : evOk e = true) : 1 ≤ e.seq ∧ e.seq ≤ 1099511627776 := by
  unfold evOk headOk at h
  simp at h
  omega
theorem asked_spec (l : List Seat) (e : Ev) (hz : Int) (hsq : 0 ≤ e.seq) :
    FSpec Tryz.prog 205 [.im (.sl 4 (l.map Seat.iv)), e.av, .int .i64 hz] [] (.int .i64 (if ¬ checkS l = 0 ∨ evOk e = false then 2 else if hz < -1 ∨ 1099511627776 < hz then 1 else 0)) [] := by
  have hc := checkS_spec l
  have he := evOk_spec e hsq
  refine FSpec.of_flat (q := []) Tryz.func205 (by kernel_rfl) rfl Tryz.ntmps205 Tryz.results205 hP (by kernel_rfl) (by simp) (by first | rfl | simp) ?_
  simp -implicitDefEqProofs
  first | refine CallK.same (hc) rfl rfl ?_ | refine CallQ.same (hc) rfl rfl ?_ | refine CallQG.same _ (hc) rfl ?_ | refine CallG.same _ (hc) rfl ?_ | refine CallK.pv (hc) rfl rfl ?_
  simp -implicitDefEqProofs
  first | refine CallK.same (he) rfl rfl ?_ | refine CallQ.same (he) rfl rfl ?_ | refine CallQG.same _ (he) rfl ?_ | refine CallG.same _ (he) rfl ?_ | refine CallK.pv (he) rfl rfl ?_
  simp -implicitDefEqProofs
  grind
set_option maxRecDepth 8000 in
set_option maxHeartbeats 2000000 in
theorem fits_spec (l : List Seat) (e : Ev) (hz : Int) (a1 : checkS l = 0) (a2 : evOk e = true) :
    FSpec Tryz.prog 206 [.im (.sl 4 (l.map Seat.iv)), e.av, .int .i64 hz] [] (.int .i64 (mayT l e hz)) [] := by
  have hf := findO_spec l e.router
  refine FSpec.of_flat (q := []) Tryz.func206 (by kernel_rfl) rfl Tryz.ntmps206 Tryz.results206 hP (by kernel_rfl) (by simp) (by first | rfl | simp) ?_
  simp -implicitDefEqProofs
  first | refine CallK.same (hf) rfl rfl ?_ | refine CallQ.same (hf) rfl rfl ?_ | refine CallQG.same _ (hf) rfl ?_ | refine CallG.same _ (hf) rfl ?_ | refine CallK.pv (hf) rfl rfl ?_
  simp -implicitDefEqProofs
  have hq := seat_seq a1 e.router
  have hes := evOk_seq a2
  have hlen := checkS_len a1
  rw [wrapU6 (by omega) (by omega)]
  unfold mayT
  generalize hS : ((seatF l e.router).getD seat0) = S at *
  have hl : (64 ≤ (l.length : Int)) = (l.length = 64) := by apply propext; omega
  have hl2 : ((l.length : Int) < 64) = ¬ (l.length = 64) := by apply propext; omega
  have hsq : (e.seq - 1 = S.seq) = (e.seq = S.seq + 1) := by apply propext; omega
  rw [hl, hl2, hsq]
  grind
theorem mayO_spec (l : List Seat) (e : Ev) (hz : Int) (hsq : 0 ≤ e.seq) :
    FSpec Tryz.prog 162 [.im (.sl 4 (l.map Seat.iv)), e.av, .int .i64 hz] [] (.int .i64 (mayS l e hz)) [] := by
  have ha := asked_spec l e hz hsq
  refine FSpec.of_flat (q := []) Tryz.func162 (by kernel_rfl) rfl Tryz.ntmps162 Tryz.results162 hP (by kernel_rfl) (by simp) (by first | rfl | simp) ?_
  simp -implicitDefEqProofs
  first | refine CallK.same (ha) rfl rfl ?_ | refine CallQ.same (ha) rfl rfl ?_ | refine CallQG.same _ (ha) rfl ?_ | refine CallG.same _ (ha) rfl ?_ | refine CallK.pv (ha) rfl rfl ?_
  simp -implicitDefEqProofs
  by_cases A : ¬ checkS l = 0 ∨ evOk e = false
  · have hm : mayS l e hz = 2 := by unfold mayS; rw [if_pos A]
    simp [A, hm]
  · by_cases B : hz < -1 ∨ 1099511627776 < hz
    · have hm : mayS l e hz = 1 := by unfold mayS; rw [if_neg A, if_pos B]
      simp [A, B, hm]
    · have a1 : checkS l = 0 := by grind
      have a2 : evOk e = true := by grind
      rw [if_neg A, if_neg B]
      simp -implicitDefEqProofs
      have hfit := fits_spec l e hz a1 a2
      rw [← mayS_T a1 a2 (by omega) (by omega)] at hfit
      first | refine CallK.same (hfit) rfl rfl ?_ | refine CallQ.same (hfit) rfl rfl ?_ | refine CallQG.same _ (hfit) rfl ?_ | refine CallG.same _ (hfit) rfl ?_ | refine CallK.pv (hfit) rfl rfl ?_
      simp -implicitDefEqProofs
end Go.Am


set_option linter.unusedVariables false
set_option linter.unusedSimpArgs false
set_option pp.deepTerms false
set_option pp.deepTerms.threshold 40
namespace Go.Am
open Go.Proofs

def seatOf (e : Ev) : Seat := ⟨e.router, e.seq, e.time, e.kind != 2⟩
def putSeat (l : List Seat) (s : Seat) : List Seat := l.filter (fun x => decide (x.router < s.router)) ++ [s] ++ l.filter (fun x => decide (s.router < x.router))
def nextS (l : List Seat) (e : Ev) (hz : Int) : List Seat × Int :=
  if mayS l e hz = 2 ∨ mayS l e hz = 1 then ([], mayS l e hz) else if ¬ mayS l e hz = 0 then (l, mayS l e hz) else (putSeat l (seatOf e), 0)
theorem filter_take {α : Type} (p : α → Bool) (l : List α) (k : Nat) (h : k < l.length) : (l.take (k + 1)).filter p = if p l[k] then (l.take k).filter p ++ [l[k]] else (l.take k).filter p := by
  rw [List.take_add_one, List.getElem?_eq_getElem h, List.filter_append]
  simp only [Option.toList_some]
  cases hp : p l[k] <;> simp [hp]
end Go.Am


set_option linter.unusedVariables false
set_option linter.unusedSimpArgs false
set_option pp.deepTerms false
set_option pp.deepTerms.threshold 40
namespace Go.Am
open Go.Proofs

def ltL (i : Int) (l : List Link) : List Link := l.filter fun x => decide (x.iface < i)
def eqL (i : Int) (l : List Link) : List Link := l.filter fun x => decide (x.iface = i)
def gtL (i : Int) (l : List Link) : List Link := l.filter fun x => decide (i < x.iface)
end Go.Am


set_option linter.unusedVariables false
set_option linter.unusedSimpArgs false
set_option pp.deepTerms false
set_option pp.deepTerms.threshold 40
namespace Go.Am
open Go.Proofs

def putLk (l : List Link) (x : Link) : List Link × Int :=
  if ¬ checkL l = 0 ∨ rightL x = false then ([], 2) else if eqL x.iface l = [] ∧ l.length = 32 then (l, 8) else (ltL x.iface l ++ [x] ++ gtL x.iface l, 0)
def delLk (l : List Link) (i : Int) : List Link × Int :=
  if ¬ checkL l = 0 then ([], 2) else (ltL i l ++ gtL i l, if eqL i l = [] then 3 else 0)
end Go.Am


set_option linter.unusedVariables false
set_option linter.unusedSimpArgs false
set_option pp.deepTerms false
set_option pp.deepTerms.threshold 40
namespace Go.Am
open Go.Proofs

def sameP (p q : Pfx) : Bool := (p.six == q.six) && (p.addr.hi == q.addr.hi) && (p.addr.lo == q.addr.lo) && (p.len == q.len)
def woR (p : Pfx) (l : List Route) : List Route := l.filter fun r => !sameP r.pfx p
def ltR (p : Pfx) (l : List Route) : List Route := l.filter fun r => decide (cmpP r.pfx p < 0)
def gtR (p : Pfx) (l : List Route) : List Route := l.filter fun r => decide (cmpP p r.pfx < 0)
theorem woR_len (p : Pfx) (l : List Route) : (woR p l).length ≤ l.length := List.length_filter_le _ _
theorem sameP_iff (p q : Pfx) : sameP p q = true ↔ p.six = q.six ∧ p.addr.hi = q.addr.hi ∧ p.addr.lo = q.addr.lo ∧ p.len = q.len := by
  unfold sameP; simp [and_assoc]
def putRt (l : List Route) (x : Route) : List Route × Int :=
  if ¬ checkR l = 0 ∨ routeOk x = false then ([], 2)
  else if (woR x.pfx l).length = 256 then (l, 8)
  else (ltR x.pfx (woR x.pfx l) ++ [x] ++ gtR x.pfx (woR x.pfx l), 0)
def findW (p : Pfx) : List Route → Option Route
  | [] => none
  | r :: l => if sameP r.pfx p then some r else findW p l
def findRt (l : List Route) (p : Pfx) : Int := if ¬ checkR l = 0 ∨ ¬ checkP p = 0 then 2 else if (findW p l).isSome then 0 else 3
end Go.Am


set_option linter.unusedVariables false
set_option linter.unusedSimpArgs false
set_option pp.deepTerms false
set_option pp.deepTerms.threshold 40
namespace Go.Am
open Go.Proofs

def delRt (l : List Route) (p : Pfx) : List Route × Int := if findRt l p = 2 then ([], 2) else (woR p l, findRt l p)
end Go.Am


set_option linter.unusedVariables false
set_option linter.unusedSimpArgs false
set_option pp.deepTerms false
set_option pp.deepTerms.threshold 40
namespace Go.Am
open Go.Proofs

def router0 : Router := ⟨0, false, [], []⟩
def applyR (r : Router) (e : Ev) : Router × Int :=
  if routerOk r = false ∨ evOk e = false then (router0, 2)
  else if ¬ e.router = r.id then (r, 14)
  else if r.up = (e.kind == 1) then (r, 10)
  else if e.kind = 1 then (⟨r.id, true, r.routes, r.links⟩, 0)
  else if e.kind = 2 then (⟨r.id, false, [], []⟩, 0)
  else if e.kind = 3 then (if (putRt r.routes ⟨e.pfx, e.act⟩).2 = 0 then (⟨r.id, r.up, (putRt r.routes ⟨e.pfx, e.act⟩).1, r.links⟩, 0) else (r, (putRt r.routes ⟨e.pfx, e.act⟩).2))
  else if e.kind = 4 then (⟨r.id, r.up, (delRt r.routes e.pfx).1, r.links⟩, 0)
  else if e.kind = 5 then (if (putLk r.links ⟨e.iface, e.peer⟩).2 = 0 then (⟨r.id, r.up, r.routes, (putLk r.links ⟨e.iface, e.peer⟩).1⟩, 0) else (r, (putLk r.links ⟨e.iface, e.peer⟩).2))
  else (⟨r.id, r.up, r.routes, (delLk r.links e.iface).1⟩, 0)
theorem evOk_kind {e : Ev} (h : evOk e = true) : e.kind = 1 ∨ e.kind = 2 ∨ e.kind = 3 ∨ e.kind = 4 ∨ e.kind = 5 ∨ e.kind = 6 := by
  rcases kinds_of e.kind with h1 | h1 | h1 | h1 | h1 | h1 | ⟨k1, k2, k3, k4, k5, k6⟩
  all_goals first | (simp [h1]; done) | skip
  have : tailOk e = false := by simp [tailOk, k1, k2, k3, k4, k5, k6]
  simp [evOk, this] at h
theorem routerOk_len {r : Router} (h : routerOk r = true) : r.routes.length ≤ 256 ∧ r.links.length ≤ 32 := by
  unfold routerOk at h
  simp only [Bool.and_eq_true, beq_iff_eq] at h
  exact ⟨checkR_len h.1.2, checkL_len h.2⟩
end Go.Am


set_option linter.unusedVariables false
set_option linter.unusedSimpArgs false
set_option pp.deepTerms false
set_option pp.deepTerms.threshold 40
namespace Go.Am
open Go.Proofs

end Go.Am


set_option linter.unusedVariables false
set_option linter.unusedSimpArgs false
set_option pp.deepTerms false
set_option pp.deepTerms.threshold 40
namespace Go.Am
open Go.Proofs

def mineN (n : Net) (e : Ev) : Router := match routerF n.routers e.router with
  | some r => r
  | none => ⟨if idOk e.router then e.router else 0, false, [], []⟩
def afterN (n : Net) (e : Ev) (hz : Int) (mine : Router) (s : Seat) : Router := if s.router = e.router then mine else (routerF n.routers s.router).getD ⟨0, false, [], []⟩
def netAfter (n : Net) (e : Ev) (hz : Int) : Net := ⟨(nextS n.seats e hz).1, (nextS n.seats e hz).1.map (afterN n e hz (applyR (mineN n e) e).1)⟩
def happensF (n : Net) (e : Ev) (hz : Int) : Net × Int :=
  if ¬ mayS n.seats e hz = 0 then (n, mayS n.seats e hz)
  else if ¬ (applyR (mineN n e) e).2 = 0 then (n, (applyR (mineN n e) e).2)
  else if 1024 < many (netAfter n e hz).routers 0 then (n, 8)
  else (netAfter n e hz, 0)
def rowsA (n : Net) (e : Ev) (hz : Int) (mine : Router) (l : List Seat) : List (List IV) := (l.map (afterN n e hz mine)).map Router.iv
@[simp] theorem rowsA_len (n : Net) (e : Ev) (hz : Int) (mine : Router) (l : List Seat) : (rowsA n e hz mine l).length = l.length := by simp [rowsA]
end Go.Am


set_option linter.unusedVariables false
set_option linter.unusedSimpArgs false
set_option pp.deepTerms false
set_option pp.deepTerms.threshold 40
namespace Go.Am
open Go.Proofs

def applyN (n : Net) (e : Ev) (hz : Int) : Net × Int :=
  if netOk n = false then (⟨[], []⟩, 2)
  else if (happensF n e hz).2 = 2 ∨ (happensF n e hz).2 = 1 then (⟨[], []⟩, (happensF n e hz).2)
  else happensF n e hz
theorem netOk_seats {n : Net} (h : netOk n = true) : n.seats.length ≤ 64 := by
  unfold netOk at h
  simp only [Bool.and_eq_true, beq_iff_eq] at h
  exact checkS_len h.1.1.1
end Go.Am


set_option linter.unusedVariables false
set_option linter.unusedSimpArgs false
set_option pp.deepTerms false
set_option pp.deepTerms.threshold 40
namespace Go.Am
open Go.Proofs

def allGo (hz : Int) : List Ev → Net → Int → Net × Int × Int
  | [], n, i => (n, i, 0)
  | e :: l, n, i => if (happensF n e hz).2 = 0 then allGo hz l (happensF n e hz).1 (i + 1) else (n, i, (happensF n e hz).2)
def allN (n : Net) (l : List Ev) (hz : Int) : Net × Int × Int := if netOk n = false then (⟨[], []⟩, 0, 2) else allGo hz l n 0
end Go.Am


set_option linter.unusedVariables false
set_option linter.unusedSimpArgs false
set_option pp.deepTerms false
set_option pp.deepTerms.threshold 40
namespace Go.Am
open Go.Proofs

structure Past where
  base : Net
  hz : Int
  evs : List Ev
@[simp] def Past.av (p : Past) : AV := .agg [.im (.sl 4 (p.base.seats.map Seat.iv)), .im (.sl 4 (p.base.routers.map Router.iv)), .int .i64 p.hz, .im (.sl 12 (p.evs.map Ev.iv))]
theorem many_bd : ∀ (l : List Router) (n : Int), (∀ r ∈ l, routerOk r = true) → 0 ≤ n → n + 288 * l.length ≤ 1000000000 → n ≤ many l n ∧ many l n ≤ n + 288 * l.length
  | [], n, _, _, _ => by simp [many]
  | r :: l, n, h, h0, hb => by
    obtain ⟨h1, h2⟩ := routerOk_len (h r List.mem_cons_self)
    simp only [List.length_cons] at hb
    have e1 : IntKind.i64.wrap ((r.routes.length : Int) + r.links.length) = (r.routes.length : Int) + r.links.length := wrap64 (by omega) (by omega)
    have e2 : IntKind.i64.wrap (n + ((r.routes.length : Int) + r.links.length)) = n + ((r.routes.length : Int) + r.links.length) := wrap64 (by omega) (by omega)
    rw [many, e1, e2]
    have := many_bd l (n + ((r.routes.length : Int) + r.links.length)) (fun x hx => h x (List.mem_cons_of_mem _ hx)) (by omega) (by omega)
    simp only [List.length_cons]
    omega
def sizeN (n : Net) : Int := if netOk n then many n.routers 0 else 0
theorem sizeN_bd (n : Net) : 0 ≤ sizeN n ∧ sizeN n ≤ 1000000 := by
  unfold sizeN
  split
  · rename_i h
    have h1 := netOk_len h
    have := many_bd n.routers 0 (netOk_routers h).2 (Int.le_refl _) (by omega)
    omega
  · omega
def addsE (l : List Ev) : Nat := l.countP fun e => e.kind == 3 || e.kind == 5
theorem addsE_take (l : List Ev) (k : Nat) (h : k < l.length) : addsE (l.take (k + 1)) = addsE (l.take k) + if l[k].kind = 3 ∨ l[k].kind = 5 then 1 else 0 := by
  unfold addsE
  rw [List.take_add_one, List.getElem?_eq_getElem h, List.countP_append]
  simp only [Option.toList_some, List.countP_cons, List.countP_nil, Bool.or_eq_true, beq_iff_eq]
  omega
theorem addsE_len (l : List Ev) : addsE l ≤ l.length := List.countP_le_length
def weightF (p : Past) : Int := sizeN p.base + addsE p.evs
end Go.Am


set_option linter.unusedVariables false
set_option linter.unusedSimpArgs false
set_option pp.deepTerms false
set_option pp.deepTerms.threshold 40
namespace Go.Am
open Go.Proofs

def upto (t : Int) (l : List Ev) : List Ev := l.filter fun e => decide (e.time ≤ t)
theorem upto_len (t : Int) (l : List Ev) : (upto t l).length ≤ l.length := List.length_filter_le _ _
theorem upto_take (t : Int) (l : List Ev) (k : Nat) (h : k < l.length) : upto t (l.take (k + 1)) = if l[k].time ≤ t then upto t (l.take k) ++ [l[k]] else upto t (l.take k) := by
  unfold upto; rw [filter_take _ _ _ h]; simp
theorem upto_nil (t : Int) : upto t [] = [] := rfl
def thenF (p : Past) (t : Int) : Net := (allN p.base (upto t p.evs) p.hz).1
end Go.Am


set_option linter.unusedVariables false
set_option linter.unusedSimpArgs false
set_option pp.deepTerms false
set_option pp.deepTerms.threshold 40
namespace Go.Am
open Go.Proofs

theorem CallX.ov {P : Go.Program} {f : FuncId} {fn : Go.Func} {tS tR e0 : TypeId} {size : Nat} (F : OvF P f fn tS tR e0 size) {d : Option Nat} {k : St → Prop} {fr : List (Nat × AV)} {o : List (Nat × AObj)} {nx s : Nat} {g : Option Bool} {m1 n k0 lo len : Nat} {e1 : TypeId} {k1 : Nat} {ys : List (List IV)} {e : TypeId} {l c : Nat} {xs : List (List IV)}
    (h1 : look o m1 = some (.row e1 k1 ys)) (h2 : look o n = some (.rowP e k0 l c xs)) (h3 : m1 ≠ n) (h4 : ys ≠ []) (h5 : xs ≠ []) (h6 : 0 < k0) (h7 : lo < c) (hk : k (St.put ⟨fr, o, nx, s, g⟩ d (.bool false))) : CallX P f [.row m1, .sub n k0 lo len] d k ⟨fr, o, nx, s, g⟩ :=
  ⟨[], .inr (.inr (.inr (.inl ⟨m1, n, k0, lo, len, e1, k1, ys, e, l, c, xs, rfl, h1, h2, h3, h4, h5, h6, h7, ⟨_, _, _, _, _, F⟩, hk⟩)))⟩
theorem FSpec.nilArg {P : Go.Program} {f : FuncId} {k : Nat} {r : AV} {outs : List AObj} (h : ∀ A c, FSpec P f [.im (.sc (.slice A 0 c))] [] r outs) : FSpec P f [.im (.sl k [])] [] r outs := by
  refine ⟨(h none 0).1, fun m w Y vs hO hY hsz hvs => ?_⟩
  obtain ⟨l⟩ := vs
  match l, hsz with
  | [v], _ =>
    have hv := hvs 0 _ v rfl rfl
    cases hv with | im hv =>
    generalize hx : ([] : List (List IV)) = xs at hv
    cases hv with | @sl _ _ A cap u ad hcap hmax hA hk hc h1c hr =>
    subst hx
    refine (h A cap).2 m w Y _ hO hY rfl fun j y u' hy hu => ?_
    match j with
    | 0 => cases hy; cases hu; exact .im .sc
    | j + 1 => simp at hy
theorem del_eq {α : Type} (xs : List α) (i r : Nat) (h : i + 1 + r = xs.length) (Z D : List α) : ((xs.take i ++ (xs.drop (i + 1) ++ D)).take (i + r) ++ Z).take (i + r) = xs.take i ++ xs.drop (i + 1) ∧ i + r ≤ ((xs.take i ++ (xs.drop (i + 1) ++ D)).take (i + r) ++ Z).length := by
  have h1 : (xs.take i).length = i := by simp; omega
  have h2 : (xs.drop (i + 1)).length = r := by simp; omega
  have e1 : (xs.take i ++ (xs.drop (i + 1) ++ D)).take (i + r) = xs.take i ++ xs.drop (i + 1) := by
    rw [← List.append_assoc, List.take_left' (by simp; omega)]
  rw [e1]
  refine ⟨List.take_left' (by simp; omega), by simp; omega⟩
theorem ins_eq {α : Type} (xs D : List α) (x : α) (i r : Nat) (hi : i + r = xs.length) (hD : D.length ≤ r) : (xs.take i ++ x :: D).take (i + 1) ++ ((xs.drop i).take r ++ (xs.take i ++ x :: D).drop (i + 1 + r)) = xs.take i ++ x :: xs.drop i := by
  have h1 : (xs.take i).length = i := by simp; omega
  have e1 : (xs.take i ++ x :: D).take (i + 1) = xs.take i ++ [x] := by
    rw [List.take_append, h1, List.take_of_length_le (by omega)]
    simp
  have e2 : (xs.take i ++ x :: D).drop (i + 1 + r) = [] := List.drop_eq_nil_of_le (by simp; omega)
  have e3 : (xs.drop i).take r = xs.drop i := List.take_of_length_le (by simp; omega)
  rw [e1, e2, e3]
  simp
theorem ovSeat : OvF Tryz.prog 260 Tryz.f260 22 4 65 4 :=
  ⟨Tryz.func260, by kernel_rfl, by kernel_rfl, by kernel_rfl, by kernel_rfl, Tryz.underlying22, by kernel_rfl⟩
set_option maxRecDepth 8000 in
set_option maxHeartbeats 1000000 in
theorem insSeat_spec (xs : List (List IV)) (x : List IV) (i : Nat) (hi : i ≤ xs.length) (hl : xs.length ≤ 4096) :
    FSpec Tryz.prog 247 [.row 0, .int .i64 i, .row 1] [.row 65 4 xs, .row 65 4 [x]] (.row 2) [.gone, .row 65 4 [x], .row 65 4 (xs.take i ++ x :: xs.drop i)] := by
  have e1 : IntKind.i64.wrap ((xs.length : Int) + 1) = (xs.length + 1 : Nat) := wrap64 (by omega) (by omega)
  have e2 : IntKind.i64.wrap ((i : Int) + 1) = (i + 1 : Nat) := wrap64 (by omega) (by omega)
  have e3 : IntKind.i64.wrap (((xs.length + 1 : Nat) : Int) - (i : Int)) = (xs.length + 1 - i : Nat) := by rw [wrap64 (by omega) (by omega)]; omega
  by_cases h : i = xs.length
  · subst h
    refine FSpec.of_o (q := [(11, .n 8), (15, .n 8)]) Tryz.func247 (by kernel_rfl) rfl Tryz.ntmps247 Tryz.results247 hP (by kernel_rfl) (by simp) (by first | rfl | simp) ?_
    simp -implicitDefEqProofs
    refine ⟨⟨by omega, by unfold maxLen; omega⟩, ?_⟩
    refine EndO.ret [] [0, 1, 2] (.row 2) (by simp) (by simp)
  · have hlt : i < xs.length := by omega
    refine FSpec.openP (i := 0) (enters_of Tryz.func247 (by kernel_rfl) rfl) rfl fun c hc hcm => ?_
    simp only [List.set_cons_zero]
    have hne : xs ≠ [] := by intro e; subst e; simp at hlt
    refine FSpec.of_o (q := [(11, .n 8), (15, .n 8)]) Tryz.func247 (by kernel_rfl) rfl Tryz.ntmps247 Tryz.results247 hP (by kernel_rfl) (by simp) (by first | rfl | simp) ?_
    have e1' : IntKind.i64.wrap ((xs.length : Int) + 1) = (xs.length : Int) + 1 := wrap64 (by omega) (by omega)
    have e2' : IntKind.i64.wrap ((i : Int) + 1) = (i : Int) + 1 := wrap64 (by omega) (by omega)
    have hii : ¬ (i : Int) = xs.length := by omega
    obtain ⟨q, hq⟩ : ∃ q, q = xs.length + 1 - i := ⟨_, rfl⟩
    have e3' : IntKind.i64.wrap ((xs.length : Int) + 1 - i) = (q : Int) := by rw [wrap64 (by omega) (by omega)]; omega
    have hmx : max (q : Int) 0 = q := by omega
    have hq2 : ((i : Int) + (q : Int)).toNat = i + q := by omega
    have hmin : min 1 q = 1 := by omega
    have hq0 : 0 < q := by omega
    have hmaxl : i + q ≤ maxLen := by unfold maxLen; omega
    have hby : (i + q) * 32 ≤ 140737488355328 := by omega
    rcases Nat.lt_or_ge c (xs.length + 1) with hcc | hcc
    · have hcc1 : (c : Int) < (xs.length : Int) + 1 := by omega
      have hcc2 : c < i + q := by omega
      simp -implicitDefEqProofs [h, hi, e1', e2', e3', hmx, hq2, hmin, hq0, hmaxl, hby, hc, hcc1, hcc2, hii]
      repeat refine ⟨by omega, ?_⟩
      have hA : ((i : Int) + (((i + q - (i + 1) : Nat) : Int) + 1)).toNat - (i + 1) = xs.length - i := by omega
      have hC : i + 1 + (xs.length - i) ≤ i + (i + q - (i + 1) + 1) := by omega
      simp -implicitDefEqProofs only [hA, hC, if_true]
      simp -implicitDefEqProofs
      refine EndO.ret [] [0, 1, 2] (.row 2) (by simp) ?_
      have hI := fun Z : List IV => ins_eq xs ((xs.take i ++ List.replicate q Z).drop (i + 1)) x i (xs.length - i) (by omega) (by simp; omega)
      simp -implicitDefEqProofs [List.take_take]
      exact hI _
    · have hcc1 : ¬ (c : Int) < (xs.length : Int) + 1 := by omega
      simp -implicitDefEqProofs [h, hi, e1', e2', e3', hmx, hq2, hmin, hq0, hmaxl, hby, hc, hcc, hcc1, hii]
      refine .inr ⟨⟨by omega, by omega⟩, by omega, ?_⟩
      refine CallX.ov ovSeat rfl rfl (by omega) (by simp) hne (by omega) (by omega) ?_
      have hF : ¬ i + (xs.length + 1 - i) ≤ xs.length := by omega
      have hG : min (xs.length + 1 - i) (xs.length - i) = xs.length - i := by omega
      have hG2 : i + (xs.length - i) ≤ xs.length := by omega
      have hT : (xs.drop i).take (xs.length - i) = xs.drop i := List.take_of_length_le (by simp)
      have hlt' : i + 1 ≤ xs.length := hlt
      simp -implicitDefEqProofs [h, hi, e1', e2', e3', hmx, hq2, hmin, hq0, hmaxl, hby, hc, hcc, hcc1, hii, hF, hG, hG2, hT, hlt']
      repeat refine ⟨by omega, ?_⟩
      have hm1 : min 1 (xs.length + 1 - i) = 1 := by omega
      have hd : xs.drop (i + 1 + (xs.length - i)) = [] := List.drop_eq_nil_of_le (by omega)
      have k1 : (xs.take (i + 1) ++ xs.drop i).take i = xs.take i := by
        rw [List.take_append_of_le_length (by simp; omega), List.take_take, Nat.min_eq_left (by omega)]
      have k2 : (xs.take (i + 1) ++ xs.drop i).drop (i + 1) = xs.drop i := List.drop_left' (by simp; omega)
      have k3 : (xs.take i ++ x :: xs.drop i).length = xs.length + 1 := by simp; omega
      refine EndO.ret [] [0, 1, 2] (.row 2) (by simp) ?_
      simp -implicitDefEqProofs only [hm1, hd, List.append_nil, List.take_succ_cons, List.take_zero, k1, k2, List.cons_append, List.nil_append]
      have k4 : xs.length + 1 ≤ (xs.take i ++ x :: xs.drop i).length := by omega
      have k5 : (xs.take i ++ x :: xs.drop i).take (xs.length + 1) = xs.take i ++ x :: xs.drop i := List.take_of_length_le (by omega)
      generalize xs.take i ++ x :: xs.drop i = R at *
      simp -implicitDefEqProofs [k4, k5]
theorem ovRouter : OvF Tryz.prog 209 Tryz.f209 23 4 85 4 :=
  ⟨Tryz.func209, by kernel_rfl, by kernel_rfl, by kernel_rfl, by kernel_rfl, Tryz.underlying23, by kernel_rfl⟩
set_option maxRecDepth 8000 in
set_option maxHeartbeats 1000000 in
theorem insRouter_spec (xs : List (List IV)) (x : List IV) (i : Nat) (hi : i ≤ xs.length) (hl : xs.length ≤ 4096) :
    FSpec Tryz.prog 164 [.row 0, .int .i64 i, .row 1] [.row 85 4 xs, .row 85 4 [x]] (.row 2) [.gone, .row 85 4 [x], .row 85 4 (xs.take i ++ x :: xs.drop i)] := by
  have e1 : IntKind.i64.wrap ((xs.length : Int) + 1) = (xs.length + 1 : Nat) := wrap64 (by omega) (by omega)
  have e2 : IntKind.i64.wrap ((i : Int) + 1) = (i + 1 : Nat) := wrap64 (by omega) (by omega)
  have e3 : IntKind.i64.wrap (((xs.length + 1 : Nat) : Int) - (i : Int)) = (xs.length + 1 - i : Nat) := by rw [wrap64 (by omega) (by omega)]; omega
  by_cases h : i = xs.length
  · subst h
    refine FSpec.of_o (q := [(11, .n 8), (15, .n 8)]) Tryz.func164 (by kernel_rfl) rfl Tryz.ntmps164 Tryz.results164 hP (by kernel_rfl) (by simp) (by first | rfl | simp) ?_
    simp -implicitDefEqProofs
    refine ⟨⟨by omega, by unfold maxLen; omega⟩, ?_⟩
    refine EndO.ret [] [0, 1, 2] (.row 2) (by simp) (by simp)
  · have hlt : i < xs.length := by omega
    refine FSpec.openP (i := 0) (enters_of Tryz.func164 (by kernel_rfl) rfl) rfl fun c hc hcm => ?_
    simp only [List.set_cons_zero]
    have hne : xs ≠ [] := by intro e; subst e; simp at hlt
    refine FSpec.of_o (q := [(11, .n 8), (15, .n 8)]) Tryz.func164 (by kernel_rfl) rfl Tryz.ntmps164 Tryz.results164 hP (by kernel_rfl) (by simp) (by first | rfl | simp) ?_
    have e1' : IntKind.i64.wrap ((xs.length : Int) + 1) = (xs.length : Int) + 1 := wrap64 (by omega) (by omega)
    have e2' : IntKind.i64.wrap ((i : Int) + 1) = (i : Int) + 1 := wrap64 (by omega) (by omega)
    have hii : ¬ (i : Int) = xs.length := by omega
    obtain ⟨q, hq⟩ : ∃ q, q = xs.length + 1 - i := ⟨_, rfl⟩
    have e3' : IntKind.i64.wrap ((xs.length : Int) + 1 - i) = (q : Int) := by rw [wrap64 (by omega) (by omega)]; omega
    have hmx : max (q : Int) 0 = q := by omega
    have hq2 : ((i : Int) + (q : Int)).toNat = i + q := by omega
    have hmin : min 1 q = 1 := by omega
    have hq0 : 0 < q := by omega
    have hmaxl : i + q ≤ maxLen := by unfold maxLen; omega
    have hby : (i + q) * 64 ≤ 140737488355328 := by omega
    rcases Nat.lt_or_ge c (xs.length + 1) with hcc | hcc
    · have hcc1 : (c : Int) < (xs.length : Int) + 1 := by omega
      have hcc2 : c < i + q := by omega
      simp -implicitDefEqProofs [h, hi, e1', e2', e3', hmx, hq2, hmin, hq0, hmaxl, hby, hc, hcc1, hcc2, hii]
      repeat refine ⟨by omega, ?_⟩
      have hA : ((i : Int) + (((i + q - (i + 1) : Nat) : Int) + 1)).toNat - (i + 1) = xs.length - i := by omega
      have hC : i + 1 + (xs.length - i) ≤ i + (i + q - (i + 1) + 1) := by omega
      simp -implicitDefEqProofs only [hA, hC, if_true]
      simp -implicitDefEqProofs
      refine EndO.ret [] [0, 1, 2] (.row 2) (by simp) ?_
      have hI := fun Z : List IV => ins_eq xs ((xs.take i ++ List.replicate q Z).drop (i + 1)) x i (xs.length - i) (by omega) (by simp; omega)
      simp -implicitDefEqProofs [List.take_take]
      exact hI _
    · have hcc1 : ¬ (c : Int) < (xs.length : Int) + 1 := by omega
      simp -implicitDefEqProofs [h, hi, e1', e2', e3', hmx, hq2, hmin, hq0, hmaxl, hby, hc, hcc, hcc1, hii]
      refine .inr ⟨⟨by omega, by omega⟩, by omega, ?_⟩
      refine CallX.ov ovRouter rfl rfl (by omega) (by simp) hne (by omega) (by omega) ?_
      have hF : ¬ i + (xs.length + 1 - i) ≤ xs.length := by omega
      have hG : min (xs.length + 1 - i) (xs.length - i) = xs.length - i := by omega
      have hG2 : i + (xs.length - i) ≤ xs.length := by omega
      have hT : (xs.drop i).take (xs.length - i) = xs.drop i := List.take_of_length_le (by simp)
      have hlt' : i + 1 ≤ xs.length := hlt
      simp -implicitDefEqProofs [h, hi, e1', e2', e3', hmx, hq2, hmin, hq0, hmaxl, hby, hc, hcc, hcc1, hii, hF, hG, hG2, hT, hlt']
      repeat refine ⟨by omega, ?_⟩
      have hm1 : min 1 (xs.length + 1 - i) = 1 := by omega
      have hd : xs.drop (i + 1 + (xs.length - i)) = [] := List.drop_eq_nil_of_le (by omega)
      have k1 : (xs.take (i + 1) ++ xs.drop i).take i = xs.take i := by
        rw [List.take_append_of_le_length (by simp; omega), List.take_take, Nat.min_eq_left (by omega)]
      have k2 : (xs.take (i + 1) ++ xs.drop i).drop (i + 1) = xs.drop i := List.drop_left' (by simp; omega)
      have k3 : (xs.take i ++ x :: xs.drop i).length = xs.length + 1 := by simp; omega
      refine EndO.ret [] [0, 1, 2] (.row 2) (by simp) ?_
      simp -implicitDefEqProofs only [hm1, hd, List.append_nil, List.take_succ_cons, List.take_zero, k1, k2, List.cons_append, List.nil_append]
      have k4 : xs.length + 1 ≤ (xs.take i ++ x :: xs.drop i).length := by omega
      have k5 : (xs.take i ++ x :: xs.drop i).take (xs.length + 1) = xs.take i ++ x :: xs.drop i := List.take_of_length_le (by omega)
      generalize xs.take i ++ x :: xs.drop i = R at *
      simp -implicitDefEqProofs [k4, k5]
theorem ovRoute : OvF Tryz.prog 263 Tryz.f263 82 4 117 6 :=
  ⟨Tryz.func263, by kernel_rfl, by kernel_rfl, by kernel_rfl, by kernel_rfl, Tryz.underlying82, by kernel_rfl⟩
set_option maxRecDepth 8000 in
set_option maxHeartbeats 1000000 in
theorem insRoute_spec (xs : List (List IV)) (x : List IV) (i : Nat) (hi : i ≤ xs.length) (hl : xs.length ≤ 4096) :
    FSpec Tryz.prog 254 [.row 0, .int .i64 i, .row 1] [.row 117 6 xs, .row 117 6 [x]] (.row 2) [.gone, .row 117 6 [x], .row 117 6 (xs.take i ++ x :: xs.drop i)] := by
  have e1 : IntKind.i64.wrap ((xs.length : Int) + 1) = (xs.length + 1 : Nat) := wrap64 (by omega) (by omega)
  have e2 : IntKind.i64.wrap ((i : Int) + 1) = (i + 1 : Nat) := wrap64 (by omega) (by omega)
  have e3 : IntKind.i64.wrap (((xs.length + 1 : Nat) : Int) - (i : Int)) = (xs.length + 1 - i : Nat) := by rw [wrap64 (by omega) (by omega)]; omega
  by_cases h : i = xs.length
  · subst h
    refine FSpec.of_o (q := [(11, .n 8), (15, .n 8)]) Tryz.func254 (by kernel_rfl) rfl Tryz.ntmps254 Tryz.results254 hP (by kernel_rfl) (by simp) (by first | rfl | simp) ?_
    simp -implicitDefEqProofs
    refine ⟨⟨by omega, by unfold maxLen; omega⟩, ?_⟩
    refine EndO.ret [] [0, 1, 2] (.row 2) (by simp) (by simp)
  · have hlt : i < xs.length := by omega
    refine FSpec.openP (i := 0) (enters_of Tryz.func254 (by kernel_rfl) rfl) rfl fun c hc hcm => ?_
    simp only [List.set_cons_zero]
    have hne : xs ≠ [] := by intro e; subst e; simp at hlt
    refine FSpec.of_o (q := [(11, .n 8), (15, .n 8)]) Tryz.func254 (by kernel_rfl) rfl Tryz.ntmps254 Tryz.results254 hP (by kernel_rfl) (by simp) (by first | rfl | simp) ?_
    have e1' : IntKind.i64.wrap ((xs.length : Int) + 1) = (xs.length : Int) + 1 := wrap64 (by omega) (by omega)
    have e2' : IntKind.i64.wrap ((i : Int) + 1) = (i : Int) + 1 := wrap64 (by omega) (by omega)
    have hii : ¬ (i : Int) = xs.length := by omega
    obtain ⟨q, hq⟩ : ∃ q, q = xs.length + 1 - i := ⟨_, rfl⟩
    have e3' : IntKind.i64.wrap ((xs.length : Int) + 1 - i) = (q : Int) := by rw [wrap64 (by omega) (by omega)]; omega
    have hmx : max (q : Int) 0 = q := by omega
    have hq2 : ((i : Int) + (q : Int)).toNat = i + q := by omega
    have hmin : min 1 q = 1 := by omega
    have hq0 : 0 < q := by omega
    have hmaxl : i + q ≤ maxLen := by unfold maxLen; omega
    have hby : (i + q) * 64 ≤ 140737488355328 := by omega
    rcases Nat.lt_or_ge c (xs.length + 1) with hcc | hcc
    · have hcc1 : (c : Int) < (xs.length : Int) + 1 := by omega
      have hcc2 : c < i + q := by omega
      simp -implicitDefEqProofs [h, hi, e1', e2', e3', hmx, hq2, hmin, hq0, hmaxl, hby, hc, hcc1, hcc2, hii]
      repeat refine ⟨by omega, ?_⟩
      have hA : ((i : Int) + (((i + q - (i + 1) : Nat) : Int) + 1)).toNat - (i + 1) = xs.length - i := by omega
      have hC : i + 1 + (xs.length - i) ≤ i + (i + q - (i + 1) + 1) := by omega
      simp -implicitDefEqProofs only [hA, hC, if_true]
      simp -implicitDefEqProofs
      refine EndO.ret [] [0, 1, 2] (.row 2) (by simp) ?_
      have hI := fun Z : List IV => ins_eq xs ((xs.take i ++ List.replicate q Z).drop (i + 1)) x i (xs.length - i) (by omega) (by simp; omega)
      simp -implicitDefEqProofs [List.take_take]
      exact hI _
    · have hcc1 : ¬ (c : Int) < (xs.length : Int) + 1 := by omega
      simp -implicitDefEqProofs [h, hi, e1', e2', e3', hmx, hq2, hmin, hq0, hmaxl, hby, hc, hcc, hcc1, hii]
      refine .inr ⟨⟨by omega, by omega⟩, by omega, ?_⟩
      refine CallX.ov ovRoute rfl rfl (by omega) (by simp) hne (by omega) (by omega) ?_
      have hF : ¬ i + (xs.length + 1 - i) ≤ xs.length := by omega
      have hG : min (xs.length + 1 - i) (xs.length - i) = xs.length - i := by omega
      have hG2 : i + (xs.length - i) ≤ xs.length := by omega
      have hT : (xs.drop i).take (xs.length - i) = xs.drop i := List.take_of_length_le (by simp)
      have hlt' : i + 1 ≤ xs.length := hlt
      simp -implicitDefEqProofs [h, hi, e1', e2', e3', hmx, hq2, hmin, hq0, hmaxl, hby, hc, hcc, hcc1, hii, hF, hG, hG2, hT, hlt']
      repeat refine ⟨by omega, ?_⟩
      have hm1 : min 1 (xs.length + 1 - i) = 1 := by omega
      have hd : xs.drop (i + 1 + (xs.length - i)) = [] := List.drop_eq_nil_of_le (by omega)
      have k1 : (xs.take (i + 1) ++ xs.drop i).take i = xs.take i := by
        rw [List.take_append_of_le_length (by simp; omega), List.take_take, Nat.min_eq_left (by omega)]
      have k2 : (xs.take (i + 1) ++ xs.drop i).drop (i + 1) = xs.drop i := List.drop_left' (by simp; omega)
      have k3 : (xs.take i ++ x :: xs.drop i).length = xs.length + 1 := by simp; omega
      refine EndO.ret [] [0, 1, 2] (.row 2) (by simp) ?_
      simp -implicitDefEqProofs only [hm1, hd, List.append_nil, List.take_succ_cons, List.take_zero, k1, k2, List.cons_append, List.nil_append]
      have k4 : xs.length + 1 ≤ (xs.take i ++ x :: xs.drop i).length := by omega
      have k5 : (xs.take i ++ x :: xs.drop i).take (xs.length + 1) = xs.take i ++ x :: xs.drop i := List.take_of_length_le (by omega)
      generalize xs.take i ++ x :: xs.drop i = R at *
      simp -implicitDefEqProofs [k4, k5]
theorem ovLink : OvF Tryz.prog 265 Tryz.f265 83 4 200 2 :=
  ⟨Tryz.func265, by kernel_rfl, by kernel_rfl, by kernel_rfl, by kernel_rfl, Tryz.underlying83, by kernel_rfl⟩
set_option maxRecDepth 8000 in
set_option maxHeartbeats 1000000 in
theorem insLink_spec (xs : List (List IV)) (x : List IV) (i : Nat) (hi : i ≤ xs.length) (hl : xs.length ≤ 4096) :
    FSpec Tryz.prog 257 [.row 0, .int .i64 i, .row 1] [.row 200 2 xs, .row 200 2 [x]] (.row 2) [.gone, .row 200 2 [x], .row 200 2 (xs.take i ++ x :: xs.drop i)] := by
  have e1 : IntKind.i64.wrap ((xs.length : Int) + 1) = (xs.length + 1 : Nat) := wrap64 (by omega) (by omega)
  have e2 : IntKind.i64.wrap ((i : Int) + 1) = (i + 1 : Nat) := wrap64 (by omega) (by omega)
  have e3 : IntKind.i64.wrap (((xs.length + 1 : Nat) : Int) - (i : Int)) = (xs.length + 1 - i : Nat) := by rw [wrap64 (by omega) (by omega)]; omega
  by_cases h : i = xs.length
  · subst h
    refine FSpec.of_o (q := [(11, .n 8), (15, .n 8)]) Tryz.func257 (by kernel_rfl) rfl Tryz.ntmps257 Tryz.results257 hP (by kernel_rfl) (by simp) (by first | rfl | simp) ?_
    simp -implicitDefEqProofs
    refine ⟨⟨by omega, by unfold maxLen; omega⟩, ?_⟩
    refine EndO.ret [] [0, 1, 2] (.row 2) (by simp) (by simp)
  · have hlt : i < xs.length := by omega
    refine FSpec.openP (i := 0) (enters_of Tryz.func257 (by kernel_rfl) rfl) rfl fun c hc hcm => ?_
    simp only [List.set_cons_zero]
    have hne : xs ≠ [] := by intro e; subst e; simp at hlt
    refine FSpec.of_o (q := [(11, .n 8), (15, .n 8)]) Tryz.func257 (by kernel_rfl) rfl Tryz.ntmps257 Tryz.results257 hP (by kernel_rfl) (by simp) (by first | rfl | simp) ?_
    have e1' : IntKind.i64.wrap ((xs.length : Int) + 1) = (xs.length : Int) + 1 := wrap64 (by omega) (by omega)
    have e2' : IntKind.i64.wrap ((i : Int) + 1) = (i : Int) + 1 := wrap64 (by omega) (by omega)
    have hii : ¬ (i : Int) = xs.length := by omega
    obtain ⟨q, hq⟩ : ∃ q, q = xs.length + 1 - i := ⟨_, rfl⟩
    have e3' : IntKind.i64.wrap ((xs.length : Int) + 1 - i) = (q : Int) := by rw [wrap64 (by omega) (by omega)]; omega
    have hmx : max (q : Int) 0 = q := by omega
    have hq2 : ((i : Int) + (q : Int)).toNat = i + q := by omega
    have hmin : min 1 q = 1 := by omega
    have hq0 : 0 < q := by omega
    have hmaxl : i + q ≤ maxLen := by unfold maxLen; omega
    have hby : (i + q) * 16 ≤ 140737488355328 := by omega
    rcases Nat.lt_or_ge c (xs.length + 1) with hcc | hcc
    · have hcc1 : (c : Int) < (xs.length : Int) + 1 := by omega
      have hcc2 : c < i + q := by omega
      simp -implicitDefEqProofs [h, hi, e1', e2', e3', hmx, hq2, hmin, hq0, hmaxl, hby, hc, hcc1, hcc2, hii]
      repeat refine ⟨by omega, ?_⟩
      have hA : ((i : Int) + (((i + q - (i + 1) : Nat) : Int) + 1)).toNat - (i + 1) = xs.length - i := by omega
      have hC : i + 1 + (xs.length - i) ≤ i + (i + q - (i + 1) + 1) := by omega
      simp -implicitDefEqProofs only [hA, hC, if_true]
      simp -implicitDefEqProofs
      refine EndO.ret [] [0, 1, 2] (.row 2) (by simp) ?_
      have hI := fun Z : List IV => ins_eq xs ((xs.take i ++ List.replicate q Z).drop (i + 1)) x i (xs.length - i) (by omega) (by simp; omega)
      simp -implicitDefEqProofs [List.take_take]
      exact hI _
    · have hcc1 : ¬ (c : Int) < (xs.length : Int) + 1 := by omega
      simp -implicitDefEqProofs [h, hi, e1', e2', e3', hmx, hq2, hmin, hq0, hmaxl, hby, hc, hcc, hcc1, hii]
      refine .inr ⟨⟨by omega, by omega⟩, by omega, ?_⟩
      refine CallX.ov ovLink rfl rfl (by omega) (by simp) hne (by omega) (by omega) ?_
      have hF : ¬ i + (xs.length + 1 - i) ≤ xs.length := by omega
      have hG : min (xs.length + 1 - i) (xs.length - i) = xs.length - i := by omega
      have hG2 : i + (xs.length - i) ≤ xs.length := by omega
      have hT : (xs.drop i).take (xs.length - i) = xs.drop i := List.take_of_length_le (by simp)
      have hlt' : i + 1 ≤ xs.length := hlt
      simp -implicitDefEqProofs [h, hi, e1', e2', e3', hmx, hq2, hmin, hq0, hmaxl, hby, hc, hcc, hcc1, hii, hF, hG, hG2, hT, hlt']
      repeat refine ⟨by omega, ?_⟩
      have hm1 : min 1 (xs.length + 1 - i) = 1 := by omega
      have hd : xs.drop (i + 1 + (xs.length - i)) = [] := List.drop_eq_nil_of_le (by omega)
      have k1 : (xs.take (i + 1) ++ xs.drop i).take i = xs.take i := by
        rw [List.take_append_of_le_length (by simp; omega), List.take_take, Nat.min_eq_left (by omega)]
      have k2 : (xs.take (i + 1) ++ xs.drop i).drop (i + 1) = xs.drop i := List.drop_left' (by simp; omega)
      have k3 : (xs.take i ++ x :: xs.drop i).length = xs.length + 1 := by simp; omega
      refine EndO.ret [] [0, 1, 2] (.row 2) (by simp) ?_
      simp -implicitDefEqProofs only [hm1, hd, List.append_nil, List.take_succ_cons, List.take_zero, k1, k2, List.cons_append, List.nil_append]
      have k4 : xs.length + 1 ≤ (xs.take i ++ x :: xs.drop i).length := by omega
      have k5 : (xs.take i ++ x :: xs.drop i).take (xs.length + 1) = xs.take i ++ x :: xs.drop i := List.take_of_length_le (by omega)
      generalize xs.take i ++ x :: xs.drop i = R at *
      simp -implicitDefEqProofs [k4, k5]
set_option maxRecDepth 8000 in
set_option maxHeartbeats 1000000 in
theorem delRoute_spec (xs : List (List IV)) (i : Nat) (hi : i < xs.length) (hl : xs.length ≤ 4096) :
    FSpec Tryz.prog 256 [.row 0, .int .i64 i, .int .i64 (i + 1 : Nat)] [.row 117 6 xs] (.row 1) [.gone, .row 117 6 (xs.take i ++ xs.drop (i + 1))] := by
  refine FSpec.openP (i := 0) (enters_of Tryz.func256 (by kernel_rfl) rfl) rfl fun c hc hcm => ?_
  simp only [List.set_cons_zero]
  have hne : xs ≠ [] := by intro e; subst e; simp at hi
  have h0 : (i : Int) ≤ (i : Int) + 1 := by omega
  have h1 : (i : Int) + 1 ≤ xs.length := by omega
  have h2 : ¬ (i : Int) = (i : Int) + 1 := by omega
  have h3 : i + 1 ≤ xs.length := hi
  have hc0 : 0 < c := by omega
  have h4 : i ≤ xs.length := by omega
  have h5 : i ≤ c := by omega
  have h6 : i + (xs.length - (i + 1)) ≤ c := by omega
  have h7 : i + 1 + (xs.length - (i + 1)) ≤ xs.length := by omega
  refine FSpec.of_o (q := [(5, .n 6)]) Tryz.func256 (by kernel_rfl) rfl Tryz.ntmps256 Tryz.results256 hP (by kernel_rfl) (by simp) (by first | rfl | simp) ?_
  simp -implicitDefEqProofs [hc, h0, h1, h2, h3, hc0, h4, h5, h6, h7]
  repeat refine ⟨by omega, ?_⟩
  have hL : ((i : Int) + ((xs.length - (i + 1) : Nat) : Int)).toNat = i + (xs.length - (i + 1)) := by omega
  have hT : (xs.drop (i + 1)).take (xs.length - (i + 1)) = xs.drop (i + 1) := List.take_of_length_le (by simp)
  have hD := fun Z D : List (List IV) => del_eq xs i (xs.length - (i + 1)) (by omega) Z D
  refine EndO.ret [] [0, 1] (.row 1) (by simp) ?_
  simp -implicitDefEqProofs only [hL, hT]
  generalize List.replicate (xs.length - (i + (xs.length - (i + 1)))) _ ++ _ = Z
  obtain ⟨k1, k2⟩ := hD Z (xs.drop (i + (xs.length - (i + 1))))
  generalize List.take (i + (xs.length - (i + 1))) _ ++ Z = R at *
  simp -implicitDefEqProofs [k1, k2]
set_option maxRecDepth 8000 in
set_option maxHeartbeats 1000000 in
theorem delLink_spec (xs : List (List IV)) (i : Nat) (hi : i < xs.length) (hl : xs.length ≤ 4096) :
    FSpec Tryz.prog 258 [.row 0, .int .i64 i, .int .i64 (i + 1 : Nat)] [.row 200 2 xs] (.row 1) [.gone, .row 200 2 (xs.take i ++ xs.drop (i + 1))] := by
  refine FSpec.openP (i := 0) (enters_of Tryz.func258 (by kernel_rfl) rfl) rfl fun c hc hcm => ?_
  simp only [List.set_cons_zero]
  have hne : xs ≠ [] := by intro e; subst e; simp at hi
  have h0 : (i : Int) ≤ (i : Int) + 1 := by omega
  have h1 : (i : Int) + 1 ≤ xs.length := by omega
  have h2 : ¬ (i : Int) = (i : Int) + 1 := by omega
  have h3 : i + 1 ≤ xs.length := hi
  have hc0 : 0 < c := by omega
  have h4 : i ≤ xs.length := by omega
  have h5 : i ≤ c := by omega
  have h6 : i + (xs.length - (i + 1)) ≤ c := by omega
  have h7 : i + 1 + (xs.length - (i + 1)) ≤ xs.length := by omega
  refine FSpec.of_o (q := [(5, .n 6)]) Tryz.func258 (by kernel_rfl) rfl Tryz.ntmps258 Tryz.results258 hP (by kernel_rfl) (by simp) (by first | rfl | simp) ?_
  simp -implicitDefEqProofs [hc, h0, h1, h2, h3, hc0, h4, h5, h6, h7]
  repeat refine ⟨by omega, ?_⟩
  have hL : ((i : Int) + ((xs.length - (i + 1) : Nat) : Int)).toNat = i + (xs.length - (i + 1)) := by omega
  have hT : (xs.drop (i + 1)).take (xs.length - (i + 1)) = xs.drop (i + 1) := List.take_of_length_le (by simp)
  have hD := fun Z D : List (List IV) => del_eq xs i (xs.length - (i + 1)) (by omega) Z D
  refine EndO.ret [] [0, 1] (.row 1) (by simp) ?_
  simp -implicitDefEqProofs only [hL, hT]
  generalize List.replicate (xs.length - (i + (xs.length - (i + 1)))) _ ++ _ = Z
  obtain ⟨k1, k2⟩ := hD Z (xs.drop (i + (xs.length - (i + 1))))
  generalize List.take (i + (xs.length - (i + 1))) _ ++ Z = R at *
  simp -implicitDefEqProofs [k1, k2]
theorem cloNSeat_spec (A : Option Addr) (c : Nat) : FSpec Tryz.prog 159 [.im (.sc (.slice A 0 c))] [] (.row 0) [.row 65 4 []] := by
  refine FSpec.of_o (q := []) Tryz.func159 (by kernel_rfl) rfl Tryz.ntmps159 Tryz.results159 hP (by kernel_rfl) (by simp) (by first | rfl | simp) ?_
  cases A with
  | none =>
    cases c with
    | zero =>
      simp -implicitDefEqProofs
      refine ⟨[.sl 2 65 4], [], [0], .row 0, by simp [St.nils], by simp [St.nils]⟩
    | succ c =>
      simp -implicitDefEqProofs
      refine ⟨[.sl 2 65 4], [], [0], .row 0, by simp [St.nils], by simp [St.nils]⟩
  | some ad =>
    simp -implicitDefEqProofs
    refine EndO.ret [] [1] (.row 1) (by simp) (by simp)
theorem cloSeat_spec (xs : List (List IV)) (hl : xs.length ≤ 4096) : FSpec Tryz.prog 159 [.im (.sl 4 xs)] [] (.row 0) [.row 65 4 xs] := by
  cases xs with
  | nil => exact FSpec.nilArg cloNSeat_spec
  | cons x xs =>
    refine FSpec.of_o (q := []) Tryz.func159 (by kernel_rfl) rfl Tryz.ntmps159 Tryz.results159 hP (by kernel_rfl) (by simp) (by first | rfl | simp) ?_
    simp -implicitDefEqProofs
    simp at hl
    refine ⟨⟨by omega, by unfold maxLen; omega⟩, ?_⟩
    refine EndO.ret [] [1] (.row 1) (by simp) (by simp)
theorem cloNRouter_spec (A : Option Addr) (c : Nat) : FSpec Tryz.prog 160 [.im (.sc (.slice A 0 c))] [] (.row 0) [.row 85 4 []] := by
  refine FSpec.of_o (q := []) Tryz.func160 (by kernel_rfl) rfl Tryz.ntmps160 Tryz.results160 hP (by kernel_rfl) (by simp) (by first | rfl | simp) ?_
  cases A with
  | none =>
    cases c with
    | zero =>
      simp -implicitDefEqProofs
      refine ⟨[.sl 2 85 4], [], [0], .row 0, by simp [St.nils], by simp [St.nils]⟩
    | succ c =>
      simp -implicitDefEqProofs
      refine ⟨[.sl 2 85 4], [], [0], .row 0, by simp [St.nils], by simp [St.nils]⟩
  | some ad =>
    simp -implicitDefEqProofs
    refine EndO.ret [] [1] (.row 1) (by simp) (by simp)
theorem cloRouter_spec (xs : List (List IV)) (hl : xs.length ≤ 4096) : FSpec Tryz.prog 160 [.im (.sl 4 xs)] [] (.row 0) [.row 85 4 xs] := by
  cases xs with
  | nil => exact FSpec.nilArg cloNRouter_spec
  | cons x xs =>
    refine FSpec.of_o (q := []) Tryz.func160 (by kernel_rfl) rfl Tryz.ntmps160 Tryz.results160 hP (by kernel_rfl) (by simp) (by first | rfl | simp) ?_
    simp -implicitDefEqProofs
    simp at hl
    refine ⟨⟨by omega, by unfold maxLen; omega⟩, ?_⟩
    refine EndO.ret [] [1] (.row 1) (by simp) (by simp)
theorem cloNRoute_spec (A : Option Addr) (c : Nat) : FSpec Tryz.prog 203 [.im (.sc (.slice A 0 c))] [] (.row 0) [.row 117 6 []] := by
  refine FSpec.of_o (q := []) Tryz.func203 (by kernel_rfl) rfl Tryz.ntmps203 Tryz.results203 hP (by kernel_rfl) (by simp) (by first | rfl | simp) ?_
  cases A with
  | none =>
    cases c with
    | zero =>
      simp -implicitDefEqProofs
      refine ⟨[.sl 2 117 6], [], [0], .row 0, by simp [St.nils], by simp [St.nils]⟩
    | succ c =>
      simp -implicitDefEqProofs
      refine ⟨[.sl 2 117 6], [], [0], .row 0, by simp [St.nils], by simp [St.nils]⟩
  | some ad =>
    simp -implicitDefEqProofs
    refine EndO.ret [] [1] (.row 1) (by simp) (by simp)
theorem cloRoute_spec (xs : List (List IV)) (hl : xs.length ≤ 4096) : FSpec Tryz.prog 203 [.im (.sl 6 xs)] [] (.row 0) [.row 117 6 xs] := by
  cases xs with
  | nil => exact FSpec.nilArg cloNRoute_spec
  | cons x xs =>
    refine FSpec.of_o (q := []) Tryz.func203 (by kernel_rfl) rfl Tryz.ntmps203 Tryz.results203 hP (by kernel_rfl) (by simp) (by first | rfl | simp) ?_
    simp -implicitDefEqProofs
    simp at hl
    refine ⟨⟨by omega, by unfold maxLen; omega⟩, ?_⟩
    refine EndO.ret [] [1] (.row 1) (by simp) (by simp)
theorem cloNLink_spec (A : Option Addr) (c : Nat) : FSpec Tryz.prog 204 [.im (.sc (.slice A 0 c))] [] (.row 0) [.row 200 2 []] := by
  refine FSpec.of_o (q := []) Tryz.func204 (by kernel_rfl) rfl Tryz.ntmps204 Tryz.results204 hP (by kernel_rfl) (by simp) (by first | rfl | simp) ?_
  cases A with
  | none =>
    cases c with
    | zero =>
      simp -implicitDefEqProofs
      refine ⟨[.sl 2 200 2], [], [0], .row 0, by simp [St.nils], by simp [St.nils]⟩
    | succ c =>
      simp -implicitDefEqProofs
      refine ⟨[.sl 2 200 2], [], [0], .row 0, by simp [St.nils], by simp [St.nils]⟩
  | some ad =>
    simp -implicitDefEqProofs
    refine EndO.ret [] [1] (.row 1) (by simp) (by simp)
theorem cloLink_spec (xs : List (List IV)) (hl : xs.length ≤ 4096) : FSpec Tryz.prog 204 [.im (.sl 2 xs)] [] (.row 0) [.row 200 2 xs] := by
  cases xs with
  | nil => exact FSpec.nilArg cloNLink_spec
  | cons x xs =>
    refine FSpec.of_o (q := []) Tryz.func204 (by kernel_rfl) rfl Tryz.ntmps204 Tryz.results204 hP (by kernel_rfl) (by simp) (by first | rfl | simp) ?_
    simp -implicitDefEqProofs
    simp at hl
    refine ⟨⟨by omega, by unfold maxLen; omega⟩, ?_⟩
    refine EndO.ret [] [1] (.row 1) (by simp) (by simp)
theorem cloNEvent_spec (A : Option Addr) (c : Nat) : FSpec Tryz.prog 128 [.im (.sc (.slice A 0 c))] [] (.row 0) [.row 39 12 []] := by
  refine FSpec.of_o (q := []) Tryz.func128 (by kernel_rfl) rfl Tryz.ntmps128 Tryz.results128 hP (by kernel_rfl) (by simp) (by first | rfl | simp) ?_
  cases A with
  | none =>
    cases c with
    | zero =>
      simp -implicitDefEqProofs
      refine ⟨[.sl 2 39 12], [], [0], .row 0, by simp [St.nils], by simp [St.nils]⟩
    | succ c =>
      simp -implicitDefEqProofs
      refine ⟨[.sl 2 39 12], [], [0], .row 0, by simp [St.nils], by simp [St.nils]⟩
  | some ad =>
    simp -implicitDefEqProofs
    refine EndO.ret [] [1] (.row 1) (by simp) (by simp)
theorem cloEvent_spec (xs : List (List IV)) (hl : xs.length ≤ 4096) : FSpec Tryz.prog 128 [.im (.sl 12 xs)] [] (.row 0) [.row 39 12 xs] := by
  cases xs with
  | nil => exact FSpec.nilArg cloNEvent_spec
  | cons x xs =>
    refine FSpec.of_o (q := []) Tryz.func128 (by kernel_rfl) rfl Tryz.ntmps128 Tryz.results128 hP (by kernel_rfl) (by simp) (by first | rfl | simp) ?_
    simp -implicitDefEqProofs
    simp at hl
    refine ⟨⟨by omega, by unfold maxLen; omega⟩, ?_⟩
    refine EndO.ret [] [1] (.row 1) (by simp) (by simp)
end Go.Am


set_option linter.unusedVariables false
set_option linter.unusedSimpArgs false
set_option pp.deepTerms false
set_option pp.deepTerms.threshold 40
namespace Go.Am
open Go.Proofs

def strictC {α : Type} (c : α → Int) (l : List α) : Prop := l.Pairwise fun x y => 0 ≤ c x → 0 < c y
theorem strict_up {α : Type} {c : α → Int} {l : List α} (h : strictC c l) (i j : Nat) (x y : α) (hij : i ≤ j) (hx : l[i]? = some x) (hy : l[j]? = some y) (hc : c y < 0) : c x < 0 := by
  rcases Nat.eq_or_lt_of_le hij with e | hlt
  · subst e; rw [hx] at hy; cases hy; exact hc
  · obtain ⟨hi, e1⟩ := List.getElem?_eq_some_iff.1 hx
    obtain ⟨hj, e2⟩ := List.getElem?_eq_some_iff.1 hy
    have := List.pairwise_iff_getElem.1 h i j hi hj hlt
    rw [e1, e2] at this
    omega
theorem bs_lt {α : Type} {c : α → Int} : ∀ {l : List α}, strictC c l → l.take (bsI c l) = l.filter fun x => decide (c x < 0)
  | [], _ => rfl
  | x :: l, h => by
    have h1 := List.pairwise_cons.1 h
    rw [bsI, List.filter_cons]
    by_cases hx : c x < 0
    · rw [if_pos hx, if_pos (by simpa using hx), List.take_succ_cons, bs_lt h1.2]
    · rw [if_neg hx, if_neg (by simpa using hx), List.take_zero]
      symm
      rw [List.filter_eq_nil_iff]
      intro y hy
      have := h1.1 y hy (by omega)
      simp; omega
theorem bs_gt {α : Type} {c : α → Int} : ∀ {l : List α}, strictC c l → (if bsF c l then l.drop (bsI c l + 1) else l.drop (bsI c l)) = l.filter fun x => decide (0 < c x)
  | [], _ => by simp
  | x :: l, h => by
    have h1 := List.pairwise_cons.1 h
    have ih := bs_gt h1.2
    rw [List.filter_cons]
    unfold bsF at *
    rw [bsI]
    by_cases hx : c x < 0
    · have h0 : ¬ 0 < c x := by omega
      simp only [if_pos hx, h0, decide_false, List.getElem?_cons_succ, List.drop_succ_cons]
      exact ih
    · have hf : l.filter (fun x => decide (0 < c x)) = l := by
        rw [List.filter_eq_self]
        intro y hy
        have := h1.1 y hy (by omega)
        simpa using this
      rw [hf]
      simp only [if_neg hx, List.getElem?_cons_zero, Option.map_some, Option.getD_some, List.drop_zero, Nat.zero_add, List.drop_succ_cons, decide_eq_true_eq]
      by_cases h2 : c x = 0
      · have h3 : ¬ 0 < c x := by omega
        rw [if_pos h2, if_neg h3]
      · have h3 : 0 < c x := by omega
        rw [if_neg h2, if_pos h3]
theorem bsF_ltn {α : Type} {c : α → Int} {l : List α} (h : bsF c l = true) : bsI c l < l.length := by
  unfold bsF at h
  cases hg : l[bsI c l]? with
  | none => rw [hg] at h; cases h
  | some x => exact (List.getElem?_eq_some_iff.1 hg).1
theorem bs_set {α : Type} {c : α → Int} {l : List α} (hs : strictC c l) (s : α) (h : bsF c l = true) : l.set (bsI c l) s = l.filter (fun x => decide (c x < 0)) ++ [s] ++ l.filter fun x => decide (0 < c x) := by
  have h1 := bs_lt hs
  have h2 := bs_gt hs
  rw [if_pos h] at h2
  rw [List.set_eq_take_append_cons_drop, if_pos (bsF_ltn h), h1, h2]
  simp
theorem bs_ins {α : Type} {c : α → Int} {l : List α} (hs : strictC c l) (s : α) (h : bsF c l = false) : l.take (bsI c l) ++ s :: l.drop (bsI c l) = l.filter (fun x => decide (c x < 0)) ++ [s] ++ l.filter fun x => decide (0 < c x) := by
  have h1 := bs_lt hs
  have h2 := bs_gt hs
  rw [if_neg (by simp [h])] at h2
  rw [h1, h2]
  simp
theorem bs_del {α : Type} {c : α → Int} {l : List α} (hs : strictC c l) (h : bsF c l = true) : l.take (bsI c l) ++ l.drop (bsI c l + 1) = l.filter (fun x => decide (c x < 0)) ++ l.filter fun x => decide (0 < c x) := by
  have h1 := bs_lt hs
  have h2 := bs_gt hs
  rw [if_pos h] at h2
  rw [h1, h2]
theorem bs_none {α : Type} {c : α → Int} {l : List α} (hs : strictC c l) (h : bsF c l = false) : l = l.filter (fun x => decide (c x < 0)) ++ l.filter fun x => decide (0 < c x) := by
  have h1 := bs_lt hs
  have h2 := bs_gt hs
  rw [if_neg (by simp [h])] at h2
  rw [← h1, ← h2, List.take_append_drop]
theorem bs_mem {α : Type} {c : α → Int} : ∀ {l : List α}, strictC c l → (bsF c l = true ↔ ∃ x ∈ l, c x = 0)
  | [], _ => by simp [bsF]
  | x :: l, h => by
    have h1 := List.pairwise_cons.1 h
    have ih := bs_mem h1.2
    unfold bsF at *
    rw [bsI]
    by_cases hx : c x < 0
    · simp only [if_pos hx, List.getElem?_cons_succ, List.mem_cons]
      rw [ih]
      constructor
      · rintro ⟨y, hy, h0⟩; exact ⟨y, .inr hy, h0⟩
      · rintro ⟨y, rfl | hy, h0⟩
        · omega
        · exact ⟨y, hy, h0⟩
    · simp only [if_neg hx, List.getElem?_cons_zero, Option.map_some, Option.getD_some, decide_eq_true_eq, List.mem_cons]
      constructor
      · intro h0; exact ⟨x, .inl rfl, h0⟩
      · rintro ⟨y, rfl | hy, h0⟩
        · exact h0
        · have := h1.1 y hy (by omega)
          omega

theorem CallQG.off {P : Program} {f : FuncId} {args : List AV} {d : Option Nat} {k : St → Prop} {st : St} (v : Value) (hk : k (st.put d (.cond false (.im (.sc v))))) : CallQG P false f args d k st := ⟨[], v, fun h => (by cases h), rfl, hk⟩
def cmpS (n : Int) (x : Seat) : Int := cmpI x.router n
theorem cmpS_spec (x : Seat) (n : Int) : FSpec Tryz.prog 246 [x.av, .int .i64 n] [] (.int .i64 (cmpS n x)) [] := by
  refine FSpec.of_flat (q := []) Tryz.func246 (by kernel_rfl) rfl Tryz.ntmps246 Tryz.results246 hP (by kernel_rfl) (by simp) (by first | rfl | simp) ?_
  simp
  first | refine CallK.same (cmpI_spec x.router n) rfl rfl ?_ | refine CallQ.same (cmpI_spec x.router n) rfl rfl ?_ | refine CallQG.same _ (cmpI_spec x.router n) rfl ?_ | refine CallG.same _ (cmpI_spec x.router n) rfl ?_ | refine CallK.pv (cmpI_spec x.router n) rfl rfl ?_
  simp [cmpS]
def cmpQ (p : Pfx) (x : Route) : Int := cmpP x.pfx p
theorem cmpQ_spec (x : Route) (p : Pfx) : FSpec Tryz.prog 253 [x.av, p.av] [] (.int .i64 (cmpQ p x)) [] := by
  refine FSpec.of_flat (q := []) Tryz.func253 (by kernel_rfl) rfl Tryz.ntmps253 Tryz.results253 hP (by kernel_rfl) (by simp) (by first | rfl | simp) ?_
  simp
  first | refine CallK.same (cmpP_spec x.pfx p) rfl rfl ?_ | refine CallQ.same (cmpP_spec x.pfx p) rfl rfl ?_ | refine CallQG.same _ (cmpP_spec x.pfx p) rfl ?_ | refine CallG.same _ (cmpP_spec x.pfx p) rfl ?_ | refine CallK.pv (cmpP_spec x.pfx p) rfl rfl ?_
  simp [cmpQ]
theorem bsS_spec (l : List Seat) (n : Int) (hst : strictC (cmpS n) l) :
    FSpec Tryz.prog 245 [.im (.sl 4 (l.map Seat.iv)), .int .i64 n, .fn 246 []] [] (.tup [.int .i64 (bsI (cmpS n) l), .bool (bsF (cmpS n) l)]) [] := by
  have hs := fun (i j : Nat) (x y : Seat) => @strict_up Seat (cmpS n) l hst i j x y
  refine FSpec.bd (enters_of Tryz.func245 (by kernel_rfl) rfl) fun hbd => ?_
  have hl : l.length ≤ 9223372036854775807 := by simp [maxLen] at hbd; omega
  refine FSpec.of_flat (q := []) Tryz.func245 (by kernel_rfl) rfl Tryz.ntmps245 Tryz.results245 hP (by kernel_rfl) (by simp) (by first | rfl | simp) ?_
  simp
  refine LoopK.plain (fun g : Nat × Nat => [(0, .im (.sl 4 (l.map Seat.iv))), (1, .int .i64 n), (2, .fn 246 []), (8, .int .i64 l.length), (9, .int .i64 g.1), (10, .int .i64 g.2)])
    (fun g => g.1 ≤ g.2 ∧ g.2 ≤ l.length ∧ (∀ i x, i < g.1 → l[i]? = some x → cmpS n x < 0) ∧ (∀ i x, g.2 ≤ i → l[i]? = some x → 0 ≤ cmpS n x)) (fun g => g.2 - g.1) (0, l.length) ?_ ?_ ?_
  · exact ⟨Nat.zero_le _, Nat.le_refl _, fun i x hi => by omega, fun i x hi hx => by rw [List.getElem?_eq_none hi] at hx; cases hx⟩
  · simp
  rintro ⟨lo, hi⟩ ⟨h1, h2, h3, h4⟩
  simp only at h1 h2 h3 h4
  by_cases hlt : lo < hi
  · have hm := half_eq lo hi (by omega) (by omega)
    have hml : (lo + hi) / 2 < l.length := by omega
    obtain ⟨m, hmm⟩ : ∃ m, m = (lo + hi) / 2 := ⟨_, rfl⟩
    rw [← hmm] at hm hml
    have hg := List.getElem?_eq_getElem hml
    have hw1 : IntKind.i64.wrap (m + 1) = (m + 1 : Nat) := wrap64 (by omega) (by omega)
    simp [hlt, hm, hml, hg]
    generalize l[m] = x at *
    first | refine CallK.same (cmpS_spec x n) rfl rfl ?_ | refine CallQ.same (cmpS_spec x n) rfl rfl ?_ | refine CallQG.same _ (cmpS_spec x n) rfl ?_ | refine CallG.same _ (cmpS_spec x n) rfl ?_ | refine CallK.pv (cmpS_spec x n) rfl rfl ?_
    simp [hw1]
    refine ⟨fun hc => ?_, fun hc => ?_⟩
    · refine Again.plain (m + 1, hi) ⟨by omega, h2, fun i y hi' hy => ?_, h4⟩ (by simp only; omega) (by simp)
      exact hs i m y x (by omega) hy hg hc
    · refine Again.plain (lo, m) ⟨by omega, by omega, h3, fun i y hi' hy => ?_⟩ (by simp only; omega) (by simp)
      apply Classical.byContradiction
      intro hc'
      have := hs m i x y hi' hg hy (by omega)
      omega
  · have : lo = hi := by omega
    subst this
    have hb := bsI_eq (cmpS n) l lo h2 h3 (fun i x h5 h6 => by have := h4 i x h5 h6; omega)
    by_cases hll : lo < l.length
    · have hg := List.getElem?_eq_getElem hll
      simp [hll]
      generalize l[lo] = x at *
      first | refine CallK.same (cmpS_spec x n) rfl rfl ?_ | refine CallQ.same (cmpS_spec x n) rfl rfl ?_ | refine CallQG.same _ (cmpS_spec x n) rfl ?_ | refine CallG.same _ (cmpS_spec x n) rfl ?_ | refine CallK.pv (cmpS_spec x n) rfl rfl ?_
      simp [bsF, hb, hg]
      rfl
    · simp [hll, List.getElem?_eq_none (show l.length ≤ lo by omega)]
      refine CallG.off (.int .i64 0) ?_
      simp [bsF, hb, List.getElem?_eq_none (show l.length ≤ lo by omega)]
theorem bsR_spec (l : List Route) (n : Pfx) (hst : strictC (cmpQ n) l) :
    FSpec Tryz.prog 252 [.im (.sl 6 (l.map Route.iv)), n.av, .fn 253 []] [] (.tup [.int .i64 (bsI (cmpQ n) l), .bool (bsF (cmpQ n) l)]) [] := by
  have hs := fun (i j : Nat) (x y : Route) => @strict_up Route (cmpQ n) l hst i j x y
  refine FSpec.bd (enters_of Tryz.func252 (by kernel_rfl) rfl) fun hbd => ?_
  have hl : l.length ≤ 9223372036854775807 := by simp [maxLen] at hbd; omega
  refine FSpec.of_flat (q := [(5, .n 6), (8, .n 15)]) Tryz.func252 (by kernel_rfl) rfl Tryz.ntmps252 Tryz.results252 hP (by kernel_rfl) (by simp) (by first | rfl | simp) ?_
  simp
  refine LoopK.os (fun g : Nat × Nat => [(0, .im (.sl 6 (l.map Route.iv))), (2, .fn 253 []), (4, .ptr 0 0), (8, .int .i64 l.length), (9, .int .i64 g.1), (10, .int .i64 g.2)])
    (fun _ => [.box 34 [.bool n.six, .int .u64 n.addr.hi, .int .u64 n.addr.lo, .int .i64 n.len]])
    (fun g => g.1 ≤ g.2 ∧ g.2 ≤ l.length ∧ (∀ i x, i < g.1 → l[i]? = some x → cmpQ n x < 0) ∧ (∀ i x, g.2 ≤ i → l[i]? = some x → 0 ≤ cmpQ n x)) (fun g => g.2 - g.1) (0, l.length) [0] ?_ ?_ ?_
  · exact ⟨Nat.zero_le _, Nat.le_refl _, fun i x hi => by omega, fun i x hi hx => by rw [List.getElem?_eq_none hi] at hx; cases hx⟩
  · simp
  rintro ⟨lo, hi⟩ ⟨h1, h2, h3, h4⟩
  simp only at h1 h2 h3 h4
  by_cases hlt : lo < hi
  · have hm := half_eq lo hi (by omega) (by omega)
    have hml : (lo + hi) / 2 < l.length := by omega
    obtain ⟨m, hmm⟩ : ∃ m, m = (lo + hi) / 2 := ⟨_, rfl⟩
    rw [← hmm] at hm hml
    have hg := List.getElem?_eq_getElem hml
    have hw1 : IntKind.i64.wrap (m + 1) = (m + 1 : Nat) := wrap64 (by omega) (by omega)
    simp [hlt, hm, hml, hg]
    generalize l[m] = x at *
    first | refine CallK.same (cmpQ_spec x n) rfl rfl ?_ | refine CallQ.same (cmpQ_spec x n) rfl rfl ?_ | refine CallQG.same _ (cmpQ_spec x n) rfl ?_ | refine CallG.same _ (cmpQ_spec x n) rfl ?_ | refine CallK.pv (cmpQ_spec x n) rfl rfl ?_
    simp [hw1]
    refine ⟨fun hc => ?_, fun hc => ?_⟩
    · refine Again.os (m + 1, hi) [0] ⟨by omega, h2, fun i y hi' hy => ?_, h4⟩ (by simp only; omega) (by simp)
      exact hs i m y x (by omega) hy hg hc
    · refine Again.os (lo, m) [0] ⟨by omega, by omega, h3, fun i y hi' hy => ?_⟩ (by simp only; omega) (by simp)
      apply Classical.byContradiction
      intro hc'
      have := hs m i x y hi' hg hy (by omega)
      omega
  · have : lo = hi := by omega
    subst this
    have hb := bsI_eq (cmpQ n) l lo h2 h3 (fun i x h5 h6 => by have := h4 i x h5 h6; omega)
    by_cases hll : lo < l.length
    · have hg := List.getElem?_eq_getElem hll
      simp [hll]
      generalize l[lo] = x at *
      first | refine CallK.same (cmpQ_spec x n) rfl rfl ?_ | refine CallQ.same (cmpQ_spec x n) rfl rfl ?_ | refine CallQG.same _ (cmpQ_spec x n) rfl ?_ | refine CallG.same _ (cmpQ_spec x n) rfl ?_ | refine CallK.pv (cmpQ_spec x n) rfl rfl ?_
      simp [bsF, hb, hg]
      rfl
    · simp [hll, List.getElem?_eq_none (show l.length ≤ lo by omega)]
      refine CallQG.off (.int .i64 0) ?_
      simp [bsF, hb, List.getElem?_eq_none (show l.length ≤ lo by omega)]
end Go.Am


set_option linter.unusedVariables false
set_option linter.unusedSimpArgs false
set_option pp.deepTerms false
set_option pp.deepTerms.threshold 40
namespace Go.Am
open Go.Proofs

theorem mod_set {α : Type} (f : α → List IV) (l : List α) (s : α) (i : Nat) (g : List IV → List IV) (hg : ∀ x, g (f x) = f s) : (l.map f).modify i g = (l.set i s).map f := by
  apply List.ext_getElem?
  intro j
  rw [List.getElem?_modify, List.getElem?_map, List.getElem?_map, List.getElem?_set]
  by_cases h : i = j
  · subst h
    cases hx : l[i]? with
    | none => simp [List.getElem?_eq_none_iff.1 hx]
    | some x => simp [(List.getElem?_eq_some_iff.1 hx).1, hg]
  · simp [h]
theorem cmpS_lt (n : Int) (x : Seat) : cmpS n x < 0 ↔ x.router < n := by
  unfold cmpS cmpI
  repeat' split
  all_goals omega
theorem cmpS_gt (n : Int) (x : Seat) : 0 < cmpS n x ↔ n < x.router := by
  unfold cmpS cmpI
  repeat' split
  all_goals omega
theorem strictS {l : List Seat} (h : checkS l = 0) (n : Int) : strictC (cmpS n) l := by
  unfold checkS at h
  split at h
  · cases h
  · refine (checkSL_sorted h).2.imp fun {x y} hxy h0 => ?_
    rw [cmpS_gt]
    have := cmpS_lt n x
    omega
theorem putSeat_cmp (l : List Seat) (e : Ev) : putSeat l (seatOf e) = l.filter (fun x => decide (cmpS e.router x < 0)) ++ [seatOf e] ++ l.filter (fun x => decide (0 < cmpS e.router x)) := by
  unfold putSeat
  simp only [cmpS_lt, cmpS_gt, seatOf]
  congr
theorem seatOf_iv (e : Ev) : (seatOf e).iv = [.sc (.int .i64 e.router), .sc (.int .u64 e.seq), .sc (.int .i64 e.time), .sc (.bool (e.kind != 2))] := rfl
set_option maxRecDepth 8000 in
set_option maxHeartbeats 1000000 in
theorem takeS_spec (l : List Seat) (e : Ev) (h : checkS l = 0) (hf : bsF (cmpS e.router) l = true) :
    FSpec Tryz.prog 211 [.row 0, e.av] [.row 65 4 (l.map Seat.iv)] (.row 0) [.row 65 4 ((putSeat l (seatOf e)).map Seat.iv)] := by
  have hb := bsS_spec l e.router (strictS h _)
  have hlt := bsF_ltn hf
  have hset := bs_set (strictS h e.router) (seatOf e) hf
  rw [← putSeat_cmp] at hset
  rw [hf] at hb
  generalize bsI (cmpS e.router) l = i at *
  refine FSpec.of_o (q := []) Tryz.func211 (by kernel_rfl) rfl Tryz.ntmps211 Tryz.results211 hP (by kernel_rfl) (by simp) (by first | rfl | simp) ?_
  simp -implicitDefEqProofs
  refine CallK.fz [0] hb rfl (by simp) rfl ?_
  simp -implicitDefEqProofs [hlt]
  refine EndO.ret [] [0] (.row 0) (by simp) ?_
  rw [← hset, ← mod_set Seat.iv l (seatOf e) i (fun x => [.sc (.int .i64 e.router), .sc (.int .u64 e.seq), .sc (.int .i64 e.time), .sc (.bool (e.kind != 2))] ++ x.drop 4) (fun x => by simp [seatOf])]
  simp -implicitDefEqProofs
set_option maxRecDepth 8000 in
set_option maxHeartbeats 1000000 in
theorem takeN_spec (l : List Seat) (e : Ev) (h : checkS l = 0) (hf : bsF (cmpS e.router) l = false) :
    FSpec Tryz.prog 211 [.row 0, e.av] [.row 65 4 (l.map Seat.iv)] (.row 1) [.gone, .row 65 4 ((putSeat l (seatOf e)).map Seat.iv)] := by
  have hb := bsS_spec l e.router (strictS h _)
  have hlt := bsI_le (cmpS e.router) l
  have hset := bs_ins (strictS h e.router) (seatOf e) hf
  have hlen := checkS_len h
  rw [← putSeat_cmp] at hset
  rw [hf] at hb
  generalize bsI (cmpS e.router) l = i at *
  have hi := insSeat_spec (l.map Seat.iv) (seatOf e).iv i (by simpa using hlt) (by simp; omega)
  have hset' : (putSeat l (seatOf e)).map Seat.iv = (l.map Seat.iv).take i ++ (seatOf e).iv :: (l.map Seat.iv).drop i := by
    rw [← hset, List.map_append, List.map_cons, List.map_take, List.map_drop]
  rw [← hset'] at hi
  rw [seatOf_iv] at hi
  refine FSpec.of_o (q := []) Tryz.func211 (by kernel_rfl) rfl Tryz.ntmps211 Tryz.results211 hP (by kernel_rfl) (by simp) (by first | rfl | simp) ?_
  simp -implicitDefEqProofs
  refine CallK.fz [0] hb rfl (by simp) rfl ?_
  simp -implicitDefEqProofs
  refine CallO.mk [] [0, 3] hi (by simp) rfl (by simp) (by simp) (by simp) ?_
  simp -implicitDefEqProofs
  refine EndO.ret [] [0, 4] (.row 4) (by simp) ?_
  simp -implicitDefEqProofs
set_option maxRecDepth 8000 in
set_option maxHeartbeats 1000000 in
theorem nextO_spec (l : List Seat) (e : Ev) (hz : Int) (hsq : 0 ≤ e.seq) :
    FSpec Tryz.prog 165 [.im (.sl 4 (l.map Seat.iv)), e.av, .int .i64 hz] [] (.tup [.im (.sl 4 ((nextS l e hz).1.map Seat.iv)), .int .i64 (nextS l e hz).2]) [] := by
  have ha := asked_spec l e hz hsq
  refine FSpec.of_z (q := []) Tryz.func165 (by kernel_rfl) rfl Tryz.ntmps165 Tryz.results165 hP (by kernel_rfl) (by simp) (by first | rfl | simp) ?_
  simp -implicitDefEqProofs
  first | refine CallK.same (ha) rfl rfl ?_ | refine CallQ.same (ha) rfl rfl ?_ | refine CallQG.same _ (ha) rfl ?_ | refine CallG.same _ (ha) rfl ?_ | refine CallK.pv (ha) rfl rfl ?_
  simp -implicitDefEqProofs
  by_cases A : ¬ checkS l = 0 ∨ evOk e = false
  · have hm : mayS l e hz = 2 := by unfold mayS; rw [if_pos A]
    simp -implicitDefEqProofs [A]
    refine EndZ.ret [] (.tup [.im (.sc (.slice none 0 0)), .int .i64 2]) (by simp) ?_
    simp -implicitDefEqProofs [nextS, hm]
  by_cases B : hz < -1 ∨ 1099511627776 < hz
  · have hm : mayS l e hz = 1 := by unfold mayS; rw [if_neg A, if_pos B]
    simp -implicitDefEqProofs [A, B]
    refine EndZ.ret [] (.tup [.im (.sc (.slice none 0 0)), .int .i64 1]) (by simp) ?_
    simp -implicitDefEqProofs [nextS, hm]
  have A1 : checkS l = 0 := by apply Classical.byContradiction; intro h; exact A (.inl h)
  have A2 : evOk e = true := by cases h : evOk e with | true => rfl | false => exact absurd (.inr h) A
  have hm : mayS l e hz = mayT l e hz := mayS_T A1 A2 (by omega) (by omega)
  have hc := cloSeat_spec (l.map Seat.iv) (by have := checkS_len A1; simp; omega)
  have hfit := fits_spec l e hz A1 A2
  have hx : nextS l e hz = if mayS l e hz = 2 ∨ mayS l e hz = 1 then ([], mayS l e hz) else if ¬ mayS l e hz = 0 then (l, mayS l e hz) else (putSeat l (seatOf e), 0) := rfl
  have h12 : ¬ (mayT l e hz = 2 ∨ mayT l e hz = 1) := by unfold mayT; repeat' split
                                                         all_goals omega
  rw [hm, if_neg h12] at hx
  generalize nextS l e hz = NX at *
  generalize mayT l e hz = M at *
  simp -implicitDefEqProofs [A, B]
  refine CallK.outs [] hc rfl (by simp) (by simp [AV.flat]) ?_
  simp -implicitDefEqProofs
  first | refine CallK.same (hfit) rfl rfl ?_ | refine CallQ.same (hfit) rfl rfl ?_ | refine CallQG.same _ (hfit) rfl ?_ | refine CallG.same _ (hfit) rfl ?_ | refine CallK.pv (hfit) rfl rfl ?_
  simp -implicitDefEqProofs
  refine ⟨fun h => ?_, fun h => ?_⟩
  · subst h
    simp at hx
    subst hx
    cases hf : bsF (cmpS e.router) l with
    | true =>
      refine CallO.mk [] [1] (takeS_spec l e A1 hf) (by simp) rfl (by simp) (by simp) (by simp) ?_
      simp -implicitDefEqProofs
      refine EndZ.ret [1] (.tup [.row 1, .int .i64 0]) (by simp) ?_
      simp -implicitDefEqProofs
    | false =>
      refine CallO.mk [] [1] (takeN_spec l e A1 hf) (by simp) rfl (by simp) (by simp) (by simp) ?_
      simp -implicitDefEqProofs
      refine EndZ.ret [2] (.tup [.row 2, .int .i64 0]) (by simp) ?_
      simp -implicitDefEqProofs
  · rw [if_pos h] at hx
    subst hx
    refine EndZ.ret [1] (.tup [.row 1, .int .i64 M]) (by simp) ?_
    simp -implicitDefEqProofs
end Go.Am


set_option linter.unusedVariables false
set_option linter.unusedSimpArgs false
set_option pp.deepTerms false
set_option pp.deepTerms.threshold 40
namespace Go.Am
open Go.Proofs

theorem cmpL_pos (n : Int) (x : Link) : 0 < cmpL n x ↔ n < x.iface := by
  unfold cmpL cmpI
  repeat' split
  all_goals omega
theorem strictL {l : List Link} (h : checkL l = 0) (n : Int) : strictC (cmpL n) l := by
  refine (checkL_sorted h).imp fun {x y} hxy h0 => ?_
  rw [cmpL_pos]
  have := cmpL_neg n x
  omega
theorem ltL_cmp (i : Int) (l : List Link) : ltL i l = l.filter fun x => decide (cmpL i x < 0) := by
  unfold ltL
  simp only [cmpL_neg]
theorem gtL_cmp (i : Int) (l : List Link) : gtL i l = l.filter fun x => decide (0 < cmpL i x) := by
  unfold gtL
  simp only [cmpL_pos]
theorem eqL_bs {l : List Link} (h : checkL l = 0) (i : Int) : eqL i l = [] ↔ bsF (cmpL i) l = false := by
  have hm := bs_mem (strictL h i)
  unfold eqL
  rw [List.filter_eq_nil_iff]
  constructor
  · intro h1
    cases hf : bsF (cmpL i) l with
    | false => rfl
    | true =>
      obtain ⟨x, hx, h0⟩ := hm.1 hf
      have := h1 x hx
      rw [cmpL_zero] at h0
      simp [h0] at this
  · intro h1 x hx
    have : ¬ ∃ x ∈ l, cmpL i x = 0 := fun h2 => by rw [hm.2 h2] at h1; cases h1
    simp only [decide_eq_true_eq]
    intro h2
    exact this ⟨x, hx, (cmpL_zero i x).2 h2⟩
theorem checkLL_02 : ∀ (l : List Link) (a : Int), checkLL l a = 0 ∨ checkLL l a = 2
  | [], _ => .inl rfl
  | s :: t, a => by
    rw [checkLL]
    split
    · exact .inr rfl
    · exact checkLL_02 t _
theorem checkL_32 {l : List Link} (h : checkL l = 0) : l.length ≤ 32 := by
  unfold checkL at h
  split at h
  · cases h
  · omega
set_option maxRecDepth 8000 in
set_option maxHeartbeats 2000000 in
theorem putLo_spec (l : List Link) (x : Link) :
    FSpec Tryz.prog 242 [.im (.sl 2 (l.map Link.iv)), x.av] [] (.tup [.im (.sl 2 ((putLk l x).1.map Link.iv)), .int .i64 (putLk l x).2]) [] := by
  have hc := checkL_spec l
  have ho := rightL_spec x
  refine FSpec.of_z (q := []) Tryz.func242 (by kernel_rfl) rfl Tryz.ntmps242 Tryz.results242 hP (by kernel_rfl) (by simp) (by first | rfl | simp) ?_
  simp -implicitDefEqProofs
  first | refine CallK.same (hc) rfl rfl ?_ | refine CallQ.same (hc) rfl rfl ?_ | refine CallQG.same _ (hc) rfl ?_ | refine CallG.same _ (hc) rfl ?_ | refine CallK.pv (hc) rfl rfl ?_
  simp -implicitDefEqProofs
  first | refine CallK.same (ho) rfl rfl ?_ | refine CallQ.same (ho) rfl rfl ?_ | refine CallQG.same _ (ho) rfl ?_ | refine CallG.same _ (ho) rfl ?_ | refine CallK.pv (ho) rfl rfl ?_
  simp -implicitDefEqProofs
  refine ⟨fun h => ?_, fun a1 a2 => ?_⟩
  · refine EndZ.ret [] (.tup [.im (.sc (.slice none 0 0)), .int .i64 2]) (by simp) ?_
    simp [putLk, h]
  have hlen := checkL_32 a1
  have hcl := cloLink_spec (l.map Link.iv) (by simp; omega)
  have hf := findL_spec l x.iface (fun i j x y => strict_up (strictL a1 _) i j x y)
  have hP : putLk l x = if bsF (cmpL x.iface) l = false ∧ l.length = 32 then (l, 8) else (l.filter (fun y => decide (cmpL x.iface y < 0)) ++ [x] ++ l.filter (fun y => decide (0 < cmpL x.iface y)), 0) := by
    unfold putLk
    rw [if_neg (by simp [a1, a2]), ltL_cmp, gtL_cmp]
    simp only [eqL_bs a1]
  have hs1 := bs_set (strictL a1 x.iface) x
  have hs2 := bs_ins (strictL a1 x.iface) x
  have hlt1 := fun hh => bsF_ltn (c := cmpL x.iface) (l := l) hh
  have hle := bsI_le (cmpL x.iface) l
  generalize putLk l x = RES at *
  generalize bsI (cmpL x.iface) l = i at *
  have hi := insLink_spec (l.map Link.iv) x.iv i (by simpa using hle) (by simp; omega)
  refine CallK.outs [] hcl rfl (by simp) (by simp [AV.flat]) ?_
  simp -implicitDefEqProofs
  refine CallK.fz [1] hf rfl (by simp) rfl ?_
  simp -implicitDefEqProofs
  cases hfb : bsF (cmpL x.iface) l with
  | true =>
    have hlt := hlt1 hfb
    have hset := hs1 hfb
    have hmod := mod_set Link.iv l x i (fun y => [.sc (.int .i64 x.iface), .sc (.int .i64 x.peer)] ++ y.drop 2) (fun y => by simp)
    obtain ⟨Y, hY⟩ : ∃ Y, l.set i x = Y := ⟨_, rfl⟩
    rw [if_neg (by simp [hfb]), ← hset, hY] at hP
    rw [hY] at hmod
    subst hP
    simp -implicitDefEqProofs [hlt]
    refine EndZ.ret [1] (.tup [.row 1, .int .i64 0]) (by simp) ?_
    rw [← hmod]
    simp -implicitDefEqProofs
  | false =>
    have hset := hs2 hfb
    simp -implicitDefEqProofs
    refine ⟨fun h32 => ?_, fun h32 => ?_⟩
    · rw [if_pos ⟨hfb, by omega⟩] at hP
      subst hP
      refine EndZ.ret [1] (.tup [.row 1, .int .i64 8]) (by simp) ?_
      simp -implicitDefEqProofs
    · rw [if_neg (fun hh => h32 (by omega)), ← hset] at hP
      subst hP
      refine CallO.mk [] [1, 2] hi (by simp) rfl (by simp) (by simp) (by simp) ?_
      simp -implicitDefEqProofs
      refine EndZ.ret [3] (.tup [.row 3, .int .i64 0]) (by simp) ?_
      simp -implicitDefEqProofs
set_option maxRecDepth 8000 in
set_option maxHeartbeats 2000000 in
theorem delLo_spec (l : List Link) (i : Int) :
    FSpec Tryz.prog 243 [.im (.sl 2 (l.map Link.iv)), .int .i64 i] [] (.tup [.im (.sl 2 ((delLk l i).1.map Link.iv)), .int .i64 (delLk l i).2]) [] := by
  have hc := checkL_spec l
  refine FSpec.of_z (q := []) Tryz.func243 (by kernel_rfl) rfl Tryz.ntmps243 Tryz.results243 hP (by kernel_rfl) (by simp) (by first | rfl | simp) ?_
  simp -implicitDefEqProofs
  first | refine CallK.same (hc) rfl rfl ?_ | refine CallQ.same (hc) rfl rfl ?_ | refine CallQG.same _ (hc) rfl ?_ | refine CallG.same _ (hc) rfl ?_ | refine CallK.pv (hc) rfl rfl ?_
  simp -implicitDefEqProofs
  have hcv : checkL l = 0 ∨ checkL l = 2 := by
    unfold checkL
    split
    · exact .inr rfl
    · exact checkLL_02 l _
  refine ⟨fun h => ?_, fun a1 => ?_⟩
  · have h2 : checkL l = 2 := by omega
    refine EndZ.ret [] (.tup [.im (.sc (.slice none 0 0)), .int .i64 2]) (by simp [h2]) ?_
    simp [delLk, h]
  have hlen := checkL_32 a1
  have hcl := cloLink_spec (l.map Link.iv) (by simp; omega)
  have hf := findL_spec l i (fun i j x y => strict_up (strictL a1 _) i j x y)
  have hP : delLk l i = (l.filter (fun y => decide (cmpL i y < 0)) ++ l.filter (fun y => decide (0 < cmpL i y)), if bsF (cmpL i) l = false then 3 else 0) := by
    unfold delLk
    rw [if_neg (by simp [a1]), ltL_cmp, gtL_cmp]
    simp only [eqL_bs a1]
  have hs1 := bs_del (strictL a1 i)
  have hs2 := bs_none (strictL a1 i)
  have hlt1 := fun hh => bsF_ltn (c := cmpL i) (l := l) hh
  generalize delLk l i = RES at *
  generalize bsI (cmpL i) l = j at *
  refine CallK.outs [] hcl rfl (by simp) (by simp [AV.flat]) ?_
  simp -implicitDefEqProofs
  refine CallK.fz [0] hf rfl (by simp) rfl ?_
  simp -implicitDefEqProofs
  cases hfb : bsF (cmpL i) l with
  | true =>
    have hlt := hlt1 hfb
    have hset := hs1 hfb
    have hd := delLink_spec (l.map Link.iv) j (by simpa using hlt) (by simp; omega)
    have e1 : IntKind.i64.wrap ((j : Int) + 1) = (j + 1 : Nat) := wrap64 (by omega) (by omega)
    rw [← hset, if_neg (by simp [hfb])] at hP
    subst hP
    simp -implicitDefEqProofs [e1]
    refine CallO.mk [] [0] hd (by simp) rfl (by simp) (by simp) (by simp) ?_
    simp -implicitDefEqProofs
    refine EndZ.ret [1] (.tup [.row 1, .int .i64 0]) (by simp) ?_
    simp -implicitDefEqProofs
  | false =>
    rw [← hs2 hfb, if_pos hfb] at hP
    subst hP
    simp -implicitDefEqProofs
    refine EndZ.ret [0] (.tup [.row 0, .int .i64 3]) (by simp) ?_
    simp -implicitDefEqProofs
end Go.Am


set_option linter.unusedVariables false
set_option linter.unusedSimpArgs false
set_option pp.deepTerms false
set_option pp.deepTerms.threshold 40
namespace Go.Am
open Go.Proofs

theorem bs_ne {α : Type} {c : α → Int} : ∀ {l : List α}, strictC c l → l.filter (fun x => decide (¬ c x = 0)) = l.filter (fun x => decide (c x < 0)) ++ l.filter fun x => decide (0 < c x)
  | [], _ => rfl
  | x :: l, h => by
    have h1 := List.pairwise_cons.1 h
    have ih := bs_ne h1.2
    simp only [List.filter_cons]
    by_cases hx : c x < 0
    · have h2 : ¬ c x = 0 := by omega
      have h3 : ¬ 0 < c x := by omega
      simp only [hx, h2, h3, decide_true, decide_false, not_false_eq_true, if_true, Bool.false_eq_true, if_false, List.cons_append, ih]
    · have hl : l.filter (fun x => decide (c x < 0)) = [] := by
        rw [List.filter_eq_nil_iff]
        intro y hy
        have := h1.1 y hy (by omega)
        simp; omega
      rw [hl, List.nil_append] at ih
      by_cases h0 : c x = 0
      · have h3 : ¬ 0 < c x := by omega
        simp only [hx, h0, decide_false, not_true_eq_false, if_false, Bool.false_eq_true, hl, List.nil_append, ih]
        simp
      · have h3 : 0 < c x := by omega
        simp only [hx, h0, h3, decide_true, decide_false, not_false_eq_true, if_true, Bool.false_eq_true, if_false, hl, List.nil_append, ih]
theorem cmpP_gt (p q : Pfx) : 0 < cmpP p q ↔ cmpP q p < 0 := by
  rw [cmpP_iff]
  simp only [cmpP, cmpA, orInt, cmpI]
  repeat' split
  all_goals omega
theorem cmpP_zero (p q : Pfx) : cmpP p q = 0 ↔ sameP p q = true := by
  have h1 := cmpP_iff p q
  have h2 := cmpP_gt p q
  have h3 := cmpP_iff q p
  have hk : kindP p = kindP q ↔ p.six = q.six := by
    unfold kindP
    cases p.six <;> cases q.six <;> simp
  rw [sameP_iff, ← hk]
  omega
theorem checkR_sorted {l : List Route} (h : checkR l = 0) : l.Pairwise fun r s => cmpP r.pfx s.pfx < 0 := by
  unfold checkR at h
  split at h
  · cases h
  · exact (checkRL_sorted h).2.2
theorem strictR {l : List Route} (h : checkR l = 0) (p : Pfx) : strictC (cmpQ p) l := by
  refine (checkR_sorted h).imp fun {x y} hxy h0 => ?_
  unfold cmpQ at *
  rw [cmpP_gt]
  have h1 := cmpP_iff x.pfx p
  rw [cmpP_iff] at hxy ⊢
  omega
theorem woR_cmp {l : List Route} (h : checkR l = 0) (p : Pfx) : woR p l = l.filter (fun x => decide (cmpQ p x < 0)) ++ l.filter fun x => decide (0 < cmpQ p x) := by
  rw [← bs_ne (strictR h p)]
  unfold woR cmpQ
  congr
  funext r
  have := cmpP_zero r.pfx p
  cases hs : sameP r.pfx p <;> simp [hs] at this <;> simp [this]
theorem ltR_wo (l : List Route) (p : Pfx) : ltR p (woR p l) = l.filter fun x => decide (cmpQ p x < 0) := by
  unfold ltR woR cmpQ
  rw [List.filter_filter]
  congr
  funext r
  have := cmpP_zero r.pfx p
  cases hs : sameP r.pfx p <;> simp [hs] at this <;> simp [this]
theorem gtR_wo (l : List Route) (p : Pfx) : gtR p (woR p l) = l.filter fun x => decide (0 < cmpQ p x) := by
  unfold gtR woR cmpQ
  rw [List.filter_filter]
  congr
  funext r
  have := cmpP_zero r.pfx p
  have h2 := cmpP_gt r.pfx p
  cases hs : sameP r.pfx p <;> simp [hs] at this <;> simp [← h2, this]
theorem woR_256 {l : List Route} (h : checkR l = 0) (p : Pfx) : (woR p l).length = 256 ↔ bsF (cmpQ p) l = false ∧ l.length = 256 := by
  have hl := checkR_len h
  rw [woR_cmp h]
  cases hf : bsF (cmpQ p) l with
  | false =>
    rw [← bs_none (strictR h p) hf]
    simp
  | true =>
    rw [← bs_del (strictR h p) hf]
    have := bsF_ltn hf
    simp
    omega
theorem findW_bs {l : List Route} (h : checkR l = 0) (p : Pfx) : (findW p l).isSome = bsF (cmpQ p) l := by
  have hm := bs_mem (strictR h p)
  have hw : ∀ l : List Route, (findW p l).isSome = true ↔ ∃ x ∈ l, cmpQ p x = 0 := by
    intro l
    induction l with
    | nil => simp [findW]
    | cons x l ih =>
      rw [findW]
      have := cmpP_zero x.pfx p
      split
      · rename_i hs
        simp only [Option.isSome_some, true_iff]
        exact ⟨x, List.mem_cons_self, this.2 hs⟩
      · rename_i hs
        rw [ih]
        constructor
        · rintro ⟨y, hy, h0⟩; exact ⟨y, List.mem_cons_of_mem _ hy, h0⟩
        · rintro ⟨y, hy, h0⟩
          rcases List.mem_cons.1 hy with rfl | hy
          · exact absurd (this.1 h0) hs
          · exact ⟨y, hy, h0⟩
  have := (hw l).trans hm.symm
  cases h1 : (findW p l).isSome <;> cases h2 : bsF (cmpQ p) l <;> simp [h1, h2] at this ⊢
set_option maxRecDepth 8000 in
set_option maxHeartbeats 2000000 in
theorem putRo_spec (l : List Route) (x : Route) :
    FSpec Tryz.prog 239 [.im (.sl 6 (l.map Route.iv)), x.av] [] (.tup [.im (.sl 6 ((putRt l x).1.map Route.iv)), .int .i64 (putRt l x).2]) [] := by
  have hc := checkR_spec l
  have ho := routeOk_spec x
  refine FSpec.of_z (q := []) Tryz.func239 (by kernel_rfl) rfl Tryz.ntmps239 Tryz.results239 hP (by kernel_rfl) (by simp) (by first | rfl | simp) ?_
  simp -implicitDefEqProofs
  first | refine CallK.same (hc) rfl rfl ?_ | refine CallQ.same (hc) rfl rfl ?_ | refine CallQG.same _ (hc) rfl ?_ | refine CallG.same _ (hc) rfl ?_ | refine CallK.pv (hc) rfl rfl ?_
  simp -implicitDefEqProofs
  first | refine CallK.same (ho) rfl rfl ?_ | refine CallQ.same (ho) rfl rfl ?_ | refine CallQG.same _ (ho) rfl ?_ | refine CallG.same _ (ho) rfl ?_ | refine CallK.pv (ho) rfl rfl ?_
  simp -implicitDefEqProofs
  refine ⟨fun h => ?_, fun a1 a2 => ?_⟩
  · refine EndZ.ret [] (.tup [.im (.sc (.slice none 0 0)), .int .i64 2]) (by simp) ?_
    simp [putRt, h]
  have hlen := checkR_len a1
  have hcl := cloRoute_spec (l.map Route.iv) (by simp; omega)
  have hf := bsR_spec l x.pfx (strictR a1 _)
  have hP : putRt l x = if bsF (cmpQ x.pfx) l = false ∧ l.length = 256 then (l, 8) else (l.filter (fun y => decide (cmpQ x.pfx y < 0)) ++ [x] ++ l.filter (fun y => decide (0 < cmpQ x.pfx y)), 0) := by
    unfold putRt
    rw [if_neg (by simp [a1, a2]), ltR_wo, gtR_wo]
    simp only [woR_256 a1]
  have hs1 := bs_set (strictR a1 x.pfx) x
  have hs2 := bs_ins (strictR a1 x.pfx) x
  have hlt1 := fun hh => bsF_ltn (c := cmpQ x.pfx) (l := l) hh
  have hle := bsI_le (cmpQ x.pfx) l
  generalize putRt l x = RES at *
  generalize bsI (cmpQ x.pfx) l = i at *
  have hi := insRoute_spec (l.map Route.iv) x.iv i (by simpa using hle) (by simp; omega)
  refine CallK.outs [] hcl rfl (by simp) (by simp [AV.flat]) ?_
  simp -implicitDefEqProofs
  refine CallK.fz [1] hf rfl (by simp) rfl ?_
  simp -implicitDefEqProofs
  cases hfb : bsF (cmpQ x.pfx) l with
  | true =>
    have hlt := hlt1 hfb
    have hset := hs1 hfb
    have hmod := mod_set Route.iv l x i (fun y => x.iv ++ y.drop 6) (fun y => by simp)
    obtain ⟨Y, hY⟩ : ∃ Y, l.set i x = Y := ⟨_, rfl⟩
    rw [if_neg (by simp [hfb]), ← hset, hY] at hP
    rw [hY] at hmod
    subst hP
    simp -implicitDefEqProofs [hlt]
    refine EndZ.ret [1] (.tup [.row 1, .int .i64 0]) (by simp) ?_
    rw [← hmod]
    simp -implicitDefEqProofs
  | false =>
    have hset := hs2 hfb
    simp -implicitDefEqProofs
    refine ⟨fun h32 => ?_, fun h32 => ?_⟩
    · rw [if_pos ⟨hfb, by omega⟩] at hP
      subst hP
      refine EndZ.ret [1] (.tup [.row 1, .int .i64 8]) (by simp) ?_
      simp -implicitDefEqProofs
    · rw [if_neg (fun hh => h32 (by omega)), ← hset] at hP
      subst hP
      refine CallO.mk [] [1, 2] hi (by simp) rfl (by simp) (by simp) (by simp) ?_
      simp -implicitDefEqProofs
      refine EndZ.ret [3] (.tup [.row 3, .int .i64 0]) (by simp) ?_
      simp -implicitDefEqProofs
theorem findRo_spec (l : List Route) (p : Pfx) :
    FSpec Tryz.prog 255 [.im (.sl 6 (l.map Route.iv)), p.av] [] (.tup [.int .i64 (if findRt l p = 0 then bsI (cmpQ p) l else 0), .int .i64 (findRt l p)]) [] := by
  have hc := checkR_spec l
  have ho := checkP_spec p
  refine FSpec.of_flat (q := []) Tryz.func255 (by kernel_rfl) rfl Tryz.ntmps255 Tryz.results255 hP (by kernel_rfl) (by simp) (by first | rfl | simp) ?_
  simp -implicitDefEqProofs
  first | refine CallK.same (hc) rfl rfl ?_ | refine CallQ.same (hc) rfl rfl ?_ | refine CallQG.same _ (hc) rfl ?_ | refine CallG.same _ (hc) rfl ?_ | refine CallK.pv (hc) rfl rfl ?_
  simp -implicitDefEqProofs
  first | refine CallK.same (ho) rfl rfl ?_ | refine CallQ.same (ho) rfl rfl ?_ | refine CallQG.same _ (ho) rfl ?_ | refine CallG.same _ (ho) rfl ?_ | refine CallK.pv (ho) rfl rfl ?_
  simp -implicitDefEqProofs
  refine ⟨fun h => ?_, fun a1 a2 => ?_⟩
  · simp [findRt, h]
  have hf := bsR_spec l p (strictR a1 _)
  have hx : findRt l p = if bsF (cmpQ p) l then 0 else 3 := by
    unfold findRt
    rw [if_neg (by simp [a1, a2]), findW_bs a1]
  first | refine CallK.same (hf) rfl rfl ?_ | refine CallQ.same (hf) rfl rfl ?_ | refine CallQG.same _ (hf) rfl ?_ | refine CallG.same _ (hf) rfl ?_ | refine CallK.pv (hf) rfl rfl ?_
  simp -implicitDefEqProofs
  rw [hx]
  cases bsF (cmpQ p) l <;> simp
set_option maxRecDepth 8000 in
set_option maxHeartbeats 2000000 in
theorem delRo_spec (l : List Route) (p : Pfx) :
    FSpec Tryz.prog 240 [.im (.sl 6 (l.map Route.iv)), p.av] [] (.tup [.im (.sl 6 ((delRt l p).1.map Route.iv)), .int .i64 (delRt l p).2]) [] := by
  have hf := findRo_spec l p
  refine FSpec.of_z (q := []) Tryz.func240 (by kernel_rfl) rfl Tryz.ntmps240 Tryz.results240 hP (by kernel_rfl) (by simp) (by first | rfl | simp) ?_
  simp -implicitDefEqProofs
  first | refine CallK.same (hf) rfl rfl ?_ | refine CallQ.same (hf) rfl rfl ?_ | refine CallQG.same _ (hf) rfl ?_ | refine CallG.same _ (hf) rfl ?_ | refine CallK.pv (hf) rfl rfl ?_
  simp -implicitDefEqProofs
  by_cases h2 : findRt l p = 2
  · simp -implicitDefEqProofs [h2]
    refine EndZ.ret [] (.tup [.im (.sc (.slice none 0 0)), .int .i64 2]) (by simp [h2]) ?_
    simp [delRt, h2]
  have a1 : checkR l = 0 := by
    apply Classical.byContradiction
    intro h
    apply h2
    unfold findRt
    rw [if_pos (.inl h)]
  have hx : findRt l p = if bsF (cmpQ p) l then 0 else 3 := by
    unfold findRt at h2 ⊢
    split at h2
    · exact absurd rfl h2
    · rename_i h3
      rw [if_neg h3, findW_bs a1]
  have hP : delRt l p = (l.filter (fun y => decide (cmpQ p y < 0)) ++ l.filter (fun y => decide (0 < cmpQ p y)), if bsF (cmpQ p) l then 0 else 3) := by
    unfold delRt
    rw [if_neg h2, woR_cmp a1, hx]
  have hlen := checkR_len a1
  have hcl := cloRoute_spec (l.map Route.iv) (by simp; omega)
  have hs1 := bs_del (strictR a1 p)
  have hs2 := bs_none (strictR a1 p)
  have hlt1 := fun hh => bsF_ltn (c := cmpQ p) (l := l) hh
  generalize delRt l p = RES at *
  generalize bsI (cmpQ p) l = j at *
  cases hfb : bsF (cmpQ p) l with
  | true =>
    rw [if_pos hfb] at hx
    have hlt := hlt1 hfb
    have hset := hs1 hfb
    have hd := delRoute_spec (l.map Route.iv) j (by simpa using hlt) (by simp; omega)
    have e1 : IntKind.i64.wrap ((j : Int) + 1) = (j + 1 : Nat) := wrap64 (by omega) (by omega)
    rw [← hset, if_pos hfb] at hP
    subst hP
    simp -implicitDefEqProofs [hx, e1]
    refine CallK.outs [] hcl rfl (by simp) (by simp [AV.flat]) ?_
    simp -implicitDefEqProofs [hx, e1]
    refine CallO.mk [] [1] hd (by simp) rfl (by simp) (by simp) (by simp) ?_
    simp -implicitDefEqProofs
    refine EndZ.ret [2] (.tup [.row 2, .int .i64 0]) (by simp) ?_
    simp -implicitDefEqProofs
  | false =>
    rw [if_neg (by simp [hfb])] at hx
    rw [← hs2 hfb, if_neg (by simp [hfb])] at hP
    subst hP
    simp -implicitDefEqProofs [hx]
    refine CallK.outs [] hcl rfl (by simp) (by simp [AV.flat]) ?_
    simp -implicitDefEqProofs [hx]
    refine EndZ.ret [1] (.tup [.row 1, .int .i64 3]) (by simp) ?_
    simp -implicitDefEqProofs
end Go.Am


set_option linter.unusedVariables false
set_option linter.unusedSimpArgs false
set_option pp.deepTerms false
set_option pp.deepTerms.threshold 40
namespace Go.Am
open Go.Proofs

theorem ownF_spec (r : Router) (h1 : r.routes.length ≤ 4096) (h2 : r.links.length ≤ 4096) : FSpec Tryz.prog 161 [r.av] [] r.av [] := by
  have hc1 := cloRoute_spec (r.routes.map Route.iv) (by simpa using h1)
  have hc2 := cloLink_spec (r.links.map Link.iv) (by simpa using h2)
  refine FSpec.of_z (q := [(1, .m [.p [], .p [], .e [4], .p [0], .p [0], .e [7], .p [1]])]) Tryz.func161 (by kernel_rfl) rfl Tryz.ntmps161 Tryz.results161 hP (by kernel_rfl) (by simp) (by first | rfl | simp) ?_
  simp -implicitDefEqProofs
  refine CallK.outs [] hc1 rfl (by simp) (by simp [AV.flat]) ?_
  simp -implicitDefEqProofs
  refine CallK.outs [] hc2 rfl (by simp) (by simp [AV.flat]) ?_
  simp -implicitDefEqProofs
  refine EndZ.ret [2, 3] (.agg [.int .i64 r.id, .bool r.up, .row 2, .row 3]) (by simp) ?_
  simp -implicitDefEqProofs
@[simp] def boxR (r : Router) : AObj := .box 265 [.int .i64 r.id, .bool r.up, .im (.sl 6 (r.routes.map Route.iv)), .im (.sl 2 (r.links.map Link.iv))]
theorem setRoutes_spec (r : Router) (l : List Route) (w : Int) : FSpec Tryz.prog 238 [.ptr 0 0, .im (.sl 6 (l.map Route.iv)), .int .i64 w] [boxR r] (.int .i64 w) [boxR ⟨r.id, r.up, l, r.links⟩] := by
  refine FSpec.of_o (q := []) Tryz.func238 (by kernel_rfl) rfl Tryz.ntmps238 Tryz.results238 hP (by kernel_rfl) (by simp) (by first | rfl | simp) ?_
  simp -implicitDefEqProofs [boxR]
  refine EndO.ret [] [0] (.int .i64 w) (by simp) (by simp)
theorem setLinks_spec (r : Router) (l : List Link) (w : Int) : FSpec Tryz.prog 241 [.ptr 0 0, .im (.sl 2 (l.map Link.iv)), .int .i64 w] [boxR r] (.int .i64 w) [boxR ⟨r.id, r.up, r.routes, l⟩] := by
  refine FSpec.of_o (q := []) Tryz.func241 (by kernel_rfl) rfl Tryz.ntmps241 Tryz.results241 hP (by kernel_rfl) (by simp) (by first | rfl | simp) ?_
  simp -implicitDefEqProofs [boxR]
  refine EndO.ret [] [0] (.int .i64 w) (by simp) (by simp)
def doneR (r : Router) (e : Ev) : Router × Int :=
  if r.up = (e.kind == 1) then (r, 10)
  else if e.kind = 1 then (⟨r.id, true, r.routes, r.links⟩, 0)
  else if e.kind = 2 then (⟨r.id, false, [], []⟩, 0)
  else if e.kind = 3 then (⟨r.id, r.up, (putRt r.routes ⟨e.pfx, e.act⟩).1, r.links⟩, (putRt r.routes ⟨e.pfx, e.act⟩).2)
  else if e.kind = 4 then (⟨r.id, r.up, (delRt r.routes e.pfx).1, r.links⟩, 0)
  else if e.kind = 5 then (⟨r.id, r.up, r.routes, (putLk r.links ⟨e.iface, e.peer⟩).1⟩, (putLk r.links ⟨e.iface, e.peer⟩).2)
  else (⟨r.id, r.up, r.routes, (delLk r.links e.iface).1⟩, 0)
theorem evOk_tail {e : Ev} (h : evOk e = true) : tailOk e = true := by
  unfold evOk at h
  simp only [Bool.and_eq_true] at h
  exact h.2
theorem doneR_eq {r : Router} {e : Ev} (h1 : routerOk r = true) (h2 : evOk e = true) (h3 : e.router = r.id) : doneR r e = applyR r e := by
  unfold applyR doneR
  simp only [h1, h2, h3, Bool.true_eq_false, or_self, not_true_eq_false, if_false]
  have ht := evOk_tail h2
  unfold routerOk at h1
  simp only [Bool.and_eq_true, beq_iff_eq] at h1
  have hR := h1.1.2
  have hL := h1.2
  by_cases hup : r.up = (e.kind == 1)
  · rw [if_pos hup, if_pos hup]
  rw [if_neg hup, if_neg hup]
  by_cases k1 : e.kind = 1
  · rw [if_pos k1, if_pos k1]
  rw [if_neg k1, if_neg k1]
  by_cases k2 : e.kind = 2
  · rw [if_pos k2, if_pos k2]
  rw [if_neg k2, if_neg k2]
  by_cases k3 : e.kind = 3
  · rw [if_pos k3, if_pos k3]
    have : routeOk ⟨e.pfx, e.act⟩ = true := by
      simp [tailOk, k3] at ht
      simp [routeOk, ht]
    unfold putRt
    rw [if_neg (by simp [hR, this])]
    split <;> simp
  rw [if_neg k3, if_neg k3]
  by_cases k4 : e.kind = 4
  · rw [if_pos k4, if_pos k4]
  rw [if_neg k4, if_neg k4]
  by_cases k5 : e.kind = 5
  · rw [if_pos k5, if_pos k5]
    have : rightL ⟨e.iface, e.peer⟩ = true := by
      simp [tailOk, k5] at ht
      simp [rightL, ifaceOk, idOk] at ht ⊢
      omega
    unfold putLk
    rw [if_neg (by simp [hL, this])]
    split <;> simp
  rw [if_neg k5, if_neg k5]
set_option maxRecDepth 8000 in
set_option maxHeartbeats 4000000 in
theorem happenB_spec (r : Router) (e : Ev) (a2 : evOk e = true) :
    FSpec Tryz.prog 208 [.ptr 0 0, e.av] [boxR r] (.int .i64 (doneR r e).2) [boxR (doneR r e).1] := by
  have hx : doneR r e = _ := rfl
  conv at hx => rhs; unfold doneR
  generalize doneR r e = RES at *
  refine FSpec.of_o (q := [(10, .n 14), (12, .n 11), (14, .n 14), (16, .n 11)]) Tryz.func208 (by kernel_rfl) rfl Tryz.ntmps208 Tryz.results208 hP (by kernel_rfl) (by simp) (by first | rfl | simp) ?_
  simp -implicitDefEqProofs [boxR]
  refine ⟨fun h => ?_, fun a4 => ?_⟩
  · rw [if_pos h] at hx
    subst hx
    refine EndO.ret [] [0] (.int .i64 10) (by simp) (by simp)
  rw [if_neg a4] at hx
  rcases evOk_kind a2 with hk | hk | hk | hk | hk | hk
  · simp [hk] at hx
    subst hx
    simp -implicitDefEqProofs [hk]
    refine EndO.ret [] [0] (.int .i64 0) (by simp) (by simp)
  · simp [hk] at hx
    subst hx
    simp -implicitDefEqProofs [hk]
    refine EndO.ret [] [0] (.int .i64 0) (by simp) (by simp)
  · simp [hk] at hx
    have hp := putRo_spec r.routes ⟨e.pfx, e.act⟩
    simp -implicitDefEqProofs [hk]
    generalize putRt r.routes ⟨e.pfx, e.act⟩ = RS at *
    subst hx
    first | refine CallK.same (hp) rfl rfl ?_ | refine CallQ.same (hp) rfl rfl ?_ | refine CallQG.same _ (hp) rfl ?_ | refine CallG.same _ (hp) rfl ?_ | refine CallK.pv (hp) rfl rfl ?_
    simp -implicitDefEqProofs
    refine CallO.mk [] [0] (setRoutes_spec r RS.1 RS.2) (by simp) rfl (by simp [boxR]) (by simp) (by simp) ?_
    simp -implicitDefEqProofs [boxR]
    refine EndO.ret [] [0] (.int .i64 RS.2) (by simp) (by simp)
  · simp [hk] at hx
    have hp := delRo_spec r.routes e.pfx
    simp -implicitDefEqProofs [hk]
    generalize delRt r.routes e.pfx = RS at *
    subst hx
    first | refine CallK.same (hp) rfl rfl ?_ | refine CallQ.same (hp) rfl rfl ?_ | refine CallQG.same _ (hp) rfl ?_ | refine CallG.same _ (hp) rfl ?_ | refine CallK.pv (hp) rfl rfl ?_
    simp -implicitDefEqProofs
    refine CallO.mk [] [0] (setRoutes_spec r RS.1 RS.2) (by simp) rfl (by simp [boxR]) (by simp) (by simp) ?_
    simp -implicitDefEqProofs [boxR]
    refine EndO.ret [] [0] (.int .i64 0) (by simp) (by simp)
  · simp [hk] at hx
    have hp := putLo_spec r.links ⟨e.iface, e.peer⟩
    simp -implicitDefEqProofs [hk]
    generalize putLk r.links ⟨e.iface, e.peer⟩ = RS at *
    subst hx
    first | refine CallK.same (hp) rfl rfl ?_ | refine CallQ.same (hp) rfl rfl ?_ | refine CallQG.same _ (hp) rfl ?_ | refine CallG.same _ (hp) rfl ?_ | refine CallK.pv (hp) rfl rfl ?_
    simp -implicitDefEqProofs
    refine CallO.mk [] [0] (setLinks_spec r RS.1 RS.2) (by simp) rfl (by simp [boxR]) (by simp) (by simp) ?_
    simp -implicitDefEqProofs [boxR]
    refine EndO.ret [] [0] (.int .i64 RS.2) (by simp) (by simp)
  · simp [hk] at hx
    have hp := delLo_spec r.links e.iface
    simp -implicitDefEqProofs [hk]
    generalize delLk r.links e.iface = RS at *
    subst hx
    first | refine CallK.same (hp) rfl rfl ?_ | refine CallQ.same (hp) rfl rfl ?_ | refine CallQG.same _ (hp) rfl ?_ | refine CallG.same _ (hp) rfl ?_ | refine CallK.pv (hp) rfl rfl ?_
    simp -implicitDefEqProofs
    refine CallO.mk [] [0] (setLinks_spec r RS.1 RS.2) (by simp) rfl (by simp [boxR]) (by simp) (by simp) ?_
    simp -implicitDefEqProofs [boxR]
    refine EndO.ret [] [0] (.int .i64 0) (by simp) (by simp)
set_option maxRecDepth 8000 in
set_option maxHeartbeats 4000000 in
theorem applyRo_spec (r : Router) (e : Ev) (hsq : 0 ≤ e.seq) :
    FSpec Tryz.prog 163 [r.av, e.av] [] (.tup [(applyR r e).1.av, .int .i64 (applyR r e).2]) [] := by
  have hc := checkF_spec r
  have he := evOk_spec e hsq
  have hx1 : routerOk r = false ∨ evOk e = false → applyR r e = (router0, 2) := fun h => by unfold applyR; rw [if_pos h]
  have hx2 : routerOk r = true → evOk e = true → ¬ e.router = r.id → applyR r e = (r, 14) := fun h1 h2 h => by unfold applyR; rw [if_neg (by simp [h1, h2]), if_pos h]
  have hx3 := doneR_eq (r := r) (e := e)
  generalize applyR r e = RES at *
  refine FSpec.of_z (q := []) Tryz.func163 (by kernel_rfl) rfl Tryz.ntmps163 Tryz.results163 hP (by kernel_rfl) (by simp) (by first | rfl | simp) ?_
  simp -implicitDefEqProofs
  first | refine CallK.same (hc) rfl rfl ?_ | refine CallQ.same (hc) rfl rfl ?_ | refine CallQG.same _ (hc) rfl ?_ | refine CallG.same _ (hc) rfl ?_ | refine CallK.pv (hc) rfl rfl ?_
  simp -implicitDefEqProofs
  first | refine CallK.same (he) rfl rfl ?_ | refine CallQ.same (he) rfl rfl ?_ | refine CallQG.same _ (he) rfl ?_ | refine CallG.same _ (he) rfl ?_ | refine CallK.pv (he) rfl rfl ?_
  simp -implicitDefEqProofs
  refine ⟨fun h => ?_, fun a1 a2 => ?_⟩
  · refine EndZ.ret [] (.tup [.agg [.int .i64 0, .bool false, .im (.sc (.slice none 0 0)), .im (.sc (.slice none 0 0))], .int .i64 2]) (by simp) ?_
    simp [hx1 h, router0]
  obtain ⟨l1, l2⟩ := routerOk_len a1
  have hcp := ownF_spec r (by omega) (by omega)
  first | refine CallK.same (hcp) rfl rfl ?_ | refine CallQ.same (hcp) rfl rfl ?_ | refine CallQG.same _ (hcp) rfl ?_ | refine CallG.same _ (hcp) rfl ?_ | refine CallK.pv (hcp) rfl rfl ?_
  simp -implicitDefEqProofs
  refine ⟨fun h => ?_, fun a3 => ?_⟩
  · refine EndZ.ret [] (.tup [r.av, .int .i64 14]) (by simp) ?_
    simp [hx2 a1 a2 h]
  have hR := hx3 a1 a2 a3
  subst hR
  refine CallO.mk [] [3] (happenB_spec r e a2) (by simp) rfl (by simp [boxR]) (by simp) (by simp) ?_
  generalize doneR r e = RES
  simp -implicitDefEqProofs [boxR]
  refine EndZ.ret [] (.tup [RES.1.av, .int .i64 RES.2]) (by simp) ?_
  simp -implicitDefEqProofs
end Go.Am


set_option linter.unusedVariables false
set_option linter.unusedSimpArgs false
set_option pp.deepTerms false
set_option pp.deepTerms.threshold 40
namespace Go.Am
open Go.Proofs

theorem pw_put {α : Type} {R : α → α → Prop} {l : List α} {p q : α → Bool} {x : α} (h : l.Pairwise R) (h1 : ∀ a ∈ l, p a = true → R a x) (h2 : ∀ a ∈ l, q a = true → R x a) (h3 : ∀ a b, R a x → R x b → R a b) : (l.filter p ++ [x] ++ l.filter q).Pairwise R := by
  rw [List.pairwise_append, List.pairwise_append]
  refine ⟨⟨h.filter _, List.pairwise_singleton _ _, ?_⟩, h.filter _, ?_⟩
  · intro a ha b hb
    rw [List.mem_singleton] at hb
    subst hb
    rw [List.mem_filter] at ha
    exact h1 a ha.1 ha.2
  · intro a ha b hb
    rw [List.mem_filter] at hb
    rw [List.mem_append, List.mem_singleton] at ha
    rcases ha with ha | rfl
    · rw [List.mem_filter] at ha
      exact h3 a b (h1 a ha.1 ha.2) (h2 b hb.1 hb.2)
    · exact h2 b hb.1 hb.2
theorem checkRL_of : ∀ {l : List Route} {pv : Option Pfx}, (∀ r ∈ l, routeOk r = true) → (∀ p, pv = some p → ∀ r ∈ l, cmpP p r.pfx < 0) → (l.Pairwise fun r s => cmpP r.pfx s.pfx < 0) → checkRL l pv = 0
  | [], pv, _, _, _ => rfl
  | r :: l, pv, h1, h2, h3 => by
    have h4 := List.pairwise_cons.1 h3
    rw [checkRL, if_neg]
    · exact checkRL_of (fun x hx => h1 x (List.mem_cons_of_mem _ hx)) (fun p hp x hx => by cases hp; exact h4.1 x hx) h4.2
    · have : aheadR pv r = true := by
        cases pv with
        | none => rfl
        | some p => simpa [aheadR] using h2 p rfl r List.mem_cons_self
      simp [h1 r List.mem_cons_self, this]
theorem checkR_of {l : List Route} (h0 : l.length ≤ 256) (h1 : ∀ r ∈ l, routeOk r = true) (h3 : l.Pairwise fun r s => cmpP r.pfx s.pfx < 0) : checkR l = 0 := by
  unfold checkR
  rw [if_neg (by omega)]
  exact checkRL_of h1 (fun p hp => by cases hp) h3
theorem checkR_mem {l : List Route} (h : checkR l = 0) : ∀ r ∈ l, routeOk r = true := by
  unfold checkR at h
  split at h
  · cases h
  · exact (checkRL_sorted h).1
theorem cmpP_trans {p q r : Pfx} (h1 : cmpP p q < 0) (h2 : cmpP q r < 0) : cmpP p r < 0 := by
  rw [cmpP_iff] at *
  omega
theorem putRt_ok {l : List Route} {x : Route} (h : (putRt l x).2 = 0) : checkR (putRt l x).1 = 0 := by
  unfold putRt at h ⊢
  split at h
  · cases h
  rename_i hc
  have hR : checkR l = 0 := by apply Classical.byContradiction; intro hn; exact hc (.inl hn)
  have hx : routeOk x = true := by cases hr : routeOk x with | true => rfl | false => exact absurd (.inr hr) hc
  rw [if_neg hc]
  split at h
  · cases h
  rename_i h256
  rw [if_neg h256, ltR_wo, gtR_wo]
  rw [woR_256 hR] at h256
  have hlen := checkR_len hR
  refine checkR_of ?_ ?_ ?_
  · cases hf : bsF (cmpQ x.pfx) l with
    | true => rw [← bs_set (strictR hR _) x hf]; simpa using hlen
    | false =>
      rw [← bs_ins (strictR hR _) x hf]
      have := bsI_le (cmpQ x.pfx) l
      have h9 : ¬ l.length = 256 := fun h => h256 ⟨hf, h⟩
      simp only [List.length_append, List.length_cons, List.length_take, List.length_drop]
      omega
  · intro r hr
    simp only [List.mem_append, List.mem_singleton, List.mem_filter] at hr
    rcases hr with (hr | rfl) | hr
    · exact checkR_mem hR r hr.1
    · exact hx
    · exact checkR_mem hR r hr.1
  · refine pw_put (checkR_sorted hR) ?_ ?_ ?_
    · intro a ha h1
      exact of_decide_eq_true h1
    · intro a ha h1
      exact (cmpP_gt _ _).1 (of_decide_eq_true h1)
    · intro a b h1 h2
      exact cmpP_trans h1 h2
theorem delRt_ok {l : List Route} {p : Pfx} (hR : checkR l = 0) : checkR (delRt l p).1 = 0 := by
  unfold delRt
  split
  · rfl
  have hlen := checkR_len hR
  have hw := woR_len p l
  refine checkR_of (by show (woR p l).length ≤ 256; omega) ?_ ?_
  · intro r hr
    simp only [woR, List.mem_filter] at hr
    exact checkR_mem hR r hr.1
  · exact (checkR_sorted hR).filter _
theorem checkLL_of : ∀ {l : List Link} {a : Int}, (∀ x ∈ l, rightL x = true) → (∀ x ∈ l, a < x.iface) → (l.Pairwise fun x y => x.iface < y.iface) → checkLL l a = 0
  | [], a, _, _, _ => rfl
  | x :: l, a, h1, h2, h3 => by
    have h4 := List.pairwise_cons.1 h3
    have h5 := h2 x List.mem_cons_self
    rw [checkLL, if_neg (by simp [h1 x List.mem_cons_self]; omega)]
    exact checkLL_of (fun y hy => h1 y (List.mem_cons_of_mem _ hy)) h4.1 h4.2
theorem checkLL_mem : ∀ {l : List Link} {a : Int}, checkLL l a = 0 → ∀ x ∈ l, rightL x = true
  | [], _, _, x, hx => by cases hx
  | y :: l, a, h, x, hx => by
    rw [checkLL] at h
    split at h
    · cases h
    rename_i hc
    simp at hc
    rcases List.mem_cons.1 hx with rfl | hx
    · exact hc.1
    · exact checkLL_mem h x hx
theorem checkL_mem {l : List Link} (h : checkL l = 0) : ∀ x ∈ l, rightL x = true := by
  unfold checkL at h
  split at h
  · cases h
  · exact checkLL_mem h
theorem rightL_pos {x : Link} (h : rightL x = true) : -1 < x.iface := by
  simp [rightL] at h
  omega
theorem checkL_of {l : List Link} (h0 : l.length ≤ 32) (h1 : ∀ x ∈ l, rightL x = true) (h3 : l.Pairwise fun x y => x.iface < y.iface) : checkL l = 0 := by
  unfold checkL
  rw [if_neg (by omega)]
  exact checkLL_of h1 (fun x hx => rightL_pos (h1 x hx)) h3
theorem putLk_ok {l : List Link} {x : Link} (h : (putLk l x).2 = 0) : checkL (putLk l x).1 = 0 := by
  unfold putLk at h ⊢
  split at h
  · cases h
  rename_i hc
  have hR : checkL l = 0 := by apply Classical.byContradiction; intro hn; exact hc (.inl hn)
  have hx : rightL x = true := by cases hr : rightL x with | true => rfl | false => exact absurd (.inr hr) hc
  rw [if_neg hc]
  split at h
  · cases h
  rename_i h32
  rw [if_neg h32, ltL_cmp, gtL_cmp]
  rw [eqL_bs hR] at h32
  have hlen := checkL_32 hR
  refine checkL_of ?_ ?_ ?_
  · cases hf : bsF (cmpL x.iface) l with
    | true => rw [← bs_set (strictL hR _) x hf]; simpa using hlen
    | false =>
      rw [← bs_ins (strictL hR _) x hf]
      have := bsI_le (cmpL x.iface) l
      have h9 : ¬ l.length = 32 := fun h => h32 ⟨hf, h⟩
      simp only [List.length_append, List.length_cons, List.length_take, List.length_drop]
      omega
  · intro r hr
    simp only [List.mem_append, List.mem_singleton, List.mem_filter] at hr
    rcases hr with (hr | rfl) | hr
    · exact checkL_mem hR r hr.1
    · exact hx
    · exact checkL_mem hR r hr.1
  · refine pw_put (checkL_sorted hR) ?_ ?_ ?_
    · intro a ha h1
      simpa [cmpL_neg] using h1
    · intro a ha h1
      simpa [cmpL_pos] using h1
    · intro a b h1 h2
      omega
theorem delLk_ok {l : List Link} {i : Int} (hR : checkL l = 0) : checkL (delLk l i).1 = 0 := by
  unfold delLk
  rw [if_neg (by simp [hR])]
  have hlen := checkL_32 hR
  rw [ltL_cmp, gtL_cmp, ← bs_ne (strictL hR i)]
  refine checkL_of ?_ ?_ ?_
  · have := List.length_filter_le (fun x : Link => decide (¬ cmpL i x = 0)) l
    show (l.filter (fun x : Link => decide (¬ cmpL i x = 0))).length ≤ 32
    omega
  · intro r hr
    exact checkL_mem hR r (List.mem_filter.1 hr).1
  · exact (checkL_sorted hR).filter _
theorem applyR_ok {r : Router} {e : Ev} (h1 : routerOk r = true) (h2 : evOk e = true) (h3 : e.router = r.id) (h4 : (applyR r e).2 = 0) : routerOk (applyR r e).1 = true ∧ (applyR r e).1.id = e.router ∧ (applyR r e).1.up = (e.kind != 2) := by
  have h1' := h1
  unfold applyR at h4 ⊢
  simp only [h1, h2, h3, Bool.true_eq_false, or_self, not_true_eq_false, if_false] at h4 ⊢
  unfold routerOk at h1
  simp only [Bool.and_eq_true, beq_iff_eq] at h1
  obtain ⟨⟨⟨a1, a2⟩, a3⟩, a4⟩ := h1
  by_cases hup : r.up = (e.kind == 1)
  · rw [if_pos hup] at h4
    cases h4
  rw [if_neg hup] at h4 ⊢
  by_cases k1 : e.kind = 1
  · rw [if_pos k1] at h4 ⊢
    simp [routerOk, a1, a3, a4, k1]
  rw [if_neg k1] at h4 ⊢
  have hu : r.up = true := by
    cases hr : r.up with
    | true => rfl
    | false => exact absurd (by rw [hr]; symm; simpa using k1) hup
  by_cases k2 : e.kind = 2
  · rw [if_pos k2] at h4 ⊢
    simp [routerOk, a1, k2, checkR, checkRL, checkL, checkLL]
  rw [if_neg k2] at h4 ⊢
  by_cases k3 : e.kind = 3
  · rw [if_pos k3] at h4 ⊢
    split at h4
    · rename_i hp
      rw [if_pos hp]
      simp [routerOk, a1, a4, hu, k2, putRt_ok hp]
    · rename_i hp
      exact absurd h4 hp
  rw [if_neg k3] at h4 ⊢
  by_cases k4 : e.kind = 4
  · rw [if_pos k4] at h4 ⊢
    simp [routerOk, a1, a4, hu, k2, delRt_ok a3]
  rw [if_neg k4] at h4 ⊢
  by_cases k5 : e.kind = 5
  · rw [if_pos k5] at h4 ⊢
    split at h4
    · rename_i hp
      rw [if_pos hp]
      simp [routerOk, a1, a3, hu, k2, putLk_ok hp]
    · rename_i hp
      exact absurd h4 hp
  rw [if_neg k5] at h4 ⊢
  simp [routerOk, a1, a3, hu, k2, delLk_ok a4]
end Go.Am


set_option linter.unusedVariables false
set_option linter.unusedSimpArgs false
set_option pp.deepTerms false
set_option pp.deepTerms.threshold 40
namespace Go.Am
open Go.Proofs

theorem mayS_zero {l : List Seat} {e : Ev} {hz : Int} (h : mayS l e hz = 0) : checkS l = 0 ∧ evOk e = true ∧ -1 ≤ hz ∧ hz ≤ 1099511627776 ∧ mayT l e hz = 0 := by
  unfold mayS at h
  split at h
  · cases h
  rename_i h1
  split at h
  · cases h
  rename_i h2
  refine ⟨?_, ?_, by omega, by omega, h⟩
  · apply Classical.byContradiction; intro hn; exact h1 (.inl hn)
  · cases he : evOk e with | true => rfl | false => exact absurd (.inr he) h1
theorem mayT_len {l : List Seat} {e : Ev} {hz : Int} (h : mayT l e hz = 0) : seatF l e.router = none → ¬ l.length = 64 := by
  intro h1 h2
  unfold mayT at h
  split at h
  · cases h
  split at h
  · cases h
  split at h
  · cases h
  split at h
  · cases h
  rw [if_pos ⟨h1, h2⟩] at h
  cases h
theorem seatF_none {l : List Seat} {x : Int} : seatF l x = none ↔ ¬ ∃ s ∈ l, s.router = x := by
  induction l with
  | nil => simp [seatF]
  | cons s l ih =>
    rw [seatF]
    split
    · rename_i h
      simp [h]
    · rename_i h
      rw [ih]
      simp [h]
theorem cmpS_zero (n : Int) (x : Seat) : cmpS n x = 0 ↔ x.router = n := by
  have h1 := cmpS_lt n x
  have h2 := cmpS_gt n x
  omega
theorem seatF_bs {l : List Seat} (h : checkS l = 0) (x : Int) : seatF l x = none ↔ bsF (cmpS x) l = false := by
  rw [seatF_none]
  have hm := bs_mem (strictS h x)
  simp only [cmpS_zero] at hm
  rw [← hm]
  cases bsF (cmpS x) l <;> simp
theorem checkSL_of : ∀ {l : List Seat} {a : Int}, (∀ x ∈ l, rightS x = true) → (∀ x ∈ l, a < x.router) → (l.Pairwise fun x y => x.router < y.router) → checkSL l a = 0
  | [], a, _, _, _ => rfl
  | x :: l, a, h1, h2, h3 => by
    have h4 := List.pairwise_cons.1 h3
    have h5 := h2 x List.mem_cons_self
    rw [checkSL, if_neg (by simp [h1 x List.mem_cons_self]; omega)]
    exact checkSL_of (fun y hy => h1 y (List.mem_cons_of_mem _ hy)) h4.1 h4.2
theorem checkS_sorted {l : List Seat} (h : checkS l = 0) : l.Pairwise fun x y => x.router < y.router := by
  unfold checkS at h
  split at h
  · cases h
  · exact (checkSL_sorted h).2
theorem rightS_pos {x : Seat} (h : rightS x = true) : -1 < x.router := by
  simp [rightS] at h
  omega
theorem checkS_of {l : List Seat} (h0 : l.length ≤ 64) (h1 : ∀ x ∈ l, rightS x = true) (h3 : l.Pairwise fun x y => x.router < y.router) : checkS l = 0 := by
  unfold checkS
  rw [if_neg (by omega)]
  exact checkSL_of h1 (fun x hx => rightS_pos (h1 x hx)) h3
theorem evOk_seat {e : Ev} (h : evOk e = true) : rightS (seatOf e) = true ∧ idOk e.router = true := by
  unfold evOk headOk at h
  simp only [Bool.and_eq_true, decide_eq_true_eq] at h
  obtain ⟨⟨⟨⟨⟨a1, a2⟩, a3⟩, a4⟩, a5⟩, _⟩ := h
  refine ⟨?_, a1⟩
  simp only [idOk, Bool.and_eq_true, decide_eq_true_eq] at a1
  simp only [rightS, Bool.and_eq_true, decide_eq_true_eq]
  exact ⟨⟨⟨⟨⟨a1.1, a1.2⟩, a2⟩, a3⟩, a4⟩, a5⟩
theorem putSeat_mem {l : List Seat} {s t : Seat} (h : t ∈ putSeat l s) : t = s ∨ t ∈ l ∧ ¬ t.router = s.router := by
  simp only [putSeat, List.mem_append, List.mem_singleton, List.mem_filter, decide_eq_true_eq] at h
  rcases h with (h | h) | h
  · exact .inr ⟨h.1, by omega⟩
  · exact .inl h
  · exact .inr ⟨h.1, by omega⟩
theorem putSeat_ok {l : List Seat} {e : Ev} {hz : Int} (h : mayS l e hz = 0) : checkS (putSeat l (seatOf e)) = 0 := by
  obtain ⟨h1, h2, h3, h4, h5⟩ := mayS_zero h
  have hlen := checkS_len h1
  refine checkS_of ?_ ?_ ?_
  · rw [putSeat_cmp]
    cases hf : bsF (cmpS e.router) l with
    | true => rw [← bs_set (strictS h1 _) _ hf]; simpa using hlen
    | false =>
      rw [← bs_ins (strictS h1 _) _ hf]
      have := bsI_le (cmpS e.router) l
      have h9 := mayT_len h5 ((seatF_bs h1 _).2 hf)
      simp only [List.length_append, List.length_cons, List.length_take, List.length_drop]
      omega
  · intro t ht
    rcases putSeat_mem ht with rfl | ht
    · exact (evOk_seat h2).1
    · exact checkS_mem h1 t ht.1
  · refine pw_put (checkS_sorted h1) ?_ ?_ ?_
    · intro a ha h1
      exact of_decide_eq_true h1
    · intro a ha h1
      exact of_decide_eq_true h1
    · intro a b h1 h2
      omega
theorem cmpT_gt (n : Int) (x : Router) : 0 < cmpT n x ↔ n < x.id := by
  unfold cmpT cmpI
  repeat' split
  all_goals omega
theorem strictT {l : List Router} (h : l.Pairwise fun x y => x.id < y.id) (n : Int) : strictC (cmpT n) l := by
  refine h.imp fun {x y} hxy h0 => ?_
  rw [cmpT_gt]
  have := cmpT_neg n x
  omega
theorem routerF_mem : ∀ {R : List Router}, (R.Pairwise fun x y => x.id < y.id) → ∀ r ∈ R, routerF R r.id = some r
  | [], _, r, hr => by cases hr
  | x :: R, h, r, hr => by
    have h1 := List.pairwise_cons.1 h
    have ih := routerF_mem h1.2
    unfold routerF at *
    rw [List.find?_cons]
    rcases List.mem_cons.1 hr with rfl | hr
    · simp
    · have := h1.1 r hr
      have hne : decide (x.id = r.id) = false := by simp; omega
      rw [hne]
      exact ih r hr
theorem map_filter_rt (R0 : List Router) (d : Router) (p : Int → Bool) : ∀ (R : List Router) (S : List Seat), R.map Router.id = S.map Seat.router → (∀ r ∈ R, routerF R0 r.id = some r) → (S.filter fun s => p s.router).map (fun s => (routerF R0 s.router).getD d) = R.filter fun r => p r.id
  | [], [], _, _ => rfl
  | r :: R, s :: S, h, hr => by
    simp only [List.map_cons, List.cons.injEq] at h
    have ih := map_filter_rt R0 d p R S h.2 fun x hx => hr x (List.mem_cons_of_mem _ hx)
    rw [List.filter_cons, List.filter_cons, ← h.1]
    split
    · rw [List.map_cons, ih, ← h.1, hr r List.mem_cons_self]
      rfl
    · exact ih
  | [], _ :: _, h, _ => by simp at h
  | _ :: _, [], h, _ => by simp at h
theorem netOk_ids2 {n : Net} (h : netOk n = true) : n.routers.map Router.id = n.seats.map Seat.router := by
  unfold netOk at h
  simp only [Bool.and_eq_true, beq_iff_eq] at h
  exact (zipOk_map h.1.2).1
theorem netOk_checkS {n : Net} (h : netOk n = true) : checkS n.seats = 0 := by
  unfold netOk at h
  simp only [Bool.and_eq_true, beq_iff_eq] at h
  exact h.1.1.1
theorem map_afterN {n : Net} {e : Ev} {hz : Int} {m : Router} {l : List Seat} (h : ∀ s ∈ l, ¬ s.router = e.router) : l.map (afterN n e hz m) = l.map fun s => (routerF n.routers s.router).getD ⟨0, false, [], []⟩ := by
  apply List.map_congr_left
  intro s hs
  unfold afterN
  rw [if_neg (h s hs)]
theorem netAfter_routers {n : Net} {e : Ev} {hz : Int} (hok : netOk n = true) (h : mayS n.seats e hz = 0) : (netAfter n e hz).routers = n.routers.filter (fun r => decide (cmpT e.router r < 0)) ++ [(applyR (mineN n e) e).1] ++ n.routers.filter fun r => decide (0 < cmpT e.router r) := by
  have hn : (nextS n.seats e hz).1 = putSeat n.seats (seatOf e) := by
    unfold nextS
    rw [if_neg (by omega), if_neg (by omega)]
  unfold netAfter
  simp only [hn]
  generalize (applyR (mineN n e) e).1 = m
  unfold putSeat
  have hx : (seatOf e).router = e.router := rfl
  rw [hx, List.map_append, List.map_append]
  have hr := routerF_mem (netOk_routers hok).1
  have hid := netOk_ids2 hok
  rw [map_afterN (l := n.seats.filter fun s => decide (s.router < e.router)) (fun s hs => by have := of_decide_eq_true (List.mem_filter.1 hs).2; omega),
    map_afterN (l := n.seats.filter fun s => decide (e.router < s.router)) (fun s hs => by have := of_decide_eq_true (List.mem_filter.1 hs).2; omega)]
  rw [map_filter_rt n.routers _ (fun i => decide (i < e.router)) n.routers n.seats hid hr, map_filter_rt n.routers _ (fun i => decide (e.router < i)) n.routers n.seats hid hr]
  simp only [cmpT_neg, cmpT_gt, List.map_cons, List.map_nil]
  have : afterN n e hz m (seatOf e) = m := by unfold afterN; rw [if_pos hx]
  rw [this]
theorem zip_mem : ∀ {R : List Router} {S : List Seat}, zipOk R S = true → ∀ s ∈ S, ∃ r ∈ R, routerOk r = true ∧ r.id = s.router ∧ r.up = s.up
  | [], [], _, s, hs => by cases hs
  | r :: R, t :: S, h, s, hs => by
    simp [zipOk] at h
    obtain ⟨⟨⟨h1, h2⟩, h3⟩, h4⟩ := h
    rcases List.mem_cons.1 hs with rfl | hs
    · exact ⟨r, List.mem_cons_self, h1, h2, h3⟩
    · obtain ⟨r', a, b⟩ := zip_mem h4 s hs
      exact ⟨r', List.mem_cons_of_mem _ a, b⟩
  | [], _ :: _, h, _, _ => by simp [zipOk] at h
  | _ :: _, [], h, _, _ => by simp [zipOk] at h
theorem zip_of {f : Seat → Router} : ∀ {S : List Seat}, (∀ s ∈ S, routerOk (f s) = true ∧ (f s).id = s.router ∧ (f s).up = s.up) → zipOk (S.map f) S = true
  | [], _ => rfl
  | s :: S, h => by
    obtain ⟨h1, h2, h3⟩ := h s List.mem_cons_self
    simp only [List.map_cons, zipOk, h1, h2, h3, beq_self_eq_true, Bool.and_self, Bool.true_and]
    exact zip_of fun t ht => h t (List.mem_cons_of_mem _ ht)
theorem mineN_ok {n : Net} {e : Ev} (hok : netOk n = true) (he : evOk e = true) : routerOk (mineN n e) = true ∧ e.router = (mineN n e).id := by
  unfold mineN
  have hid := (evOk_seat he).2
  cases hr : routerF n.routers e.router with
  | some r =>
    have h1 := List.find?_some hr
    have h2 := List.mem_of_find?_eq_some hr
    simp at h1
    exact ⟨(netOk_routers hok).2 r h2, h1.symm⟩
  | none =>
    simp [hid, routerOk, checkR, checkRL, checkL, checkLL]
theorem netAfter_ok {n : Net} {e : Ev} {hz : Int} (hok : netOk n = true) (h : mayS n.seats e hz = 0) (h2 : (applyR (mineN n e) e).2 = 0) (h3 : ¬ 1024 < many (netAfter n e hz).routers 0) : netOk (netAfter n e hz) = true := by
  obtain ⟨g1, g2, g3, g4, g5⟩ := mayS_zero h
  have hn : (nextS n.seats e hz).1 = putSeat n.seats (seatOf e) := by
    unfold nextS
    rw [if_neg (by omega), if_neg (by omega)]
  obtain ⟨m1, m2⟩ := mineN_ok hok g2
  obtain ⟨a1, a2, a3⟩ := applyR_ok m1 g2 m2 h2
  have hz' : zipOk n.routers n.seats = true := by
    unfold netOk at hok
    simp only [Bool.and_eq_true, beq_iff_eq] at hok
    exact hok.1.2
  unfold netOk
  simp only [Bool.and_eq_true, beq_iff_eq, decide_eq_true_eq]
  refine ⟨⟨⟨?_, ?_⟩, ?_⟩, by omega⟩
  · show checkS (nextS n.seats e hz).1 = 0
    rw [hn]
    exact putSeat_ok h
  · simp [netAfter]
  · show zipOk ((nextS n.seats e hz).1.map _) (nextS n.seats e hz).1 = true
    refine zip_of fun s hs => ?_
    rw [hn] at hs
    unfold afterN
    rcases putSeat_mem hs with rfl | ⟨hs, hne⟩
    · rw [if_pos (show (seatOf e).router = e.router from rfl)]
      exact ⟨a1, a2, a3⟩
    · rw [if_neg (show ¬ s.router = e.router from hne)]
      obtain ⟨r, b1, b2, b3, b4⟩ := zip_mem hz' s hs
      rw [← b3, routerF_mem (netOk_routers hok).1 r b1]
      exact ⟨b2, rfl, b4⟩
theorem happensF_ok {n : Net} {e : Ev} {hz : Int} (hok : netOk n = true) : netOk (happensF n e hz).1 = true := by
  unfold happensF
  split
  · exact hok
  rename_i h1
  split
  · exact hok
  rename_i h2
  split
  · exact hok
  rename_i h3
  exact netAfter_ok hok (by omega) (by omega) h3
def sz (r : Router) : Nat := r.routes.length + r.links.length
def sumR : List Router → Nat
  | [] => 0
  | r :: l => sz r + sumR l
theorem sumR_app (a b : List Router) : sumR (a ++ b) = sumR a + sumR b := by
  induction a with
  | nil => simp [sumR]
  | cons x a ih => simp only [List.cons_append, sumR, ih]; omega
theorem many_sum : ∀ (l : List Router) (a : Nat), a + sumR l ≤ 1000000000 → many l a = (a + sumR l : Nat)
  | [], a, _ => by simp [many, sumR]
  | r :: l, a, h => by
    simp only [sumR] at h ⊢
    unfold sz at h
    have e1 : IntKind.i64.wrap ((r.routes.length : Int) + r.links.length) = (sz r : Nat) := by
      rw [wrap64 (by omega) (by omega)]
      unfold sz
      omega
    have e2 : IntKind.i64.wrap ((a : Int) + (sz r : Nat)) = (a + sz r : Nat) := by
      unfold sz
      rw [wrap64 (by omega) (by omega)]
      omega
    rw [many, e1, e2, many_sum l (a + sz r) (by unfold sz; omega)]
    congr 1
    omega
theorem sumR_le : ∀ {l : List Router}, (∀ r ∈ l, routerOk r = true) → sumR l ≤ 288 * l.length
  | [], _ => by simp [sumR]
  | r :: l, h => by
    have h1 := routerOk_len (h r List.mem_cons_self)
    have h2 := sumR_le fun x hx => h x (List.mem_cons_of_mem _ hx)
    simp only [sumR, List.length_cons]
    unfold sz
    omega
theorem netOk_many {n : Net} (hok : netOk n = true) : many n.routers 0 = sumR n.routers ∧ sumR n.routers ≤ 1024 := by
  have h1 := sumR_le (netOk_routers hok).2
  have h2 := netOk_len hok
  have h3 := many_sum n.routers 0 (by omega)
  have h4 : many n.routers 0 = sumR n.routers := by simpa using h3
  refine ⟨h4, ?_⟩
  unfold netOk at hok
  simp only [Bool.and_eq_true, beq_iff_eq, decide_eq_true_eq] at hok
  omega
theorem mineN_found {n : Net} {e : Ev} (hok : netOk n = true) (hf : bsF (cmpT e.router) n.routers = true) : n.routers[bsI (cmpT e.router) n.routers]? = some (mineN n e) := by
  have h := routerF_bs (n := e.router) (netOk_routers hok).1
  rw [if_pos hf] at h
  obtain ⟨y, hy⟩ := bsF_lt hf
  unfold mineN
  rw [h, hy]
theorem mineN_new {n : Net} {e : Ev} (hok : netOk n = true) (he : evOk e = true) (hf : bsF (cmpT e.router) n.routers = false) : mineN n e = ⟨e.router, false, [], []⟩ := by
  have h := routerF_bs (n := e.router) (netOk_routers hok).1
  rw [if_neg (by simp [hf])] at h
  unfold mineN
  rw [h]
  simp [(evOk_seat he).2]
theorem after_set {n : Net} {e : Ev} {hz : Int} (hok : netOk n = true) (h : mayS n.seats e hz = 0) (hf : bsF (cmpT e.router) n.routers = true) : (netAfter n e hz).routers = n.routers.set (bsI (cmpT e.router) n.routers) (applyR (mineN n e) e).1 := by
  rw [netAfter_routers hok h, bs_set (strictT (netOk_routers hok).1 _) _ hf]
theorem after_ins {n : Net} {e : Ev} {hz : Int} (hok : netOk n = true) (h : mayS n.seats e hz = 0) (hf : bsF (cmpT e.router) n.routers = false) : (netAfter n e hz).routers = n.routers.take (bsI (cmpT e.router) n.routers) ++ (applyR (mineN n e) e).1 :: n.routers.drop (bsI (cmpT e.router) n.routers) := by
  rw [netAfter_routers hok h, bs_ins (strictT (netOk_routers hok).1 _) _ hf]
theorem many_after {n : Net} {e : Ev} {hz : Int} (hok : netOk n = true) (h : mayS n.seats e hz = 0) (h2 : (applyR (mineN n e) e).2 = 0) : many (netAfter n e hz).routers 0 = (sumR n.routers : Int) - sz (mineN n e) + sz (applyR (mineN n e) e).1 ∧ sz (mineN n e) ≤ sumR n.routers ∧ sz (applyR (mineN n e) e).1 ≤ 288 := by
  obtain ⟨g1, g2, g3, g4, g5⟩ := mayS_zero h
  obtain ⟨m1, m2⟩ := mineN_ok hok g2
  obtain ⟨a1, a2, a3⟩ := applyR_ok m1 g2 m2 h2
  have hb := (netOk_many hok).2
  have hl := routerOk_len a1
  have hA : sz (applyR (mineN n e) e).1 ≤ 288 := by unfold sz; omega
  cases hf : bsF (cmpT e.router) n.routers with
  | true =>
    have hg := mineN_found hok hf
    rw [after_set hok h hf]
    obtain ⟨hi, hge⟩ := List.getElem?_eq_some_iff.1 hg
    have hs : sumR n.routers = sumR (n.routers.take (bsI (cmpT e.router) n.routers)) + (sz (mineN n e) + sumR (n.routers.drop (bsI (cmpT e.router) n.routers + 1))) := by
      conv => lhs; rw [← List.take_append_drop (bsI (cmpT e.router) n.routers) n.routers, sumR_app, List.drop_eq_getElem_cons hi, hge, sumR]
    have hs2 : sumR (n.routers.set (bsI (cmpT e.router) n.routers) (applyR (mineN n e) e).1) = sumR (n.routers.take (bsI (cmpT e.router) n.routers)) + (sz (applyR (mineN n e) e).1 + sumR (n.routers.drop (bsI (cmpT e.router) n.routers + 1))) := by
      rw [List.set_eq_take_append_cons_drop, if_pos hi, sumR_app, sumR]
    have hm := many_sum (n.routers.set (bsI (cmpT e.router) n.routers) (applyR (mineN n e) e).1) 0 (by omega)
    refine ⟨?_, by omega, hA⟩
    rw [show ((0 : Int)) = ((0 : Nat) : Int) from rfl, hm]
    omega
  | false =>
    have hg := mineN_new hok g2 hf
    have h0 : sz (mineN n e) = 0 := by rw [hg]; rfl
    rw [after_ins hok h hf]
    have hs : sumR n.routers = sumR (n.routers.take (bsI (cmpT e.router) n.routers)) + sumR (n.routers.drop (bsI (cmpT e.router) n.routers)) := by
      conv => lhs; rw [← List.take_append_drop (bsI (cmpT e.router) n.routers) n.routers, sumR_app]
    have hs2 : sumR (n.routers.take (bsI (cmpT e.router) n.routers) ++ (applyR (mineN n e) e).1 :: n.routers.drop (bsI (cmpT e.router) n.routers)) = sumR (n.routers.take (bsI (cmpT e.router) n.routers)) + (sz (applyR (mineN n e) e).1 + sumR (n.routers.drop (bsI (cmpT e.router) n.routers))) := by
      rw [sumR_app, sumR]
    have hm := many_sum (n.routers.take (bsI (cmpT e.router) n.routers) ++ (applyR (mineN n e) e).1 :: n.routers.drop (bsI (cmpT e.router) n.routers)) 0 (by omega)
    refine ⟨?_, by omega, hA⟩
    rw [show ((0 : Int)) = ((0 : Nat) : Int) from rfl, hm]
    omega
end Go.Am


set_option linter.unusedVariables false
set_option linter.unusedSimpArgs false
set_option pp.deepTerms false
set_option pp.deepTerms.threshold 40
namespace Go.Am
open Go.Proofs

theorem Router.len_of {r : Router} (h : routerOk r = true) : r.routes.length ≤ 4096 ∧ r.links.length ≤ 4096 := by
  have := routerOk_len h
  omega
theorem mod_same {α : Type} (f : α → List IV) (l : List α) (i : Nat) (s : α) (hs : l[i]? = some s) (g : List IV → List IV) (hg : ∀ x, g (f x) = f s) : (l.map f).modify i g = l.map f := by
  rw [mod_set f l s i g hg]
  congr 1
  apply List.ext_getElem?
  intro j
  rw [List.getElem?_set]
  split
  · rename_i h
    subst h
    rw [if_pos (List.getElem?_eq_some_iff.1 hs).1, hs]
  · rfl
set_option maxRecDepth 8000 in
set_option maxHeartbeats 1000000 in
theorem ownN_spec (n : Net) (h : netOk n = true) : FSpec Tryz.prog 126 [n.av] [] (.agg [.im (.sl 4 (n.seats.map Seat.iv)), .row 0]) [.row 85 4 (n.routers.map Router.iv)] := by
  have h1 := netOk_seats h
  have h2 := netOk_len h
  have h3 := (netOk_routers h).2
  have hc1 := cloSeat_spec (n.seats.map Seat.iv) (by simp; omega)
  have hc2 := cloRouter_spec (n.routers.map Router.iv) (by simp; omega)
  refine FSpec.of_o (q := [(1, .m [.p [], .p [], .e [6], .p [0], .p [0], .e [9], .p [1]]), (5, .m [.p [1], .p [1], .p [1], .p [], .e [24]])]) Tryz.func126 (by kernel_rfl) rfl Tryz.ntmps126 Tryz.results126 hP (by kernel_rfl) (by simp) (by first | rfl | simp) ?_
  simp -implicitDefEqProofs
  refine CallK.outs [] hc1 rfl (by simp) (by simp [AV.flat]) ?_
  simp -implicitDefEqProofs
  refine CallK.outs [] hc2 rfl (by simp) (by simp [AV.flat]) ?_
  simp -implicitDefEqProofs
  refine LoopK.os (fun k : Nat => [(1, .ptr 0 0), (2, .ptr 1 0), (14, .row 3), (15, .int .i64 n.routers.length), (16, .int .i64 k)])
    (fun _ => [.box 25 [.row 2, .row 3], .box 25 [.im (.sc (.slice none 0 0)), .im (.sc (.slice none 0 0))], .row 65 4 (n.seats.map Seat.iv), .row 85 4 (n.routers.map Router.iv)])
    (fun k => k ≤ n.routers.length) (fun k => n.routers.length - k) 0 [0, 1, 2, 3] (Nat.zero_le _) (by simp) ?_
  intro k hk
  by_cases hlt : k < n.routers.length
  · have e1 : IntKind.i64.wrap (k + 1) = (k + 1 : Nat) := wrap64 (by omega) (by omega)
    have hg := List.getElem?_eq_getElem hlt
    obtain ⟨y, hy⟩ : ∃ y, n.routers[k] = y := ⟨_, rfl⟩
    rw [hy] at hg
    have hyo := Router.len_of (h3 y (List.mem_of_getElem? hg))
    have ho := ownF_spec y hyo.1 hyo.2
    simp -implicitDefEqProofs [hlt, hy]
    first | refine CallK.same (ho) rfl rfl ?_ | refine CallQ.same (ho) rfl rfl ?_ | refine CallQG.same _ (ho) rfl ?_ | refine CallG.same _ (ho) rfl ?_ | refine CallK.pv (ho) rfl rfl ?_
    simp -implicitDefEqProofs [hlt]
    refine Again.os (k + 1) [0, 1, 2, 3] hlt (by omega) ?_
    have hm := mod_same Router.iv n.routers k y hg (fun x => y.iv ++ x.drop 4) (fun x => by simp)
    simp -implicitDefEqProofs at hm
    simp -implicitDefEqProofs [e1, hm]
  · have hkk : k = n.routers.length := by omega
    subst hkk
    simp -implicitDefEqProofs
    refine EndO.ret [2] [3] (.agg [.row 2, .row 3]) (by simp) ?_
    simp -implicitDefEqProofs
theorem placeN_spec (n : Net) (x : Int) (h : netOk n = true) : FSpec Tryz.prog 123 [n.av, .int .i64 x] [] (.tup [.int .i64 (bsI (cmpT x) n.routers), .bool (bsF (cmpT x) n.routers)]) [] := by
  have hb := bsT_spec n.routers x (upT_of (netOk_routers h).1 x)
  refine FSpec.of_flat (q := []) Tryz.func123 (by kernel_rfl) rfl Tryz.ntmps123 Tryz.results123 hP (by kernel_rfl) (by simp) (by first | rfl | simp) ?_
  simp -implicitDefEqProofs
  first | refine CallK.same (hb) rfl rfl ?_ | refine CallQ.same (hb) rfl rfl ?_ | refine CallQG.same _ (hb) rfl ?_ | refine CallG.same _ (hb) rfl ?_ | refine CallK.pv (hb) rfl rfl ?_
  simp -implicitDefEqProofs
@[simp] def webO (n : Net) (k : Nat) : AObj := .box 177 [.im (.sl 4 (n.seats.map Seat.iv)), .row k]
theorem total0_spec (x : Int) (b : Bool) : FSpec Tryz.prog 121 [.im (.sl 4 [[.sc (.int .i64 x), .sc (.bool b), .sc (.slice none 0 0), .sc (.slice none 0 0)]])] [] (.int .i64 0) [] := by
  refine FSpec.of_flat (q := []) Tryz.func121 (by kernel_rfl) rfl Tryz.ntmps121 Tryz.results121 hP (by kernel_rfl) (by simp) (by first | rfl | simp) ?_
  simp
  refine LoopK.plain (fun g : Nat => [(3, .int .i64 0), (6, .im (.sl 4 [[.sc (.int .i64 x), .sc (.bool b), .sc (.slice none 0 0), .sc (.slice none 0 0)]])), (7, .int .i64 1), (8, .int .i64 g)]) (fun g => g ≤ 1)
    (fun g => 1 - g) 0 (Nat.zero_le _) (by simp) ?_
  intro k hk
  by_cases hlt : k = 0
  · subst hlt
    simp
    exact Again.plain 1 (Nat.le_refl _) (by omega) (by simp; decide)
  · have : k = 1 := by omega
    subst this
    simp
theorem wrapS {x : Int} (h0 : -1000000 ≤ x) (h1 : x ≤ 1000000) : IntKind.i64.wrap x = x := wrap64 (by omega) (by omega)
theorem happensF_zero {n : Net} {e : Ev} {hz : Int} (h : (happensF n e hz).2 = 0) : mayS n.seats e hz = 0 ∧ (applyR (mineN n e) e).2 = 0 ∧ ¬ 1024 < many (netAfter n e hz).routers 0 := by
  unfold happensF at h
  split at h
  · rename_i h1; exact absurd h h1
  rename_i h1
  split at h
  · rename_i h2; exact absurd h h2
  rename_i h2
  split at h
  · cases h
  rename_i h3
  exact ⟨by omega, by omega, h3⟩
theorem nextS_zero {l : List Seat} {e : Ev} {hz : Int} (h : mayS l e hz = 0) : nextS l e hz = (putSeat l (seatOf e), 0) := by
  unfold nextS
  rw [if_neg (by omega), if_neg (by omega)]
set_option maxRecDepth 8000 in
set_option maxHeartbeats 4000000 in
theorem happenU_spec (n : Net) (e : Ev) (hz : Int) (hok : netOk n = true) (hsq : 0 ≤ e.seq) (hcase : bsF (cmpT e.router) n.routers = false → ¬ (happensF n e hz).2 = 0) :
    FSpec Tryz.prog 127 [.ptr 0 0, e.av, .int .i64 hz] [webO n 1, .row 85 4 (n.routers.map Router.iv)] (.int .i64 (happensF n e hz).2) [webO (happensF n e hz).1 1, .row 85 4 ((happensF n e hz).1.routers.map Router.iv)] := by
  have h1 := mayO_spec n.seats e hz hsq
  have h2 := placeN_spec n e.router hok
  have h4 := applyRo_spec (mineN n e) e hsq
  have h5 := nextO_spec n.seats e hz hsq
  have hfd := mineN_found (e := e) hok
  have hnw := mineN_new (e := e) hok
  have hset := after_set (e := e) (hz := hz) hok
  have hma := many_after (e := e) (hz := hz) hok
  have hmn := netOk_many hok
  have hns : (netAfter n e hz).seats = (nextS n.seats e hz).1 := rfl
  have hns0 := nextS_zero (l := n.seats) (e := e) (hz := hz)
  have hx : happensF n e hz = (if ¬ mayS n.seats e hz = 0 then (n, mayS n.seats e hz)
  else if ¬ (applyR (mineN n e) e).2 = 0 then (n, (applyR (mineN n e) e).2)
  else if 1024 < many (netAfter n e hz).routers 0 then (n, 8)
  else (netAfter n e hz, 0)) := rfl
  have hev : mayS n.seats e hz = 0 → evOk e = true := fun h => (mayS_zero h).2.1
  have htot := total_spec n.routers
  have htotm := total_spec [mineN n e]
  have hm1 : many [mineN n e] 0 = (many [] (IntKind.i64.wrap (0 + IntKind.i64.wrap ((mineN n e).routes.length + (mineN n e).links.length)))) := rfl
  have hmle : sz (mineN n e) ≤ 1000000 → many [mineN n e] 0 = (sz (mineN n e) : Int) := by
    intro hle
    have := many_sum [mineN n e] 0 (by simp [sumR]; omega)
    simpa [sumR] using this
  clear hm1
  generalize netAfter n e hz = NA at *
  generalize happensF n e hz = RES at *
  generalize applyR (mineN n e) e = AR at *
  generalize nextS n.seats e hz = NX at *
  generalize bsI (cmpT e.router) n.routers = i at *
  refine FSpec.of_o (q := [(1, .m [.p [], .p [], .p [], .p [], .p [], .p [], .p []]), (4, .m [.p [], .p [], .p [], .p [], .p [], .p [], .e [29, 31], .p [], .p [], .p [], .p []]), (12, .m [.p [], .p [], .p [], .p [], .p [], .e [62], .p [0], .e [64], .p [], .p [0, 1], .p [0, 1], .p [0, 1], .p [], .p [0, 1], .p [0, 1], .p [0, 1]]), (15, .m [.p [1, 2], .p [1], .p [1], .p [1], .p [1], .p [1], .p [1], .p [], .e [85], .e [83, 84, 86]]), (16, .m [.p [], .p [], .p [], .p [], .p [], .p [], .p []]), (17, .m [.p [1], .p [], .p [], .p [], .p [], .p [], .p [], .p [], .e [105, 106, 107], .p [], .p [], .p [2], .p [], .p [], .p [], .e [113, 109]])]) Tryz.func127 (by kernel_rfl) rfl Tryz.ntmps127 Tryz.results127 hP (by kernel_rfl) (by simp) (by first | rfl | simp) ?_
  simp -implicitDefEqProofs
  first | refine CallK.same (h1) rfl rfl ?_ | refine CallQ.same (h1) rfl rfl ?_ | refine CallQG.same _ (h1) rfl ?_ | refine CallG.same _ (h1) rfl ?_ | refine CallK.pv (h1) rfl rfl ?_
  simp -implicitDefEqProofs
  refine ⟨fun h => ?_, fun a1 => ?_⟩
  · rw [if_pos h] at hx
    subst hx
    refine EndO.ret [] [0, 1] (.int .i64 (mayS n.seats e hz)) (by simp) (by simp)
  rw [if_neg (by simp [a1])] at hx
  have he := hev a1
  refine CallK.fz [1] h2 rfl (by simp) rfl ?_
  simp -implicitDefEqProofs
  cases hf : bsF (cmpT e.router) n.routers with
  | true =>
    have hg := hfd hf
    obtain ⟨hlt, hge⟩ := List.getElem?_eq_some_iff.1 hg
    simp -implicitDefEqProofs [hlt, hge]
    generalize mineN n e = M at *
    first | refine CallK.same (h4) rfl rfl ?_ | refine CallQ.same (h4) rfl rfl ?_ | refine CallQG.same _ (h4) rfl ?_ | refine CallG.same _ (h4) rfl ?_ | refine CallK.pv (h4) rfl rfl ?_
    simp -implicitDefEqProofs
    refine ⟨fun h => ?_, fun b1 => ?_⟩
    · rw [if_pos h] at hx
      subst hx
      refine EndO.ret [] [0, 1] (.int .i64 AR.2) (by simp) (by simp)
    rw [if_neg (by simp [b1])] at hx
    obtain ⟨c1, c2, c3⟩ := hma a1 b1
    have d1 := hmle (by omega)
    refine CallK.fz [1] htot rfl (by simp) rfl ?_
    simp -implicitDefEqProofs
    refine CallK.fz [5] htotm rfl (by simp) rfl ?_
    have w1 : IntKind.i64.wrap (many n.routers 0 - many [M] 0) = (sumR n.routers : Int) - sz M := by rw [hmn.1, d1]; exact wrapS (by omega) (by omega)
    have w2 : IntKind.i64.wrap ((sumR n.routers : Int) - sz M + AR.1.routes.length) = (sumR n.routers : Int) - sz M + AR.1.routes.length := wrapS (by unfold sz at *; omega) (by unfold sz at *; omega)
    have w3 : IntKind.i64.wrap ((sumR n.routers : Int) - sz M + AR.1.routes.length + AR.1.links.length) = many NA.routers 0 := by rw [wrapS (by unfold sz at *; omega) (by unfold sz at *; omega), c1]; unfold sz; omega
    simp -implicitDefEqProofs [w1, w2, w3]
    refine ⟨fun h => ?_, fun d3 => ?_⟩
    · rw [if_pos h] at hx
      subst hx
      refine EndO.ret [] [0, 1] (.int .i64 8) (by simp) (by simp)
    rw [if_neg (by omega)] at hx
    have hs := hset a1 hf
    have hmod := mod_set Router.iv n.routers AR.1 i (fun x => AR.1.iv ++ x.drop 4) (fun x => by simp)
    rw [← hs] at hmod
    have hn0 := hns0 a1
    subst hn0
    subst hx
    simp -implicitDefEqProofs [hlt]
    first | refine CallK.same (h5) rfl rfl ?_ | refine CallQ.same (h5) rfl rfl ?_ | refine CallQG.same _ (h5) rfl ?_ | refine CallG.same _ (h5) rfl ?_ | refine CallK.pv (h5) rfl rfl ?_
    simp -implicitDefEqProofs
    refine EndO.ret [] [0, 1] (.int .i64 0) (by simp) ?_
    rw [← hmod, hns]
    simp -implicitDefEqProofs
  | false =>
    have hg := hnw he hf
    have hne := hcase hf
    simp -implicitDefEqProofs
    generalize mineN n e = M at *
    refine CallK.v0 h4 rfl (by simp [hg]) rfl ?_
    simp -implicitDefEqProofs
    refine ⟨fun h => ?_, fun b1 => ?_⟩
    · rw [if_pos h] at hx
      subst hx
      refine EndO.ret [] [0, 1] (.int .i64 AR.2) (by simp) (by simp)
    rw [if_neg (by simp [b1])] at hx
    obtain ⟨c1, c2, c3⟩ := hma a1 b1
    have d1 := hmle (by omega)
    have d2 : sz M = 0 := by rw [hg]; rfl
    refine CallK.fz [1] htot rfl (by simp) rfl ?_
    simp -implicitDefEqProofs
    refine CallK.fz [5] (total0_spec e.router false) rfl (by simp) rfl ?_
    have w1 : IntKind.i64.wrap (many n.routers 0) = (sumR n.routers : Int) - sz M := by rw [hmn.1, wrapS (by omega) (by omega)]; omega
    have w2 : IntKind.i64.wrap ((sumR n.routers : Int) - sz M + AR.1.routes.length) = (sumR n.routers : Int) - sz M + AR.1.routes.length := wrapS (by unfold sz at *; omega) (by unfold sz at *; omega)
    have w3 : IntKind.i64.wrap ((sumR n.routers : Int) - sz M + AR.1.routes.length + AR.1.links.length) = many NA.routers 0 := by rw [wrapS (by unfold sz at *; omega) (by unfold sz at *; omega), c1]; unfold sz; omega
    simp -implicitDefEqProofs [w1, w2, w3]
    refine ⟨fun h => ?_, fun d3 => ?_⟩
    · rw [if_pos h] at hx
      subst hx
      refine EndO.ret [] [0, 1] (.int .i64 8) (by simp) (by simp)
    · rw [if_neg (by omega)] at hx
      subst hx
      exact absurd rfl hne
set_option maxRecDepth 8000 in
set_option maxHeartbeats 4000000 in
theorem happenI_spec (n : Net) (e : Ev) (hz : Int) (hok : netOk n = true) (hsq : 0 ≤ e.seq) (h0 : (happensF n e hz).2 = 0) (hf : bsF (cmpT e.router) n.routers = false) :
    FSpec Tryz.prog 127 [.ptr 0 0, e.av, .int .i64 hz] [webO n 1, .row 85 4 (n.routers.map Router.iv)] (.int .i64 (happensF n e hz).2) [webO (happensF n e hz).1 2, .gone, .row 85 4 ((happensF n e hz).1.routers.map Router.iv)] := by
  have h1 := mayO_spec n.seats e hz hsq
  have h2 := placeN_spec n e.router hok
  have h4 := applyRo_spec (mineN n e) e hsq
  have h5 := nextO_spec n.seats e hz hsq
  have hfd := mineN_found (e := e) hok
  have hnw := mineN_new (e := e) hok
  obtain ⟨a1, b1, d3⟩ := happensF_zero h0
  have hins := after_ins (hz := hz) hok a1 hf
  have hil := bsI_le (cmpT e.router) n.routers
  have hma := many_after (e := e) (hz := hz) hok
  have hmn := netOk_many hok
  have hns : (netAfter n e hz).seats = (nextS n.seats e hz).1 := rfl
  have hns0 := nextS_zero (l := n.seats) (e := e) (hz := hz)
  have hx : happensF n e hz = (if ¬ mayS n.seats e hz = 0 then (n, mayS n.seats e hz)
  else if ¬ (applyR (mineN n e) e).2 = 0 then (n, (applyR (mineN n e) e).2)
  else if 1024 < many (netAfter n e hz).routers 0 then (n, 8)
  else (netAfter n e hz, 0)) := rfl
  have hev : mayS n.seats e hz = 0 → evOk e = true := fun h => (mayS_zero h).2.1
  have htot := total_spec n.routers
  have htotm := total_spec [mineN n e]
  have hm1 : many [mineN n e] 0 = (many [] (IntKind.i64.wrap (0 + IntKind.i64.wrap ((mineN n e).routes.length + (mineN n e).links.length)))) := rfl
  have hmle : sz (mineN n e) ≤ 1000000 → many [mineN n e] 0 = (sz (mineN n e) : Int) := by
    intro hle
    have := many_sum [mineN n e] 0 (by simp [sumR]; omega)
    simpa [sumR] using this
  clear hm1
  generalize netAfter n e hz = NA at *
  generalize happensF n e hz = RES at *
  generalize applyR (mineN n e) e = AR at *
  generalize nextS n.seats e hz = NX at *
  generalize bsI (cmpT e.router) n.routers = i at *
  refine FSpec.of_o (q := [(1, .m [.p [], .p [], .p [], .p [], .p [], .p [], .p []]), (4, .m [.p [], .p [], .p [], .p [], .p [], .p [], .e [29, 31], .p [], .p [], .p [], .p []]), (12, .m [.p [], .p [], .p [], .p [], .p [], .e [62], .p [0], .e [64], .p [], .p [0, 1], .p [0, 1], .p [0, 1], .p [], .p [0, 1], .p [0, 1], .p [0, 1]]), (15, .m [.p [1, 2], .p [1], .p [1], .p [1], .p [1], .p [1], .p [1], .p [], .e [85], .e [83, 84, 86]]), (16, .m [.p [], .p [], .p [], .p [], .p [], .p [], .p []]), (17, .m [.p [1], .p [], .p [], .p [], .p [], .p [], .p [], .p [], .e [105, 106, 107], .p [], .p [], .p [2], .p [], .p [], .p [], .e [113, 109]])]) Tryz.func127 (by kernel_rfl) rfl Tryz.ntmps127 Tryz.results127 hP (by kernel_rfl) (by simp) (by first | rfl | simp) ?_
  simp -implicitDefEqProofs
  first | refine CallK.same (h1) rfl rfl ?_ | refine CallQ.same (h1) rfl rfl ?_ | refine CallQG.same _ (h1) rfl ?_ | refine CallG.same _ (h1) rfl ?_ | refine CallK.pv (h1) rfl rfl ?_
  rw [if_neg (by simp [a1])] at hx
  rw [if_neg (by simp [b1]), if_neg d3] at hx
  simp -implicitDefEqProofs [a1]
  have he := hev a1
  refine CallK.fz [1] h2 rfl (by simp) rfl ?_
  simp -implicitDefEqProofs [hf]
  have hg := hnw he hf
  generalize mineN n e = M at *
  refine CallK.v0 h4 rfl (by simp [hg]) rfl ?_
  simp -implicitDefEqProofs [b1]
  obtain ⟨c1, c2, c3⟩ := hma a1 b1
  have d1 := hmle (by omega)
  have d2 : sz M = 0 := by rw [hg]; rfl
  refine CallK.fz [1] htot rfl (by simp) rfl ?_
  simp -implicitDefEqProofs
  refine CallK.fz [5] (total0_spec e.router false) rfl (by simp) rfl ?_
  have w1 : IntKind.i64.wrap (many n.routers 0) = (sumR n.routers : Int) - sz M := by rw [hmn.1, wrapS (by omega) (by omega)]; omega
  have w2 : IntKind.i64.wrap ((sumR n.routers : Int) - sz M + AR.1.routes.length) = (sumR n.routers : Int) - sz M + AR.1.routes.length := wrapS (by unfold sz at *; omega) (by unfold sz at *; omega)
  have w3 : IntKind.i64.wrap ((sumR n.routers : Int) - sz M + AR.1.routes.length + AR.1.links.length) = many NA.routers 0 := by rw [wrapS (by unfold sz at *; omega) (by unfold sz at *; omega), c1]; unfold sz; omega
  simp -implicitDefEqProofs [w1, w2, w3, d3]
  have hgi : NA.routers[i]? = some AR.1 := by rw [hins, List.getElem?_append_right (by simp; omega)]; simp [Nat.min_eq_left hil]
  have hlt : i < NA.routers.length := (List.getElem?_eq_some_iff.1 hgi).1
  have hil2 := netOk_len hok
  have hi := insRouter_spec (n.routers.map Router.iv) AR.1.iv i (by simpa using hil) (by simp; omega)
  have hrow : NA.routers.map Router.iv = (n.routers.map Router.iv).take i ++ AR.1.iv :: (n.routers.map Router.iv).drop i := by
    rw [hins, List.map_append, List.map_cons, List.map_take, List.map_drop]
  rw [← hrow] at hi
  have hmod := mod_same Router.iv NA.routers i AR.1 hgi (fun x => AR.1.iv ++ x.drop 4) (fun x => by simp)
  have hn0 := hns0 a1
  subst hn0
  subst hx
  refine CallO.mk [] [1, 6] hi (by simp) rfl (by simp) (by simp) (by simp) ?_
  simp -implicitDefEqProofs [hlt]
  first | refine CallK.same (h5) rfl rfl ?_ | refine CallQ.same (h5) rfl rfl ?_ | refine CallQG.same _ (h5) rfl ?_ | refine CallG.same _ (h5) rfl ?_ | refine CallK.pv (h5) rfl rfl ?_
  simp -implicitDefEqProofs
  refine EndO.ret [] [0, 1, 7] (.int .i64 0) (by simp) ?_
  simp -implicitDefEqProofs at hmod
  rw [hns]
  simp -implicitDefEqProofs [hmod]
end Go.Am


set_option linter.unusedVariables false
set_option linter.unusedSimpArgs false
set_option pp.deepTerms false
set_option pp.deepTerms.threshold 40
namespace Go.Am
open Go.Proofs

theorem happensF_keep {n : Net} {e : Ev} {hz : Int} (h : ¬ (happensF n e hz).2 = 0) : (happensF n e hz).1 = n := by
  unfold happensF at h ⊢
  repeat' split
  all_goals first
    | rfl
    | skip
  rename_i h1 h2 h3
  rw [if_neg h1, if_neg h2, if_neg h3] at h
  exact absurd rfl h
theorem odd_spec (w : Int) : FSpec Tryz.prog 129 [.int .i64 w] [] (.bool (w == 2 || w == 1)) [] := by
  refine FSpec.of_flat (q := []) Tryz.func129 (by kernel_rfl) rfl Tryz.ntmps129 Tryz.results129 hP (by kernel_rfl) (by simp) (by first | rfl | simp) ?_
  simp -implicitDefEqProofs
theorem sizeNo_spec (n : Net) : FSpec Tryz.prog 90 [n.av] [] (.tup [.int .i64 (sizeN n), .int .i64 (if netOk n then 0 else 2)]) [] := by
  have h1 := checkN_spec n
  have h2 := total_spec n.routers
  refine FSpec.of_z (q := []) Tryz.func90 (by kernel_rfl) rfl Tryz.ntmps90 Tryz.results90 hP (by kernel_rfl) (by simp) (by first | rfl | simp) ?_
  simp -implicitDefEqProofs
  first | refine CallK.same (h1) rfl rfl ?_ | refine CallQ.same (h1) rfl rfl ?_ | refine CallQG.same _ (h1) rfl ?_ | refine CallG.same _ (h1) rfl ?_ | refine CallK.pv (h1) rfl rfl ?_
  simp -implicitDefEqProofs
  unfold sizeN
  cases hn : netOk n with
  | false =>
    simp -implicitDefEqProofs
    refine EndZ.ret [] (.tup [.int .i64 0, .int .i64 2]) (by simp) ?_
    simp
  | true =>
    simp -implicitDefEqProofs
    first | refine CallK.same (h2) rfl rfl ?_ | refine CallQ.same (h2) rfl rfl ?_ | refine CallQG.same _ (h2) rfl ?_ | refine CallG.same _ (h2) rfl ?_ | refine CallK.pv (h2) rfl rfl ?_
    simp -implicitDefEqProofs
    refine EndZ.ret [] (.tup [.int .i64 (many n.routers 0), .int .i64 0]) (by simp) ?_
    simp
set_option maxRecDepth 8000 in
set_option maxHeartbeats 2000000 in
theorem applyNo_spec (n : Net) (e : Ev) (hz : Int) (hsq : 0 ≤ e.seq) :
    FSpec Tryz.prog 92 [n.av, e.av, .int .i64 hz] [] (.tup [(applyN n e hz).1.av, .int .i64 (applyN n e hz).2]) [] := by
  have h1 := checkN_spec n
  refine FSpec.of_z (q := []) Tryz.func92 (by kernel_rfl) rfl Tryz.ntmps92 Tryz.results92 hP (by kernel_rfl) (by simp) (by first | rfl | simp) ?_
  simp -implicitDefEqProofs
  first | refine CallK.same (h1) rfl rfl ?_ | refine CallQ.same (h1) rfl rfl ?_ | refine CallQG.same _ (h1) rfl ?_ | refine CallG.same _ (h1) rfl ?_ | refine CallK.pv (h1) rfl rfl ?_
  simp -implicitDefEqProofs
  unfold applyN
  cases hn : netOk n with
  | false =>
    simp -implicitDefEqProofs
    refine EndZ.ret [] (.tup [.agg [.im (.sc (.slice none 0 0)), .im (.sc (.slice none 0 0))], .int .i64 2]) (by simp) ?_
    simp -implicitDefEqProofs
  | true =>
    have h2 := ownN_spec n hn
    have hU := happenU_spec n e hz hn hsq
    have hI := happenI_spec n e hz hn hsq
    generalize happensF n e hz = RES at *
    have ho := odd_spec RES.2
    simp -implicitDefEqProofs
    refine CallK.outs [] h2 rfl (by simp) (by simp [AV.flat]) ?_
    simp -implicitDefEqProofs
    by_cases hc : bsF (cmpT e.router) n.routers = false ∧ RES.2 = 0
    · refine CallO.mk [] [4, 3] (hI hc.2 hc.1) (by simp) rfl (by simp) (by simp) (by simp) ?_
      simp -implicitDefEqProofs
      first | refine CallK.same (ho) rfl rfl ?_ | refine CallQ.same (ho) rfl rfl ?_ | refine CallQG.same _ (ho) rfl ?_ | refine CallG.same _ (ho) rfl ?_ | refine CallK.pv (ho) rfl rfl ?_
      simp -implicitDefEqProofs [hc.2]
      refine EndZ.ret [5] (.tup [.agg [.im (.sl 4 (RES.1.seats.map Seat.iv)), .row 5], .int .i64 0]) (by simp [hc.2]) ?_
      simp -implicitDefEqProofs [hc.2]
    · refine CallO.mk [] [4, 3] (hU fun hf h0 => hc ⟨hf, h0⟩) (by simp) rfl (by simp) (by simp) (by simp) ?_
      simp -implicitDefEqProofs
      first | refine CallK.same (ho) rfl rfl ?_ | refine CallQ.same (ho) rfl rfl ?_ | refine CallQG.same _ (ho) rfl ?_ | refine CallG.same _ (ho) rfl ?_ | refine CallK.pv (ho) rfl rfl ?_
      simp -implicitDefEqProofs
      refine ⟨fun h => ?_, fun b1 b2 => ?_⟩
      · refine EndZ.ret [] (.tup [.agg [.im (.sc (.slice none 0 0)), .im (.sc (.slice none 0 0))], .int .i64 RES.2]) (by simp) ?_
        simp -implicitDefEqProofs [h]
      · refine EndZ.ret [3] (.tup [.agg [.im (.sl 4 (RES.1.seats.map Seat.iv)), .row 3], .int .i64 RES.2]) (by simp) ?_
        simp -implicitDefEqProofs [b1, b2]
set_option maxRecDepth 8000 in
set_option maxHeartbeats 2000000 in
theorem allNo_spec (n : Net) (l : List Ev) (hz : Int) (hew : ∀ e ∈ l, 0 ≤ e.seq) :
    FSpec Tryz.prog 88 [n.av, .im (.sl 12 (l.map Ev.iv)), .int .i64 hz] [] (.tup [(allN n l hz).1.av, .int .i64 (allN n l hz).2.1, .int .i64 (allN n l hz).2.2]) [] := by
  refine FSpec.bd (enters_of Tryz.func88 (by kernel_rfl) rfl) fun hbd => ?_
  have hl : l.length ≤ 9223372036854775807 := by simp [maxLen] at hbd; exact hbd.2
  clear hbd
  have h1 := checkN_spec n
  refine FSpec.of_z (q := []) Tryz.func88 (by kernel_rfl) rfl Tryz.ntmps88 Tryz.results88 hP (by kernel_rfl) (by simp) (by first | rfl | simp) ?_
  simp -implicitDefEqProofs
  first | refine CallK.same (h1) rfl rfl ?_ | refine CallQ.same (h1) rfl rfl ?_ | refine CallQG.same _ (h1) rfl ?_ | refine CallG.same _ (h1) rfl ?_ | refine CallK.pv (h1) rfl rfl ?_
  simp -implicitDefEqProofs
  unfold allN
  cases hn : netOk n with
  | false =>
    simp -implicitDefEqProofs
    refine EndZ.ret [] (.tup [.agg [.im (.sc (.slice none 0 0)), .im (.sc (.slice none 0 0))], .int .i64 0, .int .i64 2]) (by simp) ?_
    simp -implicitDefEqProofs
  | true =>
    have h2 := ownN_spec n hn
    simp -implicitDefEqProofs
    refine CallK.outs [] h2 rfl (by simp) (by simp [AV.flat]) ?_
    simp -implicitDefEqProofs
    generalize hRES : allGo hz l n 0 = RES at *
    refine LoopK.os (fun g : Nat × Net => [(1, .im (.sl 12 (l.map Ev.iv))), (2, .int .i64 hz), (6, .ptr 0 0), (10, .ptr 1 0), (24, .im (.sl 12 (l.map Ev.iv))), (25, .int .i64 l.length), (26, .int .i64 g.1)])
      (fun g => [.box 25 [.im (.sc (.slice none 0 0)), .im (.sc (.slice none 0 0))], webO g.2 2, .row 85 4 (g.2.routers.map Router.iv)])
      (fun g => g.1 ≤ l.length ∧ netOk g.2 = true ∧ allGo hz (l.drop g.1) g.2 g.1 = RES) (fun g => l.length - g.1) (0, n) [1, 3, 2] ⟨Nat.zero_le _, hn, by simpa using hRES⟩ (by simp) ?_
    rintro ⟨k, N⟩ ⟨hk, hNo, hR⟩
    simp only at hk hNo hR
    by_cases hlt : k < l.length
    · have e1 : IntKind.i64.wrap (k + 1) = (k + 1 : Nat) := wrap64 (by omega) (by omega)
      rw [List.drop_eq_getElem_cons hlt, allGo] at hR
      have hem := hew l[k] (List.getElem_mem _)
      generalize hE : l[k] = E at *
      have hU := happenU_spec N E hz hNo hem
      have hI := happenI_spec N E hz hNo hem
      have hok2 := happensF_ok (e := E) (hz := hz) hNo
      have hkeep := happensF_keep (n := N) (e := E) (hz := hz)
      generalize happensF N E hz = HS at *
      simp -implicitDefEqProofs [hlt, hE]
      by_cases hc : bsF (cmpT E.router) N.routers = false ∧ HS.2 = 0
      · refine CallO.mk [] [1, 2] (hI hc.2 hc.1) (by simp) rfl (by simp) (by simp) (by simp) ?_
        simp -implicitDefEqProofs [hc.2]
        rw [if_pos hc.2] at hR
        refine Again.os (k + 1, HS.1) [0, 1, 4] ⟨hlt, hok2, by simpa using hR⟩ (by show l.length - (k + 1) < l.length - k; omega) ?_
        simp -implicitDefEqProofs [e1]
      · refine CallO.mk [] [1, 2] (hU fun hf h0 => hc ⟨hf, h0⟩) (by simp) rfl (by simp) (by simp) (by simp) ?_
        simp -implicitDefEqProofs
        refine ⟨fun h => ?_, fun h => ?_⟩
        · rw [if_neg h] at hR
          refine EndZ.ret [2] (.tup [.agg [.im (.sl 4 (HS.1.seats.map Seat.iv)), .row 2], .int .i64 k, .int .i64 HS.2]) (by simp) ?_
          simp -implicitDefEqProofs [← hR, hkeep h]
        · rw [if_pos h] at hR
          refine Again.os (k + 1, HS.1) [0, 1, 2] ⟨hlt, hok2, by simpa using hR⟩ (by show l.length - (k + 1) < l.length - k; omega) ?_
          simp -implicitDefEqProofs [e1]
    · have hkk : k = l.length := by omega
      subst hkk
      rw [List.drop_length, allGo] at hR
      simp -implicitDefEqProofs
      refine EndZ.ret [2] (.tup [.agg [.im (.sl 4 (N.seats.map Seat.iv)), .row 2], .int .i64 l.length, .int .i64 0]) (by simp) ?_
      simp -implicitDefEqProofs [← hR]
end Go.Am


set_option linter.unusedVariables false
set_option linter.unusedSimpArgs false
set_option pp.deepTerms false
set_option pp.deepTerms.threshold 40
namespace Go.Am
open Go.Proofs

@[simp] def pastO (p : Past) : AObj := .box 28 [.im (.sl 4 (p.base.seats.map Seat.iv)), .im (.sl 4 (p.base.routers.map Router.iv)), .int .i64 p.hz, .im (.sl 12 (p.evs.map Ev.iv))]
@[simp] def bookO (p : Past) (now : Net) (w : Int) (k : Nat) : AObj := .box 98 [.im (.sl 4 (p.base.seats.map Seat.iv)), .im (.sl 4 (p.base.routers.map Router.iv)), .int .i64 p.hz, .row k, .im (.sl 4 (now.seats.map Seat.iv)), .im (.sl 4 (now.routers.map Router.iv)), .int .i64 w]
@[simp] def evsO (l : List Ev) : AObj := .row 39 12 (l.map Ev.iv)
def lateI : List Seat → Int → Int → Int
  | [], _, _ => -1
  | s :: l, h, k => if h < s.time then k else lateI l h (k + 1)
theorem lateI_any : ∀ (l : List Seat) (h k : Int), 0 ≤ k → (0 ≤ lateI l h k ↔ (l.any fun s => decide (h < s.time)) = true)
  | [], h, k, _ => by simp [lateI]
  | s :: l, h, k, hk => by
    rw [lateI]
    split
    · rename_i h1
      simp [h1, hk]
    · rename_i h1
      rw [lateI_any l h (k + 1) (by omega)]
      simp [h1]
theorem late1_spec (p : Past) (s : Seat) : FSpec Tryz.prog 87 [s.av, .ptr 0 0] [pastO p] (.bool (decide (p.hz < s.time))) [pastO p] := by
  refine FSpec.of_o (q := []) Tryz.func87 (by kernel_rfl) rfl Tryz.ntmps87 Tryz.results87 hP (by kernel_rfl) (by simp) (by first | rfl | simp) ?_
  simp
  refine EndO.ret [] [0] _ rfl ?_
  simp
theorem lateI_spec (p : Past) (l : List Seat) (hl : l.length ≤ 9223372036854775807) :
    FSpec Tryz.prog 125 [.im (.sl 4 (l.map Seat.iv)), .fn 87 [.ptr 0 0]] [pastO p] (.int .i64 (lateI l p.hz 0)) [pastO p] := by
  refine FSpec.of_o (q := []) Tryz.func125 (by kernel_rfl) rfl Tryz.ntmps125 Tryz.results125 hP (by kernel_rfl) (by simp) (by first | rfl | simp) ?_
  simp
  refine LoopK.os (fun k : Nat => [(0, .im (.sl 4 (l.map Seat.iv))), (1, .fn 87 [.ptr 0 0]), (7, .int .i64 l.length), (8, .int .i64 k)])
    (fun _ => [pastO p])
    (fun k => k ≤ l.length ∧ lateI (l.drop k) p.hz k = lateI l p.hz 0) (fun k => l.length - k) 0 [0] ⟨Nat.zero_le _, by simp⟩ (by simp) ?_
  rintro k ⟨hk, hR⟩
  by_cases hlt : k < l.length
  · have e1 : IntKind.i64.wrap (k + 1) = (k + 1 : Nat) := wrap64 (by omega) (by omega)
    rw [List.drop_eq_getElem_cons hlt, lateI] at hR
    simp -implicitDefEqProofs [hlt, e1]
    refine CallO.mk [] [0] (late1_spec p l[k]) (by simp) rfl (by simp) (by simp) (by simp) ?_
    simp -implicitDefEqProofs
    refine ⟨fun h => ?_, fun h => ?_⟩
    · rw [if_pos h] at hR
      refine EndO.ret [] [0] _ rfl ?_
      simp [← hR]
    · rw [if_neg (by omega)] at hR
      refine Again.os (k + 1) [0] ⟨hlt, by simpa using hR⟩ (by omega) ?_
      simp [e1]
  · have hkk : k = l.length := by omega
    subst hkk
    rw [List.drop_length, lateI] at hR
    simp
    refine EndO.ret [] [0] _ rfl ?_
    simp [← hR]
theorem late_spec (p : Past) (l : List Seat) :
    FSpec Tryz.prog 86 [.im (.sl 4 (l.map Seat.iv)), .fn 87 [.ptr 0 0]] [pastO p] (.bool (l.any fun s => decide (p.hz < s.time))) [pastO p] := by
  refine FSpec.bd (enters_of Tryz.func86 (by kernel_rfl) rfl) fun hbd => ?_
  have hl : l.length ≤ 9223372036854775807 := by simp [maxLen] at hbd; exact hbd
  refine FSpec.of_o (q := []) Tryz.func86 (by kernel_rfl) rfl Tryz.ntmps86 Tryz.results86 hP (by kernel_rfl) (by simp) (by first | rfl | simp) ?_
  simp
  refine CallO.mk [] [0] (lateI_spec p l hl) (by simp) rfl (by simp) (by simp) (by simp) ?_
  have hb := lateI_any l p.hz 0 (Int.le_refl _)
  have hb' : decide (0 ≤ lateI l p.hz 0) = (l.any fun s => decide (p.hz < s.time)) := by
    cases h : (l.any fun s => decide (p.hz < s.time)) <;> simp [h] at hb ⊢ <;> omega
  rw [← hb']
  simp -implicitDefEqProofs
  refine EndO.ret [] [0] _ rfl ?_
  simp
theorem grows_spec (e : Ev) : FSpec Tryz.prog 91 [e.av] [] (.bool (e.kind == 3 || e.kind == 5)) [] := by
  refine FSpec.of_flat (q := []) Tryz.func91 (by kernel_rfl) rfl Tryz.ntmps91 Tryz.results91 hP (by kernel_rfl) (by simp) (by first | rfl | simp) ?_
  simp -implicitDefEqProofs
set_option maxRecDepth 8000 in
theorem ownP_spec (p : Past) (h : netOk p.base = true) (hl : p.evs.length ≤ 4096) : FSpec Tryz.prog 89 [p.av] [] (.agg [.im (.sl 4 (p.base.seats.map Seat.iv)), .im (.sl 4 (p.base.routers.map Router.iv)), .int .i64 p.hz, .row 0]) [evsO p.evs] := by
  have h1 := ownN_spec p.base h
  have h2 := cloEvent_spec (p.evs.map Ev.iv) (by simpa using hl)
  refine FSpec.of_o (q := [(1, .m [.p [], .p [], .e [4], .p [0, 2], .p [0, 2], .p [0], .p [0], .e [9]])]) Tryz.func89 (by kernel_rfl) rfl Tryz.ntmps89 Tryz.results89 hP (by kernel_rfl) (by simp) (by first | rfl | simp) ?_
  simp -implicitDefEqProofs
  refine CallK.outs [] h1 rfl (by simp) (by simp [AV.flat]) ?_
  simp -implicitDefEqProofs
  refine CallK.outs [] h2 rfl (by simp) (by simp [AV.flat]) ?_
  simp -implicitDefEqProofs
  refine EndO.ret [2] [3] (.agg [.im (.sl 4 (p.base.seats.map Seat.iv)), .row 2, .int .i64 p.hz, .row 3]) (by simp) ?_
  simp -implicitDefEqProofs
def okP (p : Past) : Bool := decide (-1 ≤ p.hz) && decide (p.hz ≤ 1099511627776) && decide (p.evs.length ≤ 1024) && !(p.base.seats.any fun s => decide (p.hz < s.time)) && decide ((allN p.base p.evs p.hz).2.2 = 0) && decide (weightF p ≤ 1024)
def nowP (p : Past) : Net := (allN p.base p.evs p.hz).1
set_option maxRecDepth 8000 in
set_option maxHeartbeats 2000000 in
theorem openY_spec (p : Past) (hew : ∀ e ∈ p.evs, 0 ≤ e.seq) (hok : okP p = true) :
    FSpec Tryz.prog 50 [p.av] [] (.tup [.ptr 0 0, .int .i64 0]) [bookO p (nowP p) (weightF p) 1, evsO p.evs] := by
  have h1 := late_spec p p.base.seats
  have h2 := allNo_spec p.base p.evs p.hz hew
  have h3 := sizeNo_spec p.base
  have hb := sizeN_bd p.base
  unfold nowP
  unfold okP at hok
  simp only [Bool.and_eq_true, decide_eq_true_eq, Bool.not_eq_true'] at hok
  obtain ⟨⟨⟨⟨⟨k1, k2⟩, k3⟩, k4⟩, k5⟩, k6⟩ := hok
  have hn : netOk p.base = true := by
    cases hn : netOk p.base with
    | true => rfl
    | false => unfold allN at k5; rw [if_pos hn] at k5; cases k5
  have h4 := ownP_spec p hn (by omega)
  rw [k4] at h1
  rw [k5] at h2
  generalize allN p.base p.evs p.hz = RES at *
  have j1 : ¬ p.hz < -1 := by omega
  have j2 : ¬ 1099511627776 < p.hz := by omega
  have j3 : ¬ 1024 < (p.evs.length : Int) := by omega
  refine FSpec.of_o (q := [(8, .m [.p [], .e [42], .p [0]])]) Tryz.func50 (by kernel_rfl) rfl Tryz.ntmps50 Tryz.results50 hP (by kernel_rfl) (by simp) (by first | rfl | simp) ?_
  simp -implicitDefEqProofs [j1, j2, j3]
  refine CallO.mk [] [0] h1 (by simp) rfl (by simp) (by simp) (by simp) ?_
  simp -implicitDefEqProofs
  first | refine CallK.same (h2) rfl rfl ?_ | refine CallQ.same (h2) rfl rfl ?_ | refine CallQG.same _ (h2) rfl ?_ | refine CallG.same _ (h2) rfl ?_ | refine CallK.pv (h2) rfl rfl ?_
  simp -implicitDefEqProofs
  refine CallK.outs [] h4 rfl (by simp) (by simp [AV.flat]) ?_
  simp -implicitDefEqProofs
  first | refine CallK.same (h3) rfl rfl ?_ | refine CallQ.same (h3) rfl rfl ?_ | refine CallQG.same _ (h3) rfl ?_ | refine CallG.same _ (h3) rfl ?_ | refine CallK.pv (h3) rfl rfl ?_
  simp -implicitDefEqProofs
  have hw : weightF p = sizeN p.base + addsE p.evs := rfl
  generalize sizeN p.base = z at *
  refine LoopK.os (fun k : Nat => [(7, .ptr 0 0), (57, .im (.sl 12 (p.evs.map Ev.iv))), (58, .int .i64 p.evs.length), (59, .int .i64 k)])
    (fun k => [bookO p RES.1 (z + addsE (p.evs.take k)) 1, evsO p.evs])
    (fun k => k ≤ p.evs.length) (fun k => p.evs.length - k) 0 [3, 2] (Nat.zero_le _) (by simp [addsE]) ?_
  intro k hk
  by_cases hlt : k < p.evs.length
  · have e1 : IntKind.i64.wrap (k + 1) = (k + 1 : Nat) := wrap64 (by omega) (by omega)
    have ht := addsE_take p.evs k hlt
    have hn := addsE_len (p.evs.take k)
    rw [List.length_take] at hn
    have e2 : IntKind.i64.wrap (z + (addsE (p.evs.take k) : Int) + 1) = z + (addsE (p.evs.take k) : Int) + 1 := wrap64 (by omega) (by omega)
    obtain ⟨E, hE⟩ : ∃ E, p.evs[k] = E := ⟨_, rfl⟩
    rw [hE] at ht
    have hg := grows_spec E
    simp -implicitDefEqProofs [hlt, hE]
    first | refine CallK.same (hg) rfl rfl ?_ | refine CallQ.same (hg) rfl rfl ?_ | refine CallQG.same _ (hg) rfl ?_ | refine CallG.same _ (hg) rfl ?_ | refine CallK.pv (hg) rfl rfl ?_
    simp -implicitDefEqProofs
    refine ⟨fun h => ?_, fun h1 h2 => ?_⟩
    · rw [if_pos h] at ht
      refine Again.os (k + 1) [0, 1] hlt (by omega) ?_
      simp -implicitDefEqProofs [e1, e2, ht]
      omega
    · rw [if_neg (by simp [h1, h2])] at ht
      refine Again.os (k + 1) [0, 1] hlt (by omega) ?_
      simp -implicitDefEqProofs [e1, ht]
  · have hkk : k = p.evs.length := by omega
    subst hkk
    have j4 : ¬ 1024 < z + (addsE p.evs : Int) := by omega
    simp -implicitDefEqProofs [j4]
    refine EndO.ret [] [0, 1] (.tup [.ptr 0 0, .int .i64 0]) (by simp) ?_
    simp -implicitDefEqProofs [hw]
set_option maxRecDepth 8000 in
set_option maxHeartbeats 2000000 in
theorem openN_spec (p : Past) (hew : ∀ e ∈ p.evs, 0 ≤ e.seq) (hok : okP p = false) :
    FSpec Tryz.prog 50 [p.av] [] (.tup [.im (.sc (.pointer none)), .int .i64 2]) [] := by
  have h1 := late_spec p p.base.seats
  have h2 := allNo_spec p.base p.evs p.hz hew
  have h3 := sizeNo_spec p.base
  have hb := sizeN_bd p.base
  unfold okP at hok
  obtain ⟨B, hB⟩ : ∃ B, (p.base.seats.any fun s => decide (p.hz < s.time)) = B := ⟨_, rfl⟩
  rw [hB] at h1 hok
  refine FSpec.of_z (q := [(8, .m [.p [], .e [42], .p [0]])]) Tryz.func50 (by kernel_rfl) rfl Tryz.ntmps50 Tryz.results50 hP (by kernel_rfl) (by simp) (by first | rfl | simp) ?_
  simp -implicitDefEqProofs
  refine ⟨fun h => ?_, fun j1 j2 j3 => ?_⟩
  · refine EndZ.ret [] (.tup [.im (.sc (.pointer none)), .int .i64 2]) (by simp) (by simp)
  refine CallO.mk [] [0] h1 (by simp) rfl (by simp) (by simp) (by simp) ?_
  simp -implicitDefEqProofs
  cases B with
  | true =>
    simp -implicitDefEqProofs
    refine EndZ.ret [] (.tup [.im (.sc (.pointer none)), .int .i64 2]) (by simp) (by simp)
  | false =>
  simp -implicitDefEqProofs
  first | refine CallK.same (h2) rfl rfl ?_ | refine CallQ.same (h2) rfl rfl ?_ | refine CallQG.same _ (h2) rfl ?_ | refine CallG.same _ (h2) rfl ?_ | refine CallK.pv (h2) rfl rfl ?_
  have hn0 : (allN p.base p.evs p.hz).2.2 = 0 → netOk p.base = true := fun h => by
    cases hn : netOk p.base with
    | true => rfl
    | false => unfold allN at h; rw [if_pos hn] at h; cases h
  have hk : (allN p.base p.evs p.hz).2.2 = 0 → ¬ weightF p ≤ 1024 := fun h h' => by
    simp [h, h'] at hok
    omega
  generalize allN p.base p.evs p.hz = RES at *
  simp -implicitDefEqProofs
  refine ⟨fun h => ?_, fun k5 => ?_⟩
  · refine EndZ.ret [] (.tup [.im (.sc (.pointer none)), .int .i64 2]) (by simp) (by simp)
  have hn := hn0 k5
  have k6 := hk k5
  have k3 : p.evs.length ≤ 1024 := by omega
  have h4 := ownP_spec p hn (by omega)
  refine CallK.outs [] h4 rfl (by simp) (by simp [AV.flat]) ?_
  simp -implicitDefEqProofs
  first | refine CallK.same (h3) rfl rfl ?_ | refine CallQ.same (h3) rfl rfl ?_ | refine CallQG.same _ (h3) rfl ?_ | refine CallG.same _ (h3) rfl ?_ | refine CallK.pv (h3) rfl rfl ?_
  simp -implicitDefEqProofs
  have hw : weightF p = sizeN p.base + addsE p.evs := rfl
  generalize sizeN p.base = z at *
  refine LoopK.os (fun k : Nat => [(7, .ptr 0 0), (57, .im (.sl 12 (p.evs.map Ev.iv))), (58, .int .i64 p.evs.length), (59, .int .i64 k)])
    (fun k => [bookO p RES.1 (z + addsE (p.evs.take k)) 1, evsO p.evs])
    (fun k => k ≤ p.evs.length) (fun k => p.evs.length - k) 0 [3, 2] (Nat.zero_le _) (by simp [addsE]) ?_
  intro k hk
  by_cases hlt : k < p.evs.length
  · have e1 : IntKind.i64.wrap (k + 1) = (k + 1 : Nat) := wrap64 (by omega) (by omega)
    have ht := addsE_take p.evs k hlt
    have hn := addsE_len (p.evs.take k)
    rw [List.length_take] at hn
    have e2 : IntKind.i64.wrap (z + (addsE (p.evs.take k) : Int) + 1) = z + (addsE (p.evs.take k) : Int) + 1 := wrap64 (by omega) (by omega)
    obtain ⟨E, hE⟩ : ∃ E, p.evs[k] = E := ⟨_, rfl⟩
    rw [hE] at ht
    have hg := grows_spec E
    simp -implicitDefEqProofs [hlt, hE]
    first | refine CallK.same (hg) rfl rfl ?_ | refine CallQ.same (hg) rfl rfl ?_ | refine CallQG.same _ (hg) rfl ?_ | refine CallG.same _ (hg) rfl ?_ | refine CallK.pv (hg) rfl rfl ?_
    simp -implicitDefEqProofs
    refine ⟨fun h => ?_, fun h1 h2 => ?_⟩
    · rw [if_pos h] at ht
      refine Again.os (k + 1) [0, 1] hlt (by omega) ?_
      simp -implicitDefEqProofs [e1, e2, ht]
      omega
    · rw [if_neg (by simp [h1, h2])] at ht
      refine Again.os (k + 1) [0, 1] hlt (by omega) ?_
      simp -implicitDefEqProofs [e1, ht]
  · have hkk : k = p.evs.length := by omega
    subst hkk
    have j4 : 1024 < z + (addsE p.evs : Int) := by omega
    simp -implicitDefEqProofs [j4]
    refine EndZ.ret [] (.tup [.im (.sc (.pointer none)), .int .i64 2]) (by simp) (by simp)
end Go.Am


set_option linter.unusedVariables false
set_option linter.unusedSimpArgs false
set_option pp.deepTerms false
set_option pp.deepTerms.threshold 40
namespace Go.Am
open Go.Proofs

theorem checkP_spec_ (p : Past) (hew : ∀ e ∈ p.evs, 0 ≤ e.seq) : FSpec Tryz.prog 22 [p.av] [] (.int .i64 (if okP p then 0 else 2)) [] := by
  refine FSpec.of_z (q := []) Tryz.func22 (by kernel_rfl) rfl Tryz.ntmps22 Tryz.results22 hP (by kernel_rfl) (by simp) (by first | rfl | simp) ?_
  simp -implicitDefEqProofs
  cases hok : okP p with
  | true =>
    refine CallK.outs [] (openY_spec p hew hok) rfl (by simp) (by simp [AV.flat]) ?_
    simp -implicitDefEqProofs
    refine EndZ.ret [] (.int .i64 0) (by simp) (by simp)
  | false =>
    first | refine CallK.same (openN_spec p hew hok) rfl rfl ?_ | refine CallQ.same (openN_spec p hew hok) rfl rfl ?_ | refine CallQG.same _ (openN_spec p hew hok) rfl ?_ | refine CallG.same _ (openN_spec p hew hok) rfl ?_ | refine CallK.pv (openN_spec p hew hok) rfl rfl ?_
    simp -implicitDefEqProofs
    refine EndZ.ret [] (.int .i64 2) (by simp) (by simp)
theorem makePo_spec : FSpec Tryz.prog 25 [] [] (⟨⟨[], []⟩, -1, []⟩ : Past).av [] := by
  refine FSpec.of_z (q := []) Tryz.func25 (by kernel_rfl) rfl Tryz.ntmps25 Tryz.results25 hP (by kernel_rfl) (by simp) (by first | rfl | simp) ?_
  simp -implicitDefEqProofs
  refine EndZ.ret [] (.agg [.im (.sc (.slice none 0 0)), .im (.sc (.slice none 0 0)), .int .i64 (-1), .im (.sc (.slice none 0 0))]) (by simp) ?_
  simp -implicitDefEqProofs
theorem weightP_spec (p : Past) (hew : ∀ e ∈ p.evs, 0 ≤ e.seq) : FSpec Tryz.prog 19 [p.av] [] (.tup [.int .i64 (if okP p then weightF p else 0), .int .i64 (if okP p then 0 else 2)]) [] := by
  refine FSpec.of_z (q := []) Tryz.func19 (by kernel_rfl) rfl Tryz.ntmps19 Tryz.results19 hP (by kernel_rfl) (by simp) (by first | rfl | simp) ?_
  simp -implicitDefEqProofs
  cases hok : okP p with
  | true =>
    refine CallK.outs [] (openY_spec p hew hok) rfl (by simp) (by simp [AV.flat]) ?_
    simp -implicitDefEqProofs
    refine EndZ.ret [] (.tup [.int .i64 (weightF p), .int .i64 0]) (by simp) (by simp)
  | false =>
    first | refine CallK.same (openN_spec p hew hok) rfl rfl ?_ | refine CallQ.same (openN_spec p hew hok) rfl rfl ?_ | refine CallQG.same _ (openN_spec p hew hok) rfl ?_ | refine CallG.same _ (openN_spec p hew hok) rfl ?_ | refine CallK.pv (openN_spec p hew hok) rfl rfl ?_
    simp -implicitDefEqProofs
    refine EndZ.ret [] (.tup [.int .i64 0, .int .i64 2]) (by simp) (by simp)
def net0 : Net := ⟨[], []⟩
theorem nowP_spec (p : Past) (hew : ∀ e ∈ p.evs, 0 ≤ e.seq) : FSpec Tryz.prog 29 [p.av] [] (.tup [(if okP p then nowP p else net0).av, .int .i64 (if okP p then 0 else 2)]) [] := by
  refine FSpec.of_z (q := []) Tryz.func29 (by kernel_rfl) rfl Tryz.ntmps29 Tryz.results29 hP (by kernel_rfl) (by simp) (by first | rfl | simp) ?_
  simp -implicitDefEqProofs
  cases hok : okP p with
  | true =>
    refine CallK.outs [] (openY_spec p hew hok) rfl (by simp) (by simp [AV.flat]) ?_
    simp -implicitDefEqProofs
    refine EndZ.ret [] (.tup [(nowP p).av, .int .i64 0]) (by simp) (by simp)
  | false =>
    first | refine CallK.same (openN_spec p hew hok) rfl rfl ?_ | refine CallQ.same (openN_spec p hew hok) rfl rfl ?_ | refine CallQG.same _ (openN_spec p hew hok) rfl ?_ | refine CallG.same _ (openN_spec p hew hok) rfl ?_ | refine CallK.pv (openN_spec p hew hok) rfl rfl ?_
    simp -implicitDefEqProofs
    refine EndZ.ret [] (.tup [.agg [.im (.sc (.slice none 0 0)), .im (.sc (.slice none 0 0))], .int .i64 2]) (by simp) ?_
    simp [net0]
def after (t : Int) (l : List Ev) : List Ev := l.filter fun e => decide (t < e.time)
theorem after_len (t : Int) (l : List Ev) : (after t l).length ≤ l.length := List.length_filter_le _ _
theorem after_take (t : Int) (l : List Ev) (k : Nat) (h : k < l.length) : after t (l.take (k + 1)) = if t < l[k].time then after t (l.take k) ++ [l[k]] else after t (l.take k) := by
  unfold after; rw [filter_take _ _ _ h]; simp
theorem after_nil (t : Int) : after t [] = [] := rfl
set_option maxRecDepth 8000 in
set_option maxHeartbeats 2000000 in
theorem uptoB_spec (p : Past) (now : Net) (w t : Int) (hl : p.evs.length ≤ 4096) :
    FSpec Tryz.prog 97 [.ptr 0 0, .int .i64 t] [bookO p now w 1, evsO p.evs] (.tup [.im (.sl 12 ((upto t p.evs).map Ev.iv)), .row 2]) [bookO p now w 1, evsO p.evs, evsO (after t p.evs)] := by
  refine FSpec.of_o (q := []) Tryz.func97 (by kernel_rfl) rfl Tryz.ntmps97 Tryz.results97 hP (by kernel_rfl) (by simp) (by first | rfl | simp) ?_
  simp -implicitDefEqProofs
  refine LoopK.nil (.sl 6 39 12) ?_
  simp -implicitDefEqProofs
  refine LoopK.nil (.sl 7 39 12) ?_
  simp -implicitDefEqProofs
  refine LoopK.os (fun k : Nat => [(1, .int .i64 t), (6, .row 2), (7, .row 3), (14, .row 1), (15, .int .i64 p.evs.length), (16, .int .i64 k)])
    (fun k => [bookO p now w 1, evsO p.evs, evsO (upto t (p.evs.take k)), evsO (after t (p.evs.take k))])
    (fun k => k ≤ p.evs.length) (fun k => p.evs.length - k) 0 [0, 1, 2, 3] (Nat.zero_le _) (by simp [upto_nil, after_nil]) ?_
  intro k hk
  by_cases hlt : k < p.evs.length
  · have e1 : IntKind.i64.wrap (k + 1) = (k + 1 : Nat) := wrap64 (by omega) (by omega)
    have g1 := upto_take t p.evs k hlt
    have b1 := upto_len t (p.evs.take k)
    have g2 := after_take t p.evs k hlt
    have b2 := after_len t (p.evs.take k)
    rw [List.length_take] at b1 b2
    obtain ⟨E, hE⟩ : ∃ E, p.evs[k] = E := ⟨_, rfl⟩
    rw [hE] at g1 g2
    simp -implicitDefEqProofs [hlt, hE]
    refine ⟨fun h => ⟨⟨by omega, by unfold maxLen; omega⟩, ?_⟩, fun h => ⟨⟨by omega, by unfold maxLen; omega⟩, ?_⟩⟩
    · rw [if_pos h] at g1
      rw [if_neg (by omega)] at g2
      refine Again.os (k + 1) [0, 1, 6, 3] hlt (by omega) ?_
      simp -implicitDefEqProofs [e1, g1, g2]
    · rw [if_neg (by omega)] at g1
      rw [if_pos (by omega)] at g2
      refine Again.os (k + 1) [0, 1, 2, 6] hlt (by omega) ?_
      simp -implicitDefEqProofs [e1, g1, g2]
  · have hkk : k = p.evs.length := by omega
    subst hkk
    simp -implicitDefEqProofs
    refine EndO.ret [2] [0, 1, 3] (.tup [.row 2, .row 3]) (by simp) ?_
    simp -implicitDefEqProofs
def askT (p : Past) (t : Int) : Int := if t < 0 ∨ 1099511627776 < t then 1 else if t < p.hz then 15 else 0
theorem atB_spec (p : Past) (now : Net) (w t : Int) (hb : ¬ askT p t = 0) :
    FSpec Tryz.prog 59 [.ptr 0 0, .int .i64 t] [bookO p now w 1, evsO p.evs] (.tup [.agg [.im (.sc (.slice none 0 0)), .im (.sc (.slice none 0 0))], .im (.sc (.slice none 0 0)), .int .i64 (askT p t)]) [bookO p now w 1, evsO p.evs] := by
  by_cases h1 : t < 0 ∨ 1099511627776 < t
  · have e : askT p t = 1 := by unfold askT; rw [if_pos h1]
    rw [e]
    rcases h1 with h1 | h1
    · refine FSpec.of_o (q := [(6, .m [.p [], .p [], .p [], .p [], .p [], .p [], .p [], .p [], .p [], .p [], .p [], .e [40, 41, 46], .p [], .p [], .p [2], .p [2], .a 0 1, .e [9, 48], .p []])]) Tryz.func59 (by kernel_rfl) rfl Tryz.ntmps59 Tryz.results59 hP (by kernel_rfl) (by simp) (by first | rfl | simp) ?_
      simp -implicitDefEqProofs [h1]
      refine EndO.ret [] [0, 1] (.tup [.agg [.im (.sc (.slice none 0 0)), .im (.sc (.slice none 0 0))], .im (.sc (.slice none 0 0)), .int .i64 1]) (by simp) ?_
      simp -implicitDefEqProofs
    · have h0 : ¬ t < 0 := by omega
      refine FSpec.of_o (q := [(6, .m [.p [], .p [], .p [], .p [], .p [], .p [], .p [], .p [], .p [], .p [], .p [], .e [40, 41, 46], .p [], .p [], .p [2], .p [2], .a 0 1, .e [9, 48], .p []])]) Tryz.func59 (by kernel_rfl) rfl Tryz.ntmps59 Tryz.results59 hP (by kernel_rfl) (by simp) (by first | rfl | simp) ?_
      simp -implicitDefEqProofs [h1, h0]
      refine EndO.ret [] [0, 1] (.tup [.agg [.im (.sc (.slice none 0 0)), .im (.sc (.slice none 0 0))], .im (.sc (.slice none 0 0)), .int .i64 1]) (by simp) ?_
      simp -implicitDefEqProofs
  · by_cases h2 : t < p.hz
    · have e : askT p t = 15 := by unfold askT; rw [if_neg h1, if_pos h2]
      rw [e]
      have h3 : ¬ t < 0 := by omega
      have h4 : ¬ 1099511627776 < t := by omega
      refine FSpec.of_o (q := [(6, .m [.p [], .p [], .p [], .p [], .p [], .p [], .p [], .p [], .p [], .p [], .p [], .e [40, 41, 46], .p [], .p [], .p [2], .p [2], .a 0 1, .e [9, 48], .p []])]) Tryz.func59 (by kernel_rfl) rfl Tryz.ntmps59 Tryz.results59 hP (by kernel_rfl) (by simp) (by first | rfl | simp) ?_
      simp -implicitDefEqProofs [h3, h4, h2]
      refine EndO.ret [] [0, 1] (.tup [.agg [.im (.sc (.slice none 0 0)), .im (.sc (.slice none 0 0))], .im (.sc (.slice none 0 0)), .int .i64 15]) (by simp) ?_
      simp -implicitDefEqProofs
    · refine absurd ?_ hb
      unfold askT
      rw [if_neg h1, if_neg h2]
def thenW (p : Past) (t : Int) : Int := (allN p.base (upto t p.evs) p.hz).2.2
theorem atA_spec (p : Past) (now : Net) (w t : Int) (hew : ∀ e ∈ p.evs, 0 ≤ e.seq) (hl : p.evs.length ≤ 4096) (hb : askT p t = 0) :
    FSpec Tryz.prog 59 [.ptr 0 0, .int .i64 t] [bookO p now w 1, evsO p.evs] (.tup [(thenF p t).av, .row 2, .int .i64 (thenW p t)]) [bookO p now w 1, evsO p.evs, evsO (after t p.evs)] := by
  have h3 := allNo_spec p.base (upto t p.evs) p.hz (fun e he => hew e (List.mem_filter.1 he).1)
  have hu := uptoB_spec p now w t hl
  unfold thenF thenW
  generalize allN p.base (upto t p.evs) p.hz = RES at *
  unfold askT at hb
  by_cases h1 : t < 0 ∨ 1099511627776 < t
  · rw [if_pos h1] at hb
    cases hb
  rw [if_neg h1] at hb
  by_cases h2 : t < p.hz
  · rw [if_pos h2] at hb
    cases hb
  have g3 : ¬ t < 0 := by omega
  have g4 : ¬ 1099511627776 < t := by omega
  refine FSpec.of_o (q := [(6, .m [.p [], .p [], .p [], .p [], .p [], .p [], .p [], .p [], .p [], .p [], .p [], .e [40, 41, 46], .p [], .p [], .p [2], .p [2], .a 0 1, .e [9, 48], .p []])]) Tryz.func59 (by kernel_rfl) rfl Tryz.ntmps59 Tryz.results59 hP (by kernel_rfl) (by simp) (by first | rfl | simp) ?_
  simp -implicitDefEqProofs [g3, g4, h2]
  refine CallO.mk [] [0, 1] hu (by simp) rfl (by simp) (by simp) (by simp) ?_
  simp -implicitDefEqProofs
  first | refine CallK.same (h3) rfl rfl ?_ | refine CallQ.same (h3) rfl rfl ?_ | refine CallQG.same _ (h3) rfl ?_ | refine CallG.same _ (h3) rfl ?_ | refine CallK.pv (h3) rfl rfl ?_
  simp -implicitDefEqProofs
  refine EndO.ret [] [0, 1, 3] (.tup [RES.1.av, .row 3, .int .i64 RES.2.2]) (by simp) ?_
  simp -implicitDefEqProofs
theorem atP_spec (p : Past) (t : Int) (hew : ∀ e ∈ p.evs, 0 ≤ e.seq) : FSpec Tryz.prog 27 [p.av, .int .i64 t] []
    (.tup [(if okP p = true ∧ askT p t = 0 then thenF p t else net0).av, .int .i64 (if okP p then (if askT p t = 0 then thenW p t else askT p t) else 2)]) [] := by
  refine FSpec.of_z (q := []) Tryz.func27 (by kernel_rfl) rfl Tryz.ntmps27 Tryz.results27 hP (by kernel_rfl) (by simp) (by first | rfl | simp) ?_
  simp -implicitDefEqProofs
  cases hok : okP p with
  | true =>
    have hl : p.evs.length ≤ 4096 := by
      unfold okP at hok
      simp only [Bool.and_eq_true, decide_eq_true_eq] at hok
      omega
    refine CallK.outs [] (openY_spec p hew hok) rfl (by simp) (by simp [AV.flat]) ?_
    simp -implicitDefEqProofs
    by_cases hb : askT p t = 0
    · refine CallO.mk [] [2, 3] (atA_spec p (nowP p) (weightF p) t hew hl hb) (by simp) rfl (by simp) (by simp) (by simp) ?_
      simp -implicitDefEqProofs
      refine EndZ.ret [] (.tup [(thenF p t).av, .int .i64 (thenW p t)]) (by simp) (by simp [hb])
    · refine CallO.mk [] [2, 3] (atB_spec p (nowP p) (weightF p) t hb) (by simp) rfl (by simp) (by simp) (by simp) ?_
      simp -implicitDefEqProofs
      refine EndZ.ret [] (.tup [.agg [.im (.sc (.slice none 0 0)), .im (.sc (.slice none 0 0))], .int .i64 (askT p t)]) (by simp) (by simp [hb, net0])
  | false =>
    first | refine CallK.same (openN_spec p hew hok) rfl rfl ?_ | refine CallQ.same (openN_spec p hew hok) rfl rfl ?_ | refine CallQG.same _ (openN_spec p hew hok) rfl ?_ | refine CallG.same _ (openN_spec p hew hok) rfl ?_ | refine CallK.pv (openN_spec p hew hok) rfl rfl ?_
    simp -implicitDefEqProofs
    refine EndZ.ret [] (.tup [.agg [.im (.sc (.slice none 0 0)), .im (.sc (.slice none 0 0))], .int .i64 2]) (by simp) ?_
    simp [net0]
end Go.Am


set_option linter.unusedVariables false
set_option linter.unusedSimpArgs false
set_option pp.deepTerms false
set_option pp.deepTerms.threshold 40
namespace Go.Am
open Go.Proofs

def growsE (e : Ev) : Bool := e.kind == 3 || e.kind == 5
def addE (p : Past) (e : Ev) : Past := ⟨p.base, p.hz, p.evs ++ [e]⟩
theorem weight_add (p : Past) (e : Ev) : weightF (addE p e) = weightF p + if growsE e then 1 else 0 := by
  unfold weightF addE addsE growsE
  simp only [List.countP_append, List.countP_cons, List.countP_nil]
  split <;> omega
def fullP (p : Past) (e : Ev) : Bool := decide ((p.evs.length : Int) = 1024) || (growsE e && decide (weightF p = 1024))
def takeW (p : Past) (e : Ev) : Int := if ¬ (applyN (nowP p) e p.hz).2 = 0 then (applyN (nowP p) e p.hz).2 else if fullP p e then 8 else 0
theorem okP_len {p : Past} (h : okP p = true) : p.evs.length ≤ 1024 := by
  unfold okP at h
  simp only [Bool.and_eq_true, decide_eq_true_eq] at h
  omega
theorem okP_weight {p : Past} (h : okP p = true) : weightF p ≤ 1024 := by
  unfold okP at h
  simp only [Bool.and_eq_true, decide_eq_true_eq] at h
  omega
set_option maxRecDepth 8000 in
set_option maxHeartbeats 2000000 in
theorem takeB0_spec (p : Past) (e : Ev) (hsq : 0 ≤ e.seq) (h0 : ¬ takeW p e = 0) :
    FSpec Tryz.prog 51 [.ptr 0 0, e.av] [bookO p (nowP p) (weightF p) 1, evsO p.evs] (.int .i64 (takeW p e)) [bookO p (nowP p) (weightF p) 1, evsO p.evs] := by
  have h1 := applyNo_spec (nowP p) e p.hz hsq
  have h2 := grows_spec e
  have hW : takeW p e = if ¬ (applyN (nowP p) e p.hz).2 = 0 then (applyN (nowP p) e p.hz).2 else if fullP p e then 8 else 0 := rfl
  have hf : fullP p e = (decide ((p.evs.length : Int) = 1024) || (growsE e && decide (weightF p = 1024))) := rfl
  generalize takeW p e = W at *
  generalize applyN (nowP p) e p.hz = A at *
  rw [show (e.kind == 3 || e.kind == 5) = growsE e from rfl] at h2
  generalize growsE e = G at *
  refine FSpec.of_o (q := [(1, .m [.p [], .p [], .p [], .p [], .p [], .p [], .p [], .p [], .p [], .p [], .e [12, 13, 18], .p [], .p [], .p [2], .a 0 1, .e [5, 20]]), (7, .m [.p [1, 2], .p [1, 2, 3], .p [1, 2], .p [1], .p [1], .p [1], .p [1], .p [1], .p [1], .p [1], .p [1], .p [], .e [62], .e [61, 63], .p [], .p [], .e [66, 53]])]) Tryz.func51 (by kernel_rfl) rfl Tryz.ntmps51 Tryz.results51 hP (by kernel_rfl) (by simp) (by first | rfl | simp) ?_
  simp -implicitDefEqProofs
  first | refine CallK.same (h1) rfl rfl ?_ | refine CallQ.same (h1) rfl rfl ?_ | refine CallQG.same _ (h1) rfl ?_ | refine CallG.same _ (h1) rfl ?_ | refine CallK.pv (h1) rfl rfl ?_
  simp -implicitDefEqProofs
  refine ⟨fun h => ?_, fun b1 => ?_⟩
  · rw [if_pos h] at hW
    subst hW
    refine EndO.ret [] [0, 1] (.int .i64 A.2) (by simp) ?_
    simp -implicitDefEqProofs
  rw [if_neg (by simp [b1])] at hW
  have hfull : fullP p e = true := by
    cases h : fullP p e with
    | true => rfl
    | false => rw [h] at hW; exact absurd hW h0
  rw [if_pos hfull] at hW
  rw [hfull] at hf
  subst hW
  first | refine CallK.same (h2) rfl rfl ?_ | refine CallQ.same (h2) rfl rfl ?_ | refine CallQG.same _ (h2) rfl ?_ | refine CallG.same _ (h2) rfl ?_ | refine CallK.pv (h2) rfl rfl ?_
  simp -implicitDefEqProofs
  refine ⟨fun h => by cases G <;> simp [impB, h], fun h => ?_, fun h => ?_⟩
  · refine EndO.ret [] [0, 1] (.int .i64 8) (by simp) ?_
    simp -implicitDefEqProofs
  · intro h2
    exfalso
    cases G with
    | false => simp [h] at hf
    | true => simp [h, h2 rfl] at hf
set_option maxRecDepth 8000 in
set_option maxHeartbeats 2000000 in
theorem takeB1_spec (p : Past) (e : Ev) (hsq : 0 ≤ e.seq) (hok : okP p = true) (h0 : takeW p e = 0) :
    FSpec Tryz.prog 51 [.ptr 0 0, e.av] [bookO p (nowP p) (weightF p) 1, evsO p.evs] (.int .i64 0) [bookO (addE p e) (applyN (nowP p) e p.hz).1 (weightF (addE p e)) 2, evsO p.evs, evsO (addE p e).evs] := by
  have h1 := applyNo_spec (nowP p) e p.hz hsq
  have h2 := grows_spec e
  have hlen := okP_len hok
  have hwt := okP_weight hok
  have hwa := weight_add p e
  have hW : takeW p e = if ¬ (applyN (nowP p) e p.hz).2 = 0 then (applyN (nowP p) e p.hz).2 else if fullP p e then 8 else 0 := rfl
  have hf : fullP p e = (decide ((p.evs.length : Int) = 1024) || (growsE e && decide (weightF p = 1024))) := rfl
  rw [h0] at hW
  generalize applyN (nowP p) e p.hz = A at *
  rw [show (e.kind == 3 || e.kind == 5) = growsE e from rfl] at h2
  generalize growsE e = G at *
  have b1 : A.2 = 0 := by
    apply Classical.byContradiction
    intro h
    rw [if_pos h] at hW
    exact h hW.symm
  rw [if_neg (by simp [b1])] at hW
  have hfull : fullP p e = false := by
    cases h : fullP p e with
    | false => rfl
    | true => rw [h] at hW; cases hW
  rw [hfull] at hf
  have c1 : ¬ (p.evs.length : Int) = 1024 := by intro h; simp [h] at hf
  refine FSpec.of_o (q := [(1, .m [.p [], .p [], .p [], .p [], .p [], .p [], .p [], .p [], .p [], .p [], .e [12, 13, 18], .p [], .p [], .p [2], .a 0 1, .e [5, 20]]), (7, .m [.p [1, 2], .p [1, 2, 3], .p [1, 2], .p [1], .p [1], .p [1], .p [1], .p [1], .p [1], .p [1], .p [1], .p [], .e [62], .e [61, 63], .p [], .p [], .e [66, 53]])]) Tryz.func51 (by kernel_rfl) rfl Tryz.ntmps51 Tryz.results51 hP (by kernel_rfl) (by simp) (by first | rfl | simp) ?_
  simp -implicitDefEqProofs
  first | refine CallK.same (h1) rfl rfl ?_ | refine CallQ.same (h1) rfl rfl ?_ | refine CallQG.same _ (h1) rfl ?_ | refine CallG.same _ (h1) rfl ?_ | refine CallK.pv (h1) rfl rfl ?_
  simp -implicitDefEqProofs [b1]
  first | refine CallK.same (h2) rfl rfl ?_ | refine CallQ.same (h2) rfl rfl ?_ | refine CallQG.same _ (h2) rfl ?_ | refine CallG.same _ (h2) rfl ?_ | refine CallK.pv (h2) rfl rfl ?_
  simp -implicitDefEqProofs [c1, aCut, rowAt]
  have hsz := sizeN_bd p.base
  have hw0 : 0 ≤ weightF p := by unfold weightF; omega
  have e2 : IntKind.i64.wrap (weightF p + 1) = weightF p + 1 := wrap64 (by omega) (by omega)
  refine ⟨by cases G <;> simp [impB, c1], fun hg hw => ?_, fun hgw => ⟨⟨by unfold maxLen; omega, by omega⟩, ?_⟩⟩
  · exfalso
    simp [c1, hg, hw] at hf
  first | refine CallK.same (h2) rfl rfl ?_ | refine CallQ.same (h2) rfl rfl ?_ | refine CallQG.same _ (h2) rfl ?_ | refine CallG.same _ (h2) rfl ?_ | refine CallK.pv (h2) rfl rfl ?_
  simp -implicitDefEqProofs
  cases G with
  | true =>
    rw [if_pos rfl] at hwa
    simp -implicitDefEqProofs [e2]
    refine EndO.ret [] [0, 1, 5] (.int .i64 0) (by simp) ?_
    rw [hwa]
    simp -implicitDefEqProofs [addE]
    exact List.take_of_length_le (by simp)
  | false =>
    rw [if_neg (by simp)] at hwa
    simp -implicitDefEqProofs
    refine EndO.ret [] [0, 1, 5] (.int .i64 0) (by simp) ?_
    rw [hwa]
    simp -implicitDefEqProofs [addE]
    exact List.take_of_length_le (by simp)
def past0 : Past := ⟨⟨[], []⟩, 0, []⟩
def takeP (p : Past) (e : Ev) : Past × Int := if okP p = false ∨ takeW p e = 2 then (past0, 2) else if takeW p e = 0 then (addE p e, 0) else (p, takeW p e)
theorem takePo_spec (p : Past) (e : Ev) (hew : ∀ e ∈ p.evs, 0 ≤ e.seq) (hsq : 0 ≤ e.seq) : FSpec Tryz.prog 15 [p.av, e.av] [] (.tup [(takeP p e).1.av, .int .i64 (takeP p e).2]) [] := by
  refine FSpec.of_z (q := []) Tryz.func15 (by kernel_rfl) rfl Tryz.ntmps15 Tryz.results15 hP (by kernel_rfl) (by simp) (by first | rfl | simp) ?_
  simp -implicitDefEqProofs
  cases hok : okP p with
  | true =>
    refine CallK.outs [] (openY_spec p hew hok) rfl (by simp) (by simp [AV.flat]) ?_
    simp -implicitDefEqProofs
    by_cases h0 : takeW p e = 0
    · refine CallO.mk [] [3, 4] (takeB1_spec p e hsq hok h0) (by simp) rfl (by simp) (by simp) (by simp) ?_
      simp -implicitDefEqProofs
      have hx : takeP p e = (addE p e, 0) := by unfold takeP; rw [if_neg (by simp [hok, h0]), if_pos h0]
      rw [hx]
      refine EndZ.ret [5] (.tup [.agg [.im (.sl 4 ((addE p e).base.seats.map Seat.iv)), .im (.sl 4 ((addE p e).base.routers.map Router.iv)), .int .i64 (addE p e).hz, .row 5], .int .i64 0]) (by simp) ?_
      simp -implicitDefEqProofs
    · refine CallO.mk [] [3, 4] (takeB0_spec p e hsq h0) (by simp) rfl (by simp) (by simp) (by simp) ?_
      simp -implicitDefEqProofs
      refine ⟨fun h2 => ?_, fun h2 => ?_⟩
      · have hx : takeP p e = (past0, 2) := by unfold takeP; rw [if_pos (.inr h2)]
        rw [hx]
        refine EndZ.ret [] (.tup [.agg [.im (.sc (.slice none 0 0)), .im (.sc (.slice none 0 0)), .int .i64 0, .im (.sc (.slice none 0 0))], .int .i64 2]) (by simp [h2]) ?_
        simp -implicitDefEqProofs [past0]
      · have hx : takeP p e = (p, takeW p e) := by unfold takeP; rw [if_neg (by simp [hok, h2]), if_neg h0]
        rw [hx]
        refine EndZ.ret [4] (.tup [.agg [.im (.sl 4 (p.base.seats.map Seat.iv)), .im (.sl 4 (p.base.routers.map Router.iv)), .int .i64 p.hz, .row 4], .int .i64 (takeW p e)]) (by simp) ?_
        simp -implicitDefEqProofs
  | false =>
    have hx : takeP p e = (past0, 2) := by unfold takeP; rw [if_pos (.inl hok)]
    first | refine CallK.same (openN_spec p hew hok) rfl rfl ?_ | refine CallQ.same (openN_spec p hew hok) rfl rfl ?_ | refine CallQG.same _ (openN_spec p hew hok) rfl ?_ | refine CallG.same _ (openN_spec p hew hok) rfl ?_ | refine CallK.pv (openN_spec p hew hok) rfl rfl ?_
    simp -implicitDefEqProofs
    rw [hx]
    refine EndZ.ret [] (.tup [.agg [.im (.sc (.slice none 0 0)), .im (.sc (.slice none 0 0)), .int .i64 0, .im (.sc (.slice none 0 0))], .int .i64 2]) (by simp) ?_
    simp [past0]
end Go.Am

