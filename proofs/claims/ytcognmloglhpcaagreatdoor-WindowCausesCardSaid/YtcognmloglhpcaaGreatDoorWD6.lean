import Derived.Test.YtcognmloglhpcaaGreatDoorWD3
import Derived.Test.YtcognmloglhpcaaGreatDoorWD5
set_option linter.unusedVariables false
set_option linter.unusedSimpArgs false
set_option linter.unusedSectionVars false
namespace Go.Am
open Go.Proofs
structure Addr4 where
 hi:Int
 lo:Int
@[simp] def Addr4.av (a:Addr4):AV:=.agg [.int .u64 a.hi,.int .u64 a.lo]
structure Pfx where
 six:Bool
 addr:Addr4
 len:Int
@[simp] def Pfx.av (p:Pfx):AV:=.agg [.bool p.six,.int .u64 p.addr.hi,.int .u64 p.addr.lo,.int .i64 p.len]
def wide (six:Bool):Int:=if six then 128 else 32
theorem wide_spec (six:Bool):FSpec Tryz.prog 239 [.bool six] [] (.int .i64 (wide six)) []:=by
 refine FSpec.of_flat (q:=[]) Tryz.func239 (by kernel_rfl) rfl Tryz.ntmps239 Tryz.results239 hP (by kernel_rfl) (by simp) (by first|rfl|simp) ?_
 simp[wide]
def rightA (six:Bool) (a:Addr4):Bool:=six||(a.hi==0&&a.lo.fdiv (2 ^ 32)==0)
theorem rightA_spec (six:Bool) (a:Addr4):FSpec Tryz.prog 56 [.bool six,a.av] [] (.bool (rightA six a)) []:=by
 refine FSpec.of_flat (q:=[]) Tryz.func56 (by kernel_rfl) rfl Tryz.ntmps56 Tryz.results56 hP (by kernel_rfl) (by simp) (by first|rfl|simp) ?_
 simp[rightA,IntKind.bits]
 intro h;by_cases h0:a.hi=0<;>simp[h,h0]
def orInt:List Int→Int
 |[]=>0
 |x::l=>if x≠0 then x else orInt l
theorem orInt_spec (l:List Int):FSpec Tryz.prog 172 [.im (.sl 1 (l.map fun x=>[.int .i64 x]))] [] (.int .i64 (orInt l)) []:=by
 refine FSpec.bd (enters_of Tryz.func172 (by kernel_rfl) rfl) fun hbd=>?_
 have hl:l.length≤9223372036854775807:=by simpa [maxLen]using hbd
 refine FSpec.of_flat (q:=[]) Tryz.func172 (by kernel_rfl) rfl Tryz.ntmps172 Tryz.results172 hP (by kernel_rfl) (by simp) (by first|rfl|simp) ?_
 simp
 refine LoopK.plain (fun k:Nat=>[(2,.int .i64 0),(3,.int .i64 0),(6,.im (.sl 1 (l.map fun x=>[.int .i64 x]))),(7,.int .i64 l.length),(8,.int .i64 k)]) (fun k=>k≤l.length∧orInt (l.drop k)=orInt l)
  (fun k=>l.length-k) 0 (by simp) (by simp) ?_
 rintro k ⟨hk,hR⟩
 by_cases hlt:k<l.length
 ·have hs:l[k]? =some l[k]:=List.getElem?_eq_getElem hlt
  have hw:IntKind.i64.wrap (k+1)=(k+1:Nat):=wrap64 (by omega) (by omega)
  rw[List.drop_eq_getElem_cons hlt,orInt]at hR
  simp[hlt,hs,hw]
  refine⟨fun h=>by simpa [h]using hR,fun h=>?_⟩
  refine Again.plain (k+1) ⟨hlt,by simpa [h]using hR⟩ (by omega) (by simp)
 ·simp at hlt
  have:k=l.length:=by omega
  subst this
  simp[orInt]at hR
  simp[←hR]
def cmpI (a b:Int):Int:=if a<b then -1 else if a>b then 1 else 0
theorem isNaNI_spec (a:Int):FSpec Tryz.prog 332 [.int .i64 a] [] (.bool false) []:=by
 refine FSpec.of_flat (q:=[]) Tryz.func332 (by kernel_rfl) rfl Tryz.ntmps332 Tryz.results332 hP (by kernel_rfl) (by simp) (by first|rfl|simp) ?_
 simp
theorem isNaNU_spec (a:Int):FSpec Tryz.prog 233 [.int .u64 a] [] (.bool false) []:=by
 refine FSpec.of_flat (q:=[]) Tryz.func233 (by kernel_rfl) rfl Tryz.ntmps233 Tryz.results233 hP (by kernel_rfl) (by simp) (by first|rfl|simp) ?_
 simp
theorem cmpI_spec (a b:Int):FSpec Tryz.prog 323 [.int .i64 a,.int .i64 b] [] (.int .i64 (cmpI a b)) []:=by
 refine FSpec.of_flat (q:=[]) Tryz.func323 (by kernel_rfl) rfl Tryz.ntmps323 Tryz.results323 hP (by kernel_rfl) (by simp) (by first|rfl|simp) ?_
 simp
 refine CallK.same (isNaNI_spec _) rfl rfl ?_
 simp
 refine CallK.same (isNaNI_spec _) rfl rfl ?_
 simp[cmpI]
 refine⟨fun h h'=>by omega,fun h=>⟨fun h'=>?_,fun h'=>?_⟩⟩
 all_goals (repeat' split)<;>omega
theorem cmpU_spec (a b:Int):FSpec Tryz.prog 173 [.int .u64 a,.int .u64 b] [] (.int .i64 (cmpI a b)) []:=by
 refine FSpec.of_flat (q:=[]) Tryz.func173 (by kernel_rfl) rfl Tryz.ntmps173 Tryz.results173 hP (by kernel_rfl) (by simp) (by first|rfl|simp) ?_
 simp
 refine CallK.same (isNaNU_spec _) rfl rfl ?_
 simp
 refine CallK.same (isNaNU_spec _) rfl rfl ?_
 simp[cmpI]
 refine⟨fun h h'=>by omega,fun h=>⟨fun h'=>?_,fun h'=>?_⟩⟩
 all_goals (repeat' split)<;>omega
def cmpA (a b:Addr4):Int:=orInt [cmpI a.hi b.hi,cmpI a.lo b.lo]
theorem cmpA_spec (a b:Addr4):FSpec Tryz.prog 96 [a.av,b.av] [] (.int .i64 (cmpA a b)) []:=by
 refine FSpec.of_flat (q:=[(1,.n 9)]) Tryz.func96 (by kernel_rfl) rfl Tryz.ntmps96 Tryz.results96 hP (by kernel_rfl) (by simp) (by first|rfl|simp) ?_
 simp
 refine CallQ.same (cmpU_spec _ _) rfl rfl ?_
 simp
 refine CallK.same (cmpU_spec _ _) rfl rfl ?_
 simp
 refine CallK.fz [2] (orInt_spec [cmpI a.hi b.hi,cmpI a.lo b.lo]) (by simp) (by simp) rfl ?_
 simp[cmpA]
end Go.Am
namespace Go.Am
open Go.Proofs
def below (n:Int):Addr4:=
 if n≥128 then⟨18446744073709551615,18446744073709551615⟩
 else if n≥64 then⟨IntKind.u64.wrap (IntKind.u64.wrap (2 ^ min (n-64).toNat 64)-1),18446744073709551615⟩
 else⟨0,IntKind.u64.wrap (IntKind.u64.wrap (2 ^ min n.toNat 64)-1)⟩
theorem below_spec (n:Int) (h0:0≤n):FSpec Tryz.prog 238 [.int .i64 n] [] (below n).av []:=by
 refine FSpec.of_flat (q:=[]) Tryz.func238 (by kernel_rfl) rfl Tryz.ntmps238 Tryz.results238 hP (by kernel_rfl) (by simp) (by first|rfl|simp) ?_
 simp[below]
 refine⟨fun h=>by simp[h],fun h=>⟨fun h'=>?_,fun h'=>?_⟩⟩
 ·have hw:IntKind.i64.wrap (n-64)=n-64:=wrap64 (by omega) (by omega)
  simp[show ¬128≤n by omega,h',hw]
 ·simp[show ¬128≤n by omega,show ¬64≤n by omega,h0]
def host (p:Pfx):Addr4:=below (wide p.six-p.len)
theorem wide_le (b:Bool):0≤wide b∧wide b≤128:=by cases b<;>decide
theorem host_spec (p:Pfx) (h0:p.len≤wide p.six) (h1:0≤p.len):FSpec Tryz.prog 236 [p.av] [] (host p).av []:=by
 have hw:IntKind.i64.wrap (wide p.six-p.len)=wide p.six-p.len:=wrap64 (by have:=wide_le p.six;omega) (by have:=wide_le p.six;omega)
 refine FSpec.of_flat (q:=[(1,.n 5)]) Tryz.func236 (by kernel_rfl) rfl Tryz.ntmps236 Tryz.results236 hP (by kernel_rfl) (by simp) (by first|rfl|simp) ?_
 simp
 refine CallQ.same (wide_spec _) rfl rfl ?_
 simp[hw]
 refine CallK.same (below_spec _ (by omega)) rfl rfl ?_
 simp[host]
abbrev and64:=andI .u64
abbrev or64:=orI .u64
def checkP (p:Pfx):Int:=
 if p.len<0||wide p.six<p.len||!rightA p.six p.addr then 2
 else if or64 (and64 p.addr.hi (host p).hi) (and64 p.addr.lo (host p).lo)≠0 then 2 else 0
theorem checkP_spec (p:Pfx):FSpec Tryz.prog 234 [p.av] [] (.int .i64 (checkP p)) []:=by
 refine FSpec.of_flat (q:=[(1,.n 16)]) Tryz.func234 (by kernel_rfl) rfl Tryz.ntmps234 Tryz.results234 hP (by kernel_rfl) (by simp) (by first|rfl|simp) ?_
 simp
 refine CallQG.same _ (wide_spec _) rfl ?_
 simp
 refine CallG.same _ (rightA_spec p.six p.addr) rfl ?_
 simp
 refine⟨?_,fun h0 h1 h2=>?_⟩
 ·rintro((h|h)|h)<;>simp[checkP,h]
 ·refine CallK.same (host_spec p h1 h0) rfl rfl ?_
  simp[checkP,h2,show ¬p.len<0 by omega,show ¬wide p.six<p.len by omega]
end Go.Am
namespace Go.Am
open Go.Proofs
structure Seat where
 router:Int
 seq:Int
 time:Int
 up:Bool
@[simp] def Seat.iv (s:Seat):List IV:=[.sc (.int .i64 s.router),.sc (.int .u64 s.seq),.sc (.int .i64 s.time),.sc (.bool s.up)]
@[simp] def Seat.av (s:Seat):AV:=.agg [.int .i64 s.router,.int .u64 s.seq,.int .i64 s.time,.bool s.up]
def rightS (s:Seat):Bool:=decide (0≤s.router)&&decide (s.router≤1048576)&&decide (1≤s.seq)&&decide (s.seq≤1099511627776)&&decide (0≤s.time)&&decide (s.time≤1099511627776)
theorem rightS_spec (s:Seat):FSpec Tryz.prog 292 [s.av] [] (.bool (rightS s)) []:=by
 refine FSpec.of_flat (q:=[]) Tryz.func292 (by kernel_rfl) rfl Tryz.ntmps292 Tryz.results292 hP (by kernel_rfl) (by simp) (by first|rfl|simp) ?_
 simp[rightS]
def checkSL:List Seat→Int→Int
 |[],_=>0
 |s::t,ah=>if !rightS s||decide (s.router≤ah)then 2 else checkSL t s.router
def checkS (l:List Seat):Int:=if l.length>64 then 2 else checkSL l (-1)
theorem checkS_spec (l:List Seat):FSpec Tryz.prog 225 [.im (.sl 4 (l.map Seat.iv))] [] (.int .i64 (checkS l)) []:=by
 refine FSpec.of_flat (q:=[]) Tryz.func225 (by kernel_rfl) rfl Tryz.ntmps225 Tryz.results225 hP (by kernel_rfl) (by simp) (by first|rfl|simp) ?_
 simp[checkS]
 refine⟨fun h h'=>by omega,fun hle=>?_⟩
 refine LoopK.plain (fun g:Nat×Int=>[(3,.int .i64 g.2),(9,.im (.sl 4 (l.map Seat.iv))),(10,.int .i64 l.length),(11,.int .i64 g.1)]) (fun g=>g.1≤l.length∧checkSL (l.drop g.1) g.2=checkSL l (-1))
  (fun g=>l.length-g.1) (0,-1) (by simp) (by simp) ?_
 rintro⟨k,ah⟩ ⟨hk,hR⟩
 simp only at hk hR
 by_cases hlt:k<l.length
 ·have hs:l[k]? =some l[k]:=List.getElem?_eq_getElem hlt
  have hw:IntKind.i64.wrap (k+1)=(k+1:Nat):=wrap64 (by omega) (by omega)
  rw[List.drop_eq_getElem_cons hlt,checkSL]at hR
  simp[hlt,hs,hw]
  refine CallK.same (rightS_spec l[k]) rfl rfl ?_
  simp[hw]
  refine⟨fun h _=>?_,fun h h'=>?_⟩
  ·rw[←hR,if_pos (by simpa using h)]
  ·refine Again.plain (k+1,l[k].router) ⟨hlt,?_⟩ (by simp only;omega) (by simp)
   rw[←hR,if_neg (by simp[h];omega)]
 ·simp at hlt
  have:k=l.length:=by omega
  subst this
  simp[checkSL]at hR
  simp[←hR]
  omega
end Go.Am
namespace Go.Am
open Go.Proofs
structure Link where
 iface:Int
 peer:Int
@[simp] def Link.iv (s:Link):List IV:=[.sc (.int .i64 s.iface),.sc (.int .i64 s.peer)]
@[simp] def Link.av (s:Link):AV:=.agg [.int .i64 s.iface,.int .i64 s.peer]
def rightL (s:Link):Bool:=decide (0≤s.iface)&&decide (s.iface≤65536)&&decide (0≤s.peer)&&decide (s.peer≤1048576)
theorem rightL_spec (s:Link):FSpec Tryz.prog 364 [s.av] [] (.bool (rightL s)) []:=by
 refine FSpec.of_flat (q:=[]) Tryz.func364 (by kernel_rfl) rfl Tryz.ntmps364 Tryz.results364 hP (by kernel_rfl) (by simp) (by first|rfl|simp) ?_
 simp[rightL]
theorem rightLr_spec (s:Link):FSpec Tryz.prog 335 [s.av] [] (.bool (rightL s)) []:=by
 refine FSpec.of_flat (q:=[]) Tryz.func335 (by kernel_rfl) rfl Tryz.ntmps335 Tryz.results335 hP (by kernel_rfl) (by simp) (by first|rfl|simp) ?_
 simp[rightL]
def idOk (n:Int):Bool:=decide (0≤n)&&decide (n≤1048576)
theorem idOk_spec (n:Int):FSpec Tryz.prog 293 [.int .i64 n] [] (.bool (idOk n)) []:=by
 refine FSpec.of_flat (q:=[]) Tryz.func293 (by kernel_rfl) rfl Tryz.ntmps293 Tryz.results293 hP (by kernel_rfl) (by simp) (by first|rfl|simp) ?_
 simp[idOk]
def checkLL:List Link→Int→Int
 |[],_=>0
 |s::t,ah=>if !rightL s||decide (s.iface≤ah)then 2 else checkLL t s.iface
def checkL (l:List Link):Int:=if l.length>32 then 2 else checkLL l (-1)
theorem checkL_spec (l:List Link):FSpec Tryz.prog 295 [.im (.sl 2 (l.map Link.iv))] [] (.int .i64 (checkL l)) []:=by
 refine FSpec.of_flat (q:=[]) Tryz.func295 (by kernel_rfl) rfl Tryz.ntmps295 Tryz.results295 hP (by kernel_rfl) (by simp) (by first|rfl|simp) ?_
 simp[checkL]
 refine⟨fun h h'=>by omega,fun hle=>?_⟩
 refine LoopK.plain (fun g:Nat×Int=>[(3,.int .i64 g.2),(9,.im (.sl 2 (l.map Link.iv))),(10,.int .i64 l.length),(11,.int .i64 g.1)]) (fun g=>g.1≤l.length∧checkLL (l.drop g.1) g.2=checkLL l (-1))
  (fun g=>l.length-g.1) (0,-1) (by simp) (by simp) ?_
 rintro⟨k,ah⟩ ⟨hk,hR⟩
 simp only at hk hR
 by_cases hlt:k<l.length
 ·have hs:l[k]? =some l[k]:=List.getElem?_eq_getElem hlt
  have hw:IntKind.i64.wrap (k+1)=(k+1:Nat):=wrap64 (by omega) (by omega)
  rw[List.drop_eq_getElem_cons hlt,checkLL]at hR
  simp[hlt,hs,hw]
  refine CallK.same (rightL_spec l[k]) rfl rfl ?_
  simp[hw]
  refine⟨fun h _=>?_,fun h h'=>?_⟩
  ·rw[←hR,if_pos (by simpa using h)]
  ·refine Again.plain (k+1,l[k].iface) ⟨hlt,?_⟩ (by simp only;omega) (by simp)
   rw[←hR,if_neg (by simp[h];omega)]
 ·simp at hlt
  have:k=l.length:=by omega
  subst this
  simp[checkLL]at hR
  simp[←hR]
  omega
end Go.Am
namespace Go.Am
open Go.Proofs
def prevL (l:List Link) (k:Nat):Int:=if k=0 then -1 else((l[k-1]?).map Link.iface).getD 0
theorem checkLr_spec (l:List Link):FSpec Tryz.prog 268 [.im (.sl 2 (l.map Link.iv))] [] (.int .i64 (checkL l)) []:=by
 refine FSpec.of_flat (q:=[(6,.n 15)]) Tryz.func268 (by kernel_rfl) rfl Tryz.ntmps268 Tryz.results268 hP (by kernel_rfl) (by simp) (by first|rfl|simp) ?_
 simp[checkL]
 refine⟨fun h h'=>by omega,fun hle=>?_⟩
 refine LoopK.plain (fun k:Nat=>[(0,.im (.sl 2 (l.map Link.iv))),(8,.im (.sl 2 (l.map Link.iv))),(9,.int .i64 l.length),(10,.int .i64 k)]) (fun k=>k≤l.length∧checkLL (l.drop k) (prevL l k)=checkLL l (-1))
  (fun k=>l.length-k) 0 (by simp[prevL]) (by simp) ?_
 rintro k ⟨hk,hR⟩
 by_cases hlt:k<l.length
 ·have hs:l[k]? =some l[k]:=List.getElem?_eq_getElem hlt
  have hw:IntKind.i64.wrap (k+1)=(k+1:Nat):=wrap64 (by omega) (by omega)
  rw[List.drop_eq_getElem_cons hlt,checkLL]at hR
  simp[hlt,hs,hw]
  refine CallQ.same (rightLr_spec l[k]) rfl rfl ?_
  have hw1:IntKind.i64.wrap (k-1)=(k:Int)-1:=wrap64 (by omega) (by omega)
  obtain⟨y,hy,hp⟩:∃y,l[k-1]? =some y∧(0<k→y.iface=prevL l k):=by
   refine⟨l[k-1]'(by omega),List.getElem?_eq_getElem (by omega),fun h=>?_⟩
   simp[prevL,show k≠0 by omega,List.getElem?_eq_getElem (show k-1<l.length by omega)]
  simp[hw,hw1,hy]
  have hr0:rightL l[k]=true→0≤l[k].iface:=by intro h;simp[rightL]at h;omega
  have hp0:k=0→prevL l k= -1:=by intro h;simp[prevL,h]
  refine⟨fun _ h=>⟨by omega,by omega⟩,fun h=>by simp[h,impB],fun h _=>?_,fun h h'=>?_⟩
  ·rw[←hR,if_pos ?_]
   rcases h with h|⟨h0,h1⟩
   ·simp[h]
   ·have:=hp h0
    simp;right;omega
  ·refine Again.plain (k+1) ⟨hlt,?_⟩ (by omega) (by simp)
   rw[←hR,if_neg ?_]
   ·simp[prevL,hs]
   ·have:=hr0 h
    simp[h]
    rcases Nat.eq_zero_or_pos k with e|e
    ·have:=hp0 e;omega
    ·have:=hp e;have:=h' e;omega
 ·simp at hlt
  have:k=l.length:=by omega
  subst this
  simp[checkLL]at hR
  simp[←hR]
  omega
end Go.Am
namespace Go.Am
open Go.Proofs
def prevS (l:List Seat) (k:Nat):Int:=if k=0 then -1 else((l[k-1]?).map Seat.router).getD 0
set_option maxRecDepth 4000 in
theorem checkSr_spec (l:List Seat):FSpec Tryz.prog 205 [.im (.sl 4 (l.map Seat.iv))] [] (.int .i64 (checkS l)) []:=by
 refine FSpec.of_flat (q:=[(8,.n 11)]) Tryz.func205 (by kernel_rfl) rfl Tryz.ntmps205 Tryz.results205 hP (by kernel_rfl) (by simp) (by first|rfl|simp) ?_
 simp[checkS]
 refine⟨fun h h'=>by omega,fun hle=>?_⟩
 refine LoopK.plain (fun k:Nat=>[(0,.im (.sl 4 (l.map Seat.iv))),(8,.im (.sl 4 (l.map Seat.iv))),(9,.int .i64 l.length),(10,.int .i64 k)]) (fun k=>k≤l.length∧checkSL (l.drop k) (prevS l k)=checkSL l (-1))
  (fun k=>l.length-k) 0 (by simp[prevS]) (by simp) ?_
 rintro k ⟨hk,hR⟩
 by_cases hlt:k<l.length
 ·have hs:l[k]? =some l[k]:=List.getElem?_eq_getElem hlt
  have hw:IntKind.i64.wrap (k+1)=(k+1:Nat):=wrap64 (by omega) (by omega)
  rw[List.drop_eq_getElem_cons hlt,checkSL]at hR
  have hw1:IntKind.i64.wrap (k-1)=(k:Int)-1:=wrap64 (by omega) (by omega)
  obtain⟨y,hy,hp⟩:∃y,l[k-1]? =some y∧(0<k→y.router=prevS l k):=by
   refine⟨l[k-1]'(by omega),List.getElem?_eq_getElem (by omega),fun h=>?_⟩
   simp[prevS,show k≠0 by omega,List.getElem?_eq_getElem (show k-1<l.length by omega)]
  simp[hlt,hs,hw,hw1,hy]
  have hp0:k=0→prevS l k= -1:=by intro h;simp[prevS,h]
  refine⟨fun h _=>?_,fun a1 a2 a3 a4 a5 a6=>?_⟩
  ·rw[←hR,if_pos ?_]
   have:rightS l[k]=false:=by
    simp only[rightS,Bool.and_eq_false_iff,decide_eq_false_iff_not]
    omega
   simp[this]
  ·have hr:rightS l[k]=true:=by simp[rightS];omega
   refine⟨fun h=>⟨by omega,by omega⟩,fun h0 h1 _=>?_,fun h'=>?_⟩
   ·rw[←hR,if_pos ?_]
    have:=hp h0
    simp;right;omega
   ·refine Again.plain (k+1) ⟨hlt,?_⟩ (by omega) (by simp)
    rw[←hR,if_neg ?_]
    ·simp[prevS,hs]
    ·simp[hr]
     rcases Nat.eq_zero_or_pos k with e|e
     ·have:=hp0 e;omega
     ·have:=hp e;have:=h' e;omega
 ·simp at hlt
  have:k=l.length:=by omega
  subst this
  simp[checkSL]at hR
  simp[←hR]
  omega
end Go.Am
namespace Go.Am
open Go.Proofs
structure Act where
 kind:Int
 iface:Int
structure Route where
 pfx:Pfx
 act:Act
@[simp] def Route.iv (r:Route):List IV:=[.sc (.bool r.pfx.six),.sc (.int .u64 r.pfx.addr.hi),.sc (.int .u64 r.pfx.addr.lo),.sc (.int .i64 r.pfx.len),.sc (.int .u8 r.act.kind),.sc (.int .i64 r.act.iface)]
@[simp] def Route.av (r:Route):AV:=.agg (r.iv.map .im)
structure Router where
 id:Int
 up:Bool
 routes:List Route
 links:List Link
@[simp] def Router.iv (r:Router):List IV:=[.sc (.int .i64 r.id),.sc (.bool r.up),.sl 6 (r.routes.map Route.iv),.sl 2 (r.links.map Link.iv)]
def many:List Router→Int→Int
 |[],n=>n
 |r::l,n=>many l (IntKind.i64.wrap (n+IntKind.i64.wrap (r.routes.length+r.links.length)))
theorem total_spec (l:List Router):FSpec Tryz.prog 224 [.im (.sl 4 (l.map Router.iv))] [] (.int .i64 (many l 0)) []:=by
 refine FSpec.bd (enters_of Tryz.func224 (by kernel_rfl) rfl) fun hbd=>?_
 have hl:l.length≤9223372036854775807:=by simp[maxLen]at hbd;exact hbd.1
 refine FSpec.of_flat (q:=[]) Tryz.func224 (by kernel_rfl) rfl Tryz.ntmps224 Tryz.results224 hP (by kernel_rfl) (by simp) (by first|rfl|simp) ?_
 simp
 refine LoopK.plain (fun g:Nat×Int=>[(3,.int .i64 g.2),(6,.im (.sl 4 (l.map Router.iv))),(7,.int .i64 l.length),(8,.int .i64 g.1)]) (fun g=>g.1≤l.length∧many (l.drop g.1) g.2=many l 0)
  (fun g=>l.length-g.1) (0,0) (by simp) (by simp) ?_
 rintro⟨k,n⟩ ⟨hk,hR⟩
 simp only at hk hR
 by_cases hlt:k<l.length
 ·have hs:l[k]? =some l[k]:=List.getElem?_eq_getElem hlt
  have hw:IntKind.i64.wrap (k+1)=(k+1:Nat):=wrap64 (by omega) (by omega)
  rw[List.drop_eq_getElem_cons hlt,many]at hR
  simp[hlt,hs,hw]
  exact Again.plain (k+1,IntKind.i64.wrap (n+IntKind.i64.wrap (l[k].routes.length+l[k].links.length))) ⟨hlt,hR⟩ (by simp only;omega) (by simp)
 ·simp at hlt
  have:k=l.length:=by omega
  subst this
  simp[many]at hR
  simp[←hR]
theorem manyr_spec (l:List Router):FSpec Tryz.prog 207 [.im (.sl 4 (l.map Router.iv))] [] (.int .i64 (many l 0)) []:=by
 refine FSpec.bd (enters_of Tryz.func207 (by kernel_rfl) rfl) fun hbd=>?_
 have hl:l.length≤9223372036854775807:=by simp[maxLen]at hbd;exact hbd.1
 refine FSpec.of_flat (q:=[]) Tryz.func207 (by kernel_rfl) rfl Tryz.ntmps207 Tryz.results207 hP (by kernel_rfl) (by simp) (by first|rfl|simp) ?_
 simp
 refine LoopK.plain (fun g:Nat×Int=>[(3,.int .i64 g.2),(6,.im (.sl 4 (l.map Router.iv))),(7,.int .i64 l.length),(8,.int .i64 g.1)]) (fun g=>g.1≤l.length∧many (l.drop g.1) g.2=many l 0)
  (fun g=>l.length-g.1) (0,0) (by simp) (by simp) ?_
 rintro⟨k,n⟩ ⟨hk,hR⟩
 simp only at hk hR
 by_cases hlt:k<l.length
 ·have hs:l[k]? =some l[k]:=List.getElem?_eq_getElem hlt
  have hw:IntKind.i64.wrap (k+1)=(k+1:Nat):=wrap64 (by omega) (by omega)
  rw[List.drop_eq_getElem_cons hlt,many]at hR
  simp[hlt,hs,hw]
  exact Again.plain (k+1,IntKind.i64.wrap (n+IntKind.i64.wrap (l[k].routes.length+l[k].links.length))) ⟨hlt,hR⟩ (by simp only;omega) (by simp)
 ·simp at hlt
  have:k=l.length:=by omega
  subst this
  simp[many]at hR
  simp[←hR]
end Go.Am
namespace Go.Am
open Go.Proofs
def kindP (p:Pfx):Int:=if p.six then 1 else 0
theorem kindP_spec (p:Pfx):FSpec Tryz.prog 408 [p.av] [] (.int .i64 (kindP p)) []:=by
 refine FSpec.of_flat (q:=[]) Tryz.func408 (by kernel_rfl) rfl Tryz.ntmps408 Tryz.results408 hP (by kernel_rfl) (by simp) (by first|rfl|simp) ?_
 simp[kindP]
theorem wider_spec (six:Bool):FSpec Tryz.prog 243 [.bool six] [] (.int .i64 (wide six)) []:=by
 refine FSpec.of_flat (q:=[]) Tryz.func243 (by kernel_rfl) rfl Tryz.ntmps243 Tryz.results243 hP (by kernel_rfl) (by simp) (by first|rfl|simp) ?_
 simp[wide]
theorem cmpAr_spec (a b:Addr4):FSpec Tryz.prog 242 [a.av,b.av] [] (.int .i64 (cmpA a b)) []:=by
 refine FSpec.of_flat (q:=[]) Tryz.func242 (by kernel_rfl) rfl Tryz.ntmps242 Tryz.results242 hP (by kernel_rfl) (by simp) (by first|rfl|simp) ?_
 simp[cmpA,orInt,cmpI]
 refine⟨fun h=>by simp[impB];omega,fun h=>?_,fun h1 h2=>⟨fun h3 h4=>?_,fun h3=>?_⟩⟩
 all_goals repeat' split
 all_goals omega
def cmpP (p q:Pfx):Int:=orInt [cmpI (kindP p) (kindP q),cmpA p.addr q.addr,cmpI p.len q.len]
theorem cmpP_spec (p q:Pfx):FSpec Tryz.prog 363 [p.av,q.av] [] (.int .i64 (cmpP p q)) []:=by
 refine FSpec.of_flat (q:=[(1,.n 14)]) Tryz.func363 (by kernel_rfl) rfl Tryz.ntmps363 Tryz.results363 hP (by kernel_rfl) (by simp) (by first|rfl|simp) ?_
 simp
 refine CallQ.same (kindP_spec p) rfl rfl ?_
 simp
 refine CallQ.same (kindP_spec q) rfl rfl ?_
 simp
 refine CallQ.same (cmpI_spec _ _) rfl rfl ?_
 simp
 refine CallQ.same (cmpA_spec p.addr q.addr) rfl rfl ?_
 simp
 refine CallK.same (cmpI_spec _ _) rfl rfl ?_
 simp
 refine CallK.fz [2] (orInt_spec [cmpI (kindP p) (kindP q),cmpA p.addr q.addr,cmpI p.len q.len]) (by simp) (by simp) rfl ?_
 simp[cmpP]
end Go.Am
namespace Go.Am
open Go.Proofs
theorem cmpI_vals (a b:Int):cmpI a b= -1∧a<b∨cmpI a b=0∧a=b∨cmpI a b=1∧b<a:=by unfold cmpI;split<;>(try split)<;>omega
theorem cmpP_lt (p q:Pfx):(cmpP p q<0)=(if p.six≠q.six then q.six=true else cmpA p.addr q.addr<0∨cmpA p.addr q.addr=0∧p.len<q.len):=by
 have h1:=cmpI_vals (kindP p) (kindP q)
 have h3:=cmpI_vals p.len q.len
 simp only[cmpP,orInt]
 generalize cmpA p.addr q.addr=c at*
 generalize cmpI p.len q.len=d at*
 generalize he:cmpI (kindP p) (kindP q)=e at*
 revert h1
 unfold kindP
 cases p.six<;>cases q.six<;>simp<;>intro h1<;>(repeat' split)<;>omega
theorem lessP_spec (p q:Pfx):FSpec Tryz.prog 334 [p.av,q.av] [] (.bool (decide (cmpP p q<0))) []:=by
 refine FSpec.of_flat (q:=[]) Tryz.func334 (by kernel_rfl) rfl Tryz.ntmps334 Tryz.results334 hP (by kernel_rfl) (by simp) (by first|rfl|simp) ?_
 simp
 refine⟨fun h=>by simp[cmpP_lt,h],fun h=>?_⟩
 refine CallK.same (cmpAr_spec p.addr q.addr) rfl rfl ?_
 simp[cmpP_lt,h]
 exact⟨fun h=>by simp[impB];omega,by congr 2⟩
end Go.Am
namespace Go.Am
open Go.Proofs
@[simp] def Act.av (a:Act):AV:=.agg [.int .u8 a.kind,.int .i64 a.iface]
def ifaceOk (n:Int):Bool:=decide (0≤n)&&decide (n≤65536)
theorem ifaceOk_spec (n:Int):FSpec Tryz.prog 396 [.int .i64 n] [] (.bool (ifaceOk n)) []:=by
 refine FSpec.of_flat (q:=[]) Tryz.func396 (by kernel_rfl) rfl Tryz.ntmps396 Tryz.results396 hP (by kernel_rfl) (by simp) (by first|rfl|simp) ?_
 simp[ifaceOk]
def actOk (a:Act):Bool:=if a.kind=1 then ifaceOk a.iface else(a.kind==2||a.kind==3)&&a.iface==0
theorem actOk_spec (a:Act):FSpec Tryz.prog 395 [a.av] [] (.bool (actOk a)) []:=by
 refine FSpec.of_flat (q:=[]) Tryz.func395 (by kernel_rfl) rfl Tryz.ntmps395 Tryz.results395 hP (by kernel_rfl) (by simp) (by first|rfl|simp) ?_
 simp
 refine⟨fun h=>?_,fun h=>?_⟩
 ·refine CallK.same (ifaceOk_spec _) rfl rfl ?_
  simp[actOk,h]
 ·simp[actOk,h]
  omega
theorem actOkr_spec (a:Act):FSpec Tryz.prog 385 [a.av] [] (.bool (actOk a)) []:=by
 refine FSpec.of_flat (q:=[]) Tryz.func385 (by kernel_rfl) rfl Tryz.ntmps385 Tryz.results385 hP (by kernel_rfl) (by simp) (by first|rfl|simp) ?_
 simp[actOk,ifaceOk]
 exact⟨fun h h'=>absurd h h',fun h h'=>absurd h' h⟩
end Go.Am
namespace Go.Am
open Go.Proofs
def Addr4.wf (a:Addr4):Prop:=0≤a.hi∧a.hi<18446744073709551616∧0≤a.lo∧a.lo<18446744073709551616
def Addr4.num (a:Addr4):Nat:=a.hi.toNat*18446744073709551616+a.lo.toNat
def wideN (six:Bool):Nat:=if six then 128 else 32
def loK (V k:Nat):Int:=((V / 2 ^ k % 18446744073709551616:Nat):Int)
def hiK (V k:Nat):Int:=((V / 2 ^ k / 18446744073709551616:Nat):Int)
def bitAt (W V j:Nat):Int:=((V / 2 ^ (W-1-j) % 2:Nat):Int)
def bitsL (W V k:Nat):List Int:=(List.range W).map fun j=>if W≤j+k then bitAt W V j else 0
def bitsA (six:Bool) (a:Addr4):List Int:=bitsL (wideN six) a.num (wideN six)
def rowI (l:List Int):List (List IV):=l.map fun x=>[.sc (.int .i64 x)]
theorem bitsL_step (W V k:Nat) (h:k<W):(bitsL W V k).set (W-1-k) (bitAt W V (W-1-k))=bitsL W V (k+1):=by
 apply List.ext_getElem?
 intro j
 unfold bitsL
 by_cases hj:j<W
 ·rw[List.getElem?_set]
  simp only[List.length_map,List.length_range,List.getElem?_map,List.getElem?_range hj,Option.map_some]
  by_cases e:W-1-k=j
  ·subst e
   rw[if_pos rfl,if_pos (by omega),if_pos (by omega)]
  ·rw[if_neg e]
   by_cases h2:W≤j+k
   ·rw[if_pos h2,if_pos (by omega)]
   ·rw[if_neg h2,if_neg (by omega)]
 ·rw[List.getElem?_eq_none (by simp;omega),List.getElem?_eq_none (by simp;omega)]
theorem rowI_modify (l:List Int) (i:Nat) (x:Int) (f:List IV→List IV) (hf:∀y,f [y]=[.sc (.int .i64 x)]):(rowI l).modify i f=rowI (l.set i x):=by
 apply List.ext_getElem?
 intro j
 unfold rowI
 rw[List.getElem?_modify,List.getElem?_map,List.getElem?_map,List.getElem?_set]
 by_cases e:i=j
 ·subst e
  cases h:l[i]? with
  |none=>simp;have:=List.getElem?_eq_none_iff.1 h;omega
  |some y=>simp[hf];have:=(List.getElem?_eq_some_iff.1 h).1;omega
 ·simp[e]
@[simp] theorem rowI_length (l:List Int):(rowI l).length=l.length:=by simp[rowI]
@[simp] theorem bitsL_length (W V k:Nat):(bitsL W V k).length=W:=by simp[bitsL]
theorem bit_eq (W V k:Nat) (h:k<W):IntKind.i64.wrap ((loK V k).tmod 2)=bitAt W V (W-1-k):=by
 unfold loK bitAt
 rw[show W-1-(W-1-k)=k by omega]
 generalize V / 2 ^ k=x
 rw[Int.tmod_eq_emod_of_nonneg (by omega)]
 rw[wrap64 (by omega) (by omega)]
 omega
theorem wrapU {x:Int} (h0:0≤x) (h1:x<18446744073709551616):IntKind.u64.wrap x=x:=by
 simp[IntKind.wrap,IntKind.signed,IntKind.bits]
 omega
theorem hi_step (V k:Nat) (hV:V<340282366920938463463374607431768211456):IntKind.u64.wrap ((hiK V k).tdiv 2)=hiK V (k+1):=by
 unfold hiK
 have:V / 2 ^ (k+1)=V / 2 ^ k / 2:=by rw[Nat.pow_succ,Nat.div_div_eq_div_mul]
 rw[this]
 have hx:V / 2 ^ k≤V:=Nat.div_le_self _ _
 generalize V / 2 ^ k=x at*
 rw[Int.tdiv_eq_ediv_of_nonneg (by omega),wrapU (by omega) (by omega)]
 omega
theorem lo_step (V k:Nat) (hV:V<340282366920938463463374607431768211456):IntKind.u64.wrap (IntKind.u64.wrap ((loK V k).tdiv 2)+IntKind.u64.wrap ((hiK V k).tmod 2*9223372036854775808))=loK V (k+1):=by
 unfold hiK loK
 have:V / 2 ^ (k+1)=V / 2 ^ k / 2:=by rw[Nat.pow_succ,Nat.div_div_eq_div_mul]
 rw[this]
 have hx:V / 2 ^ k≤V:=Nat.div_le_self _ _
 generalize V / 2 ^ k=x at*
 rw[Int.tdiv_eq_ediv_of_nonneg (by omega),Int.tmod_eq_emod_of_nonneg (by omega),wrapU (x:=((x % 18446744073709551616:Nat):Int) / 2) (by omega) (by omega),wrapU (x:=((x / 18446744073709551616:Nat):Int) % 2*9223372036854775808) (by omega) (by omega),wrapU (by omega) (by omega)]
 omega
theorem bitsL_zero (W V:Nat):bitsL W V 0=List.replicate W 0:=by
 apply List.ext_getElem?
 intro j
 unfold bitsL
 by_cases hj:j<W
 ·simp[hj];omega
 ·rw[List.getElem?_eq_none (by simp;omega),List.getElem?_eq_none (by simp;omega)]
theorem wide_N (six:Bool):wide six=wideN six:=by cases six<;>rfl
theorem bits_spec (six:Bool) (a:Addr4) (hw:a.wf):FSpec Tryz.prog 181 [.bool six,a.av] [] (.im (.sl 1 (rowI (bitsA six a)))) []:=by
 obtain⟨h1,h2,h3,h4⟩:=hw
 refine FSpec.of_z (q:=[(2,.n 5)]) Tryz.func181 (by kernel_rfl) rfl Tryz.ntmps181 Tryz.results181 hP (by kernel_rfl) (by simp) (by first|rfl|simp) ?_
 simp
 refine CallK.same (wider_spec six) rfl rfl ?_
 simp[wide_N]
 have hW:wideN six≤128:=by cases six<;>decide
 generalize hWW:wideN six=W at*
 refine⟨by unfold maxLen;omega,?_⟩
 have hn:a.num=a.hi.toNat*18446744073709551616+a.lo.toNat:=rfl
 refine LoopK.os (fun k:Nat=>[(5,.row 0),(6,.int .u64 (loK a.num k)),(7,.int .u64 (hiK a.num k)),(8,.int .i64 ((W:Int)-1-k))])
  (fun k=>[.row 3 1 (rowI (bitsL W a.num k))]) (fun k=>k≤W) (fun k=>W-k) 0 [1] (Nat.zero_le _) ?_ ?_
 ·have e1:IntKind.i64.wrap ((W:Int)-1)=W-1:=wrap64 (by omega) (by omega)
  simp[bitsL_zero,e1,rowI,hn,loK,hiK]
  omega
 ·have hV:a.num<340282366920938463463374607431768211456:=by omega
  intro k hk
  by_cases hlt:k<W
  ·have e2:IntKind.i64.wrap ((W:Int)-1-k-1)=(W:Int)-1-((k+1:Nat):Int):=by rw[wrap64 (by omega) (by omega)];omega
   simp[bit_eq W a.num k hlt,hi_step _ _ hV,lo_step _ _ hV,e2]
   refine⟨fun _=>⟨⟨by omega,by omega⟩,by omega,?_⟩,fun h=>by omega⟩
   refine Again.os (k+1) [0] hlt (by omega) ?_
   rw[rowI_modify _ _ (bitAt W a.num (W-1-k)) _ (fun y=>rfl),bitsL_step _ _ _ hlt]
   simp
  ·have:k=W:=by omega
   subst this
   simp
   refine⟨fun h=>by omega,fun _=>?_⟩
   refine EndZ.ret [0] _ rfl ?_
   simp[bitsA,hWW]
theorem low_bits:∀(n V:Nat),V % 2 ^ n=0↔∀i,i<n→V / 2 ^ i % 2=0
 |0,V=>by simp[Nat.mod_one]
 |n+1,V=>by
  have ih:=low_bits n V
  have e:V % 2 ^ (n+1)=V % 2 ^ n+2 ^ n*(V / 2 ^ n % 2):=by rw[Nat.pow_succ];exact Nat.mod_mul
  have hp:0<2 ^ n:=Nat.two_pow_pos n
  constructor
  ·intro h i hi
   have h1:V % 2 ^ n=0:=by omega
   have h2:V / 2 ^ n % 2=0:=by
    have:2 ^ n*(V / 2 ^ n % 2)=0:=by omega
    rcases Nat.mul_eq_zero.1 this with h|h<;>omega
   rcases Nat.lt_or_ge i n with h3|h3
   ·exact ih.1 h1 i h3
   ·have:i=n:=by omega
    subst this;exact h2
  ·intro h
   have h1:=ih.2 fun i hi=>h i (by omega)
   have h2:=h n (by omega)
   rw[e,h1,h2];simp
theorem and_mask (x:Int) (n:Nat) (h0:0≤x) (h1:x<18446744073709551616) (hn:n≤64):and64 x (2 ^ n-1)=((x.toNat % 2 ^ n:Nat):Int):=by
 have hp:0<2 ^ n:=Nat.two_pow_pos n
 have hle:2 ^ n≤2 ^ 64:=Nat.pow_le_pow_right (by omega) hn
 have h64:(2:Nat) ^ 64=18446744073709551616:=by decide
 have hcast:((2:Int) ^ n)=((2 ^ n:Nat):Int):=by simp
 unfold and64 andI
 rw[hcast]
 have e1:(BitVec.ofInt 64 x).toNat=x.toNat:=by rw[BitVec.toNat_ofInt];simp;omega
 have e2:(BitVec.ofInt 64 (((2 ^ n:Nat):Int)-1)).toNat=2 ^ n-1:=by
  rw[BitVec.toNat_ofInt,Int.emod_eq_of_lt (by omega) (by rw[h64];rw[h64]at hle;omega)];omega
 show IntKind.u64.wrap (((BitVec.ofInt 64 x&&& BitVec.ofInt 64 (((2 ^ n:Nat):Int)-1)).toNat:Nat):Int)=_
 rw[BitVec.toNat_and,e1,e2,Nat.and_two_pow_sub_one_eq_mod]
 have:=Nat.mod_lt x.toNat hp
 rw[wrapU (by omega) (by rw[h64]at hle;omega)]
theorem or_zero (x y:Int) (h0:0≤x) (h1:x<18446744073709551616) (h2:0≤y) (h3:y<18446744073709551616):or64 x y=0↔x=0∧y=0:=by
 unfold or64 orI
 have e1:(BitVec.ofInt 64 x).toNat=x.toNat:=by rw[BitVec.toNat_ofInt];simp;omega
 have e2:(BitVec.ofInt 64 y).toNat=y.toNat:=by rw[BitVec.toNat_ofInt];simp;omega
 show IntKind.u64.wrap (((BitVec.ofInt 64 x|||BitVec.ofInt 64 y).toNat:Nat):Int)=0↔_
 have hb:=(BitVec.ofInt 64 x|||BitVec.ofInt 64 y).isLt
 rw[wrapU (by omega) (by omega),BitVec.toNat_or,e1,e2]
 constructor
 ·intro h
  have h:x.toNat|||y.toNat=0:=by omega
  have:=Nat.or_eq_zero_iff.1 h
  omega
 ·rintro⟨rfl,rfl⟩;rfl
theorem host_zero (p:Pfx) (hw:p.addr.wf) (h0:0≤p.len) (h1:p.len≤wide p.six) (hr:rightA p.six p.addr=true):
  or64 (and64 p.addr.hi (host p).hi) (and64 p.addr.lo (host p).lo)=0↔p.addr.num % 2 ^ (wideN p.six-p.len.toNat)=0:=by
 obtain⟨a1,a2,a3,a4⟩:=hw
 rw[wide_N]at h1
 have hn:p.addr.num=p.addr.hi.toNat*18446744073709551616+p.addr.lo.toNat:=rfl
 have hW:wideN p.six≤128:=by cases p.six<;>decide
 obtain⟨n,hnn⟩:∃n,n=wideN p.six-p.len.toNat:=⟨_,rfl⟩
 have hn128:n≤128:=by omega
 have hhost:host p=⟨2 ^ (n-64)-1,2 ^ min n 64-1⟩:=by
  unfold host below
  rw[wide_N,show(wideN p.six:Int)-p.len=n by omega]
  by_cases c1:(n:Int)≥128
  ·have:n=128:=by omega
   subst this;rfl
  ·rw[if_neg c1]
   by_cases c2:(n:Int)≥64
   ·rw[if_pos c2]
    have e:min ((n:Int)-64).toNat 64=n-64:=by omega
    have hp:(2:Nat) ^ (n-64)<2 ^ 64:=Nat.pow_lt_pow_right (by omega) (by omega)
    have hp0:0<2 ^ (n-64):=Nat.two_pow_pos _
    have h64:(2:Nat) ^ 64=18446744073709551616:=by decide
    have hcast:((2:Int) ^ (n-64))=((2 ^ (n-64):Nat):Int):=by simp
    rw[e,hcast,wrapU (x:=((2 ^ (n-64):Nat):Int)) (by omega) (by omega),wrapU (by omega) (by omega),show min n 64=64 by omega]
    rfl
   ·rw[if_neg c2]
    have e:min (n:Int).toNat 64=n:=by omega
    have hp:(2:Nat) ^ n<2 ^ 64:=Nat.pow_lt_pow_right (by omega) (by omega)
    have hp0:0<2 ^ n:=Nat.two_pow_pos _
    have h64:(2:Nat) ^ 64=18446744073709551616:=by decide
    have hcast:((2:Int) ^ n)=((2 ^ n:Nat):Int):=by simp
    rw[e,hcast,wrapU (x:=((2 ^ n:Nat):Int)) (by omega) (by omega),wrapU (by omega) (by omega),show min n 64=n by omega,show n-64=0 by omega]
    rfl
 rw[hhost,←hnn]
 simp only
 rw[and_mask _ _ a1 a2 (by omega),and_mask _ _ a3 a4 (by omega)]
 have m1:=Nat.mod_le p.addr.hi.toNat (2 ^ (n-64))
 have m2:=Nat.mod_le p.addr.lo.toNat (2 ^ min n 64)
 rw[or_zero _ _ (by omega) (by omega) (by omega) (by omega),hn]
 by_cases c:n≤64
 ·rw[show n-64=0 by omega,show min n 64=n by omega]
  have hd:(2:Nat) ^ 64=2 ^ n*2 ^ (64-n):=by rw[←Nat.pow_add];congr 1;omega
  have h64:(2:Nat) ^ 64=18446744073709551616:=by decide
  have:(p.addr.hi.toNat*18446744073709551616+p.addr.lo.toNat) % 2 ^ n=p.addr.lo.toNat % 2 ^ n:=by
   rw[←h64,hd,show p.addr.hi.toNat*(2 ^ n*2 ^ (64-n))=2 ^ n*(p.addr.hi.toNat*2 ^ (64-n))by rw[Nat.mul_left_comm]]
   exact Nat.mul_add_mod _ _ _
  rw[this,show p.addr.hi.toNat % 2 ^ 0=0 from Nat.mod_one _]
  omega
 ·rw[show min n 64=64 by omega]
  have h64:(2:Nat) ^ 64=18446744073709551616:=by decide
  have hd:(2:Nat) ^ n=18446744073709551616*2 ^ (n-64):=by rw[←h64,←Nat.pow_add];congr 1;omega
  rw[hd,Nat.mod_mul,h64]
  rw[show(p.addr.hi.toNat*18446744073709551616+p.addr.lo.toNat) % 18446744073709551616=p.addr.lo.toNat by omega,show(p.addr.hi.toNat*18446744073709551616+p.addr.lo.toNat) / 18446744073709551616=p.addr.hi.toNat by omega]
  omega
theorem bits_zero (p:Pfx) (h0:0≤p.len):(∃j,j<wideN p.six∧p.len≤(j:Int)∧bitAt (wideN p.six) p.addr.num j≠0)↔p.addr.num % 2 ^ (wideN p.six-p.len.toNat)≠0:=by
 rw[Ne,low_bits]
 constructor
 ·rintro⟨j,h1,h2,h3⟩ h4
  refine h3 ?_
  unfold bitAt
  rw[h4 _ (by omega)];rfl
 ·intro h
  have:∃i,i<wideN p.six-p.len.toNat∧p.addr.num / 2 ^ i % 2≠0:=by
   apply Classical.byContradiction
   intro hc
   exact h fun i hi=>Classical.byContradiction fun hc2=>hc ⟨i,hi,hc2⟩
  obtain⟨i,hi,h1⟩:=this
  refine⟨wideN p.six-1-i,by omega,by omega,?_⟩
  unfold bitAt
  rw[show wideN p.six-1-(wideN p.six-1-i)=i by omega]
  omega
theorem rightAr_spec (six:Bool) (a:Addr4) (hw:a.wf):FSpec Tryz.prog 59 [.bool six,a.av] [] (.bool (rightA six a)) []:=by
 obtain⟨a1,a2,a3,a4⟩:=hw
 refine FSpec.of_flat (q:=[]) Tryz.func59 (by kernel_rfl) rfl Tryz.ntmps59 Tryz.results59 hP (by kernel_rfl) (by simp) (by first|rfl|simp) ?_
 have e:a.lo.fdiv 4294967296=a.lo / 4294967296:=by rw[Int.fdiv_eq_ediv_of_nonneg _ (by omega)]
 have e2:decide (a.lo<4294967296)=(a.lo.fdiv (2 ^ 32)==0):=by
  show _=(a.lo.fdiv 4294967296==0)
  rw[e,Bool.eq_iff_iff];simp;omega
 simp[rightA,e2]
 intro h;simp[h,impB]
theorem bitsA_get (six:Bool) (a:Addr4) (k:Nat) (h:k<wideN six):(bitsA six a)[k]? =some (bitAt (wideN six) a.num k):=by
 unfold bitsA bitsL
 rw[List.getElem?_map,List.getElem?_range h]
 simp
@[simp] theorem bitsA_length (six:Bool) (a:Addr4):(bitsA six a).length=wideN six:=by simp[bitsA]
@[simp] theorem rowI_getElem (l:List Int) (k:Nat) (h:k<(rowI l).length):(rowI l)[k]=[.sc (.int .i64 (l[k]'(by simpa using h)))]:=by simp[rowI]
@[simp] theorem bitsA_getElem (six:Bool) (a:Addr4) (k:Nat) (h:k<(bitsA six a).length):(bitsA six a)[k]=bitAt (wideN six) a.num k:=by
 have:=bitsA_get six a k (by simpa using h)
 rw[List.getElem?_eq_getElem h]at this
 exact Option.some.inj this
theorem rowI_get (l:List Int) (k:Nat) (x:Int) (h:l[k]? =some x):(rowI l)[k]? =some [.sc (.int .i64 x)]:=by simp[rowI,h]
theorem checkPr_spec (p:Pfx) (hw:p.addr.wf):FSpec Tryz.prog 180 [p.av] [] (.int .i64 (checkP p)) []:=by
 refine FSpec.of_flat (q:=[(1,.n 16)]) Tryz.func180 (by kernel_rfl) rfl Tryz.ntmps180 Tryz.results180 hP (by kernel_rfl) (by simp) (by first|rfl|simp) ?_
 simp
 first|refine CallK.same (wider_spec _) rfl rfl ?_|refine CallQ.same (wider_spec _) rfl rfl ?_|refine CallQG.same _ (wider_spec _) rfl ?_|refine CallG.same _ (wider_spec _) rfl ?_|refine CallK.pv (wider_spec _) rfl rfl ?_
 simp
 first|refine CallK.same (rightAr_spec p.six p.addr hw) rfl rfl ?_|refine CallQ.same (rightAr_spec p.six p.addr hw) rfl rfl ?_|refine CallQG.same _ (rightAr_spec p.six p.addr hw) rfl ?_|refine CallG.same _ (rightAr_spec p.six p.addr hw) rfl ?_|refine CallK.pv (rightAr_spec p.six p.addr hw) rfl rfl ?_
 simp
 refine⟨?_,fun h0 h1 h2=>?_⟩
 ·rintro((h|h)|h)<;>simp[checkP,h]
 first|refine CallK.same (bits_spec p.six p.addr hw) rfl rfl ?_|refine CallQ.same (bits_spec p.six p.addr hw) rfl rfl ?_|refine CallQG.same _ (bits_spec p.six p.addr hw) rfl ?_|refine CallG.same _ (bits_spec p.six p.addr hw) rfl ?_|refine CallK.pv (bits_spec p.six p.addr hw) rfl rfl ?_
 have hW:wideN p.six≤128:=by cases p.six<;>decide
 have hz:=host_zero p hw h0 h1 h2
 have hb:=bits_zero p h0
 have hc:checkP p=if p.addr.num % 2 ^ (wideN p.six-p.len.toNat)=0 then 0 else 2:=by
  unfold checkP
  rw[if_neg (by simp[h2];omega)]
  split<;>split<;>simp_all
 simp
 refine LoopK.os (fun k:Nat=>[(1,.ptr 0 0),(28,.im (.sl 1 (rowI (bitsA p.six p.addr)))),(29,.int .i64 (wideN p.six)),(30,.int .i64 k)])
  (fun _=>[.box 74 [.bool p.six,.int .u64 p.addr.hi,.int .u64 p.addr.lo,.int .i64 p.len]])
  (fun k=>k≤wideN p.six∧∀(j:Nat),j<k→p.len≤(j:Int)→bitAt (wideN p.six) p.addr.num j=0) (fun k=>wideN p.six-k) 0 [0] ⟨Nat.zero_le _,fun j hj=>by omega⟩ (by simp) ?_
 rintro k ⟨hk,hR⟩
 by_cases hlt:k<wideN p.six
 ·have hg:=rowI_get _ _ _ (bitsA_get p.six p.addr k hlt)
  have hw1:IntKind.i64.wrap (k+1)=(k+1:Nat):=wrap64 (by omega) (by omega)
  simp[hlt,hg,hw1]
  refine⟨fun a1 a2=>?_,fun a1=>?_⟩
  ·rw[hc,if_neg (hb.1 ⟨k,hlt,a1,a2⟩)]
  ·refine Again.os (k+1) [0] ⟨hlt,fun j hj=>?_⟩ (by omega) (by simp)
   intro b1
   rcases Nat.lt_or_ge j k with h3|h3
   ·exact hR j h3 b1
   ·have:j=k:=by omega
    subst this
    exact a1 b1
 ·have:k=wideN p.six:=by omega
  subst this
  simp
  rw[hc,if_pos]
  apply Classical.byContradiction
  intro hne
  obtain⟨j,j1,j2,j3⟩:=hb.2 hne
  exact j3 (hR j j1 j2)
end Go.Am
namespace Go.Am
open Go.Proofs
def moreB (n:Int):Int:=orI .u8 (IntKind.u8.wrap n) 128
def addL:Nat→Int→List Int
 |0,n=>[IntKind.u8.wrap n]
 |f+1,n=>if 128≤n then moreB n::addL f (n.fdiv 128)else[IntKind.u8.wrap n]
def rowB (l:List Int):List (List IV):=l.map fun x=>[.sc (.int .u8 x)]
@[simp] theorem rowB_length (l:List Int):(rowB l).length=l.length:=by simp[rowB]
@[simp] theorem bytesOf_rowB (l:List Int):bytesOf (rowB l)=some l:=by
 induction l with
 |nil=>rfl
 |cons x l ih=>simp only[rowB,List.map_cons,bytesOf]at ih⊢;rw[ih];rfl
theorem addN_spec (l:List Int) (n:Int) (h0:0≤n) (h1:n≤65536) (hl:l.length≤1000):
  FSpec Tryz.prog 438 [.row 0,.int .u64 n] [.row 5 1 (rowB l)] (.row 1) [.gone,.row 5 1 (rowB (l++addL n.toNat n))]:=by
 refine FSpec.of_o (q:=[]) Tryz.func438 (by kernel_rfl) rfl Tryz.ntmps438 Tryz.results438 hP (by kernel_rfl) (by simp) (by first|rfl|simp) ?_
 simp
 refine LoopK.os (fun g:Bool×List Int×Int×Nat=>[(0,if g.1 then .row 1 else .row 0),(1,.int .u64 g.2.2.1)])
  (fun g=>if g.1 then[.gone,.row 5 1 (rowB g.2.1)]else[.row 5 1 (rowB g.2.1)])
  (fun g=>0≤g.2.2.1∧(g.2.1.length:Int)+g.2.2.1≤66536∧g.2.2.1≤g.2.2.2∧g.2.1++addL g.2.2.2 g.2.2.1=l++addL n.toNat n) (fun g=>g.2.2.1.toNat) (false,l,n,n.toNat) [0]
  ⟨h0,by simp only;omega,by simp only;omega,rfl⟩ (by simp) ?_
 rintro⟨b,l',n',f⟩ ⟨a1,a2,a3,a4⟩
 simp only at a1 a2 a3 a4
 cases b
 all_goals
  have hfd:n'.fdiv 128=n' / 128:=Int.fdiv_eq_ediv_of_nonneg _ (by omega)
  have hone:∀x,rowB l'++[[IV.sc (.int .u8 x)]]=rowB (l'++[x]):=fun x=>by simp[rowB]
  simp[hone]
  refine⟨fun hge=>⟨⟨by omega,by unfold maxLen;omega⟩,?_⟩,fun hlt=>⟨⟨by omega,by unfold maxLen;omega⟩,?_⟩⟩
  ·cases f with
   |zero=>omega
   |succ f=>
    rw[addL,if_pos hge]at a4
    have h5:0≤(l'++[moreB n'],n'.fdiv 128,f).2.1:=by simp only[hfd];omega
    have h6:((l'++[moreB n']).length:Int)+n'.fdiv 128≤66536:=by simp[hfd];omega
    have h7:n'.fdiv 128≤(f:Int):=by rw[hfd];omega
    have h8:(l'++[moreB n'])++addL f (n'.fdiv 128)=l++addL n.toNat n:=by simpa using a4
    have h9:(n'.fdiv 128).toNat<n'.toNat:=by rw[hfd];omega
    first
     |(refine Again.os (true,l'++[moreB n'],n'.fdiv 128,f) [0,2] ⟨h5,h6,h7,h8⟩ h9 ?_;simp[moreB];done)
     |exact Again.os (true,l'++[moreB n'],n'.fdiv 128,f) [0,3] ⟨h5,h6,h7,h8⟩ h9 (by simp[moreB])
  ·have h5:addL f n'=[IntKind.u8.wrap n']:=by cases f<;>simp[addL];omega
   rw[h5]at a4
   rw[←a4]
   first
    |exact EndO.ret [] [0,2] (.row 2) rfl (by simp)
    |exact EndO.ret [] [0,3] (.row 3) rfl (by simp)
theorem action_spec (a:Act) (h:actOk a=true):∃l,FSpec Tryz.prog 431 [.im (.sc (.slice none 0 0)),a.av] [] (.im (.sl 1 (rowB l))) []:=by
 by_cases hk:a.kind=1
 ·have hi:0≤a.iface∧a.iface≤65536:=by simpa [actOk,hk,ifaceOk]using h
  have hw:IntKind.u64.wrap a.iface=a.iface:=wrapU (by omega) (by omega)
  refine⟨[a.kind]++addL a.iface.toNat a.iface,?_⟩
  refine FSpec.of_z (q:=[]) Tryz.func431 (by kernel_rfl) rfl Tryz.ntmps431 Tryz.results431 hP (by kernel_rfl) (by simp) (by first|rfl|simp) ?_
  simp[hk,hw]
  refine⟨by unfold maxLen;omega,?_⟩
  refine CallO.mk [] [2] (addN_spec [1] a.iface hi.1 hi.2 (by simp)) (by simp) rfl (by simp) (by simp[rowB]) (by simp) ?_
  simp
  refine EndZ.ret [3] _ rfl ?_
  simp
 ·refine⟨[a.kind],?_⟩
  refine FSpec.of_z (q:=[]) Tryz.func431 (by kernel_rfl) rfl Tryz.ntmps431 Tryz.results431 hP (by kernel_rfl) (by simp) (by first|rfl|simp) ?_
  simp[hk]
  refine⟨by unfold maxLen;omega,?_⟩
  refine EndZ.ret [2] _ rfl ?_
  simp[rowB]
theorem putAction_spec (a:Act):∃s,FSpec Tryz.prog 407 [a.av] [] (.tup [.im (.sc (.string s)),.int .i64 (if actOk a then 0 else 2)]) []:=by
 cases h:actOk a with
 |false=>
  refine⟨ByteArray.empty,?_⟩
  refine FSpec.of_flat (q:=[]) Tryz.func407 (by kernel_rfl) rfl Tryz.ntmps407 Tryz.results407 hP (by kernel_rfl) (by simp) (by first|rfl|simp) ?_
  simp
  first|refine CallK.same (actOk_spec a) rfl rfl ?_|refine CallQ.same (actOk_spec a) rfl rfl ?_|refine CallQG.same _ (actOk_spec a) rfl ?_|refine CallG.same _ (actOk_spec a) rfl ?_|refine CallK.pv (actOk_spec a) rfl rfl ?_
  simp[h]
  rfl
 |true=>
  obtain⟨l,hl⟩:=action_spec a h
  refine⟨l.foldl (fun r n=>r.push (UInt8.ofNat n.toNat)) ByteArray.empty,?_⟩
  refine FSpec.of_flat (q:=[]) Tryz.func407 (by kernel_rfl) rfl Tryz.ntmps407 Tryz.results407 hP (by kernel_rfl) (by simp) (by first|rfl|simp) ?_
  simp
  first|refine CallK.same (actOk_spec a) rfl rfl ?_|refine CallQ.same (actOk_spec a) rfl rfl ?_|refine CallQG.same _ (actOk_spec a) rfl ?_|refine CallG.same _ (actOk_spec a) rfl ?_|refine CallK.pv (actOk_spec a) rfl rfl ?_
  simp[h]
  refine CallK.pv hl rfl rfl ?_
  simp
def routeOk (r:Route):Bool:=actOk r.act&&checkP r.pfx==0
theorem routeOk_spec (r:Route):FSpec Tryz.prog 362 [r.av] [] (.bool (routeOk r)) []:=by
 obtain⟨s,hs⟩:=putAction_spec r.act
 refine FSpec.of_flat (q:=[]) Tryz.func362 (by kernel_rfl) rfl Tryz.ntmps362 Tryz.results362 hP (by kernel_rfl) (by simp) (by first|rfl|simp) ?_
 simp
 refine CallK.pv hs rfl rfl ?_
 simp
 cases h:actOk r.act with
 |false=>
  simp
  first|refine CallK.same (checkP_spec r.pfx) rfl rfl ?_|refine CallQ.same (checkP_spec r.pfx) rfl rfl ?_|refine CallQG.same _ (checkP_spec r.pfx) rfl ?_|refine CallG.same _ (checkP_spec r.pfx) rfl ?_|refine CallK.pv (checkP_spec r.pfx) rfl rfl ?_
  simp[routeOk,h]
 |true=>
  simp
  first|refine CallK.same (checkP_spec r.pfx) rfl rfl ?_|refine CallQ.same (checkP_spec r.pfx) rfl rfl ?_|refine CallQG.same _ (checkP_spec r.pfx) rfl ?_|refine CallG.same _ (checkP_spec r.pfx) rfl ?_|refine CallK.pv (checkP_spec r.pfx) rfl rfl ?_
  simp[routeOk,h]
theorem routeOkr_spec (r:Route) (hw:r.pfx.addr.wf):FSpec Tryz.prog 333 [r.av] [] (.bool (routeOk r)) []:=by
 refine FSpec.of_flat (q:=[]) Tryz.func333 (by kernel_rfl) rfl Tryz.ntmps333 Tryz.results333 hP (by kernel_rfl) (by simp) (by first|rfl|simp) ?_
 simp
 first|refine CallK.same (checkPr_spec r.pfx hw) rfl rfl ?_|refine CallQ.same (checkPr_spec r.pfx hw) rfl rfl ?_|refine CallQG.same _ (checkPr_spec r.pfx hw) rfl ?_|refine CallG.same _ (checkPr_spec r.pfx hw) rfl ?_|refine CallK.pv (checkPr_spec r.pfx hw) rfl rfl ?_
 simp
 first|refine CallK.same (actOkr_spec r.act) rfl rfl ?_|refine CallQ.same (actOkr_spec r.act) rfl rfl ?_|refine CallQG.same _ (actOkr_spec r.act) rfl ?_|refine CallG.same _ (actOkr_spec r.act) rfl ?_|refine CallK.pv (actOkr_spec r.act) rfl rfl ?_
 simp[routeOk,Bool.and_comm]
end Go.Am
namespace Go.Am
open Go.Proofs
def aheadR (pv:Option Pfx) (r:Route):Bool:=match pv with|none=>true|some p=>decide (cmpP p r.pfx<0)
def checkRL:List Route→Option Pfx→Int
 |[],_=>0
 |r::t,pv=>if !routeOk r||!aheadR pv r then 2 else checkRL t (some r.pfx)
def checkR (l:List Route):Int:=if l.length>256 then 2 else checkRL l none
def prevR (l:List Route) (k:Nat):Option Pfx:=if k=0 then none else(l[k-1]?).map Route.pfx
set_option maxRecDepth 4000 in
theorem checkR_spec (l:List Route):FSpec Tryz.prog 294 [.im (.sl 6 (l.map Route.iv))] [] (.int .i64 (checkR l)) []:=by
 refine FSpec.of_flat (q:=[(6,.n 15)]) Tryz.func294 (by kernel_rfl) rfl Tryz.ntmps294 Tryz.results294 hP (by kernel_rfl) (by simp) (by first|rfl|simp) ?_
 simp[checkR]
 refine⟨fun h h'=>by omega,fun hle=>?_⟩
 refine LoopK.plain (fun k:Nat=>[(0,.im (.sl 6 (l.map Route.iv))),(8,.im (.sl 6 (l.map Route.iv))),(9,.int .i64 l.length),(10,.int .i64 k)]) (fun k=>k≤l.length∧checkRL (l.drop k) (prevR l k)=checkRL l none)
  (fun k=>l.length-k) 0 (by simp[prevR]) (by simp) ?_
 rintro k ⟨hk,hR⟩
 by_cases hlt:k<l.length
 ·have hs:l[k]? =some l[k]:=List.getElem?_eq_getElem hlt
  have hw:IntKind.i64.wrap (k+1)=(k+1:Nat):=wrap64 (by omega) (by omega)
  have hw1:IntKind.i64.wrap (k-1)=(k:Int)-1:=wrap64 (by omega) (by omega)
  rw[List.drop_eq_getElem_cons hlt,checkRL]at hR
  simp[hlt,hs,hw]
  first|refine CallK.same (routeOk_spec l[k]) rfl rfl ?_|refine CallQ.same (routeOk_spec l[k]) rfl rfl ?_|refine CallQG.same _ (routeOk_spec l[k]) rfl ?_|refine CallG.same _ (routeOk_spec l[k]) rfl ?_|refine CallK.pv (routeOk_spec l[k]) rfl rfl ?_
  obtain⟨y,hy,hp⟩:∃y,l[k-1]? =some y∧(0<k→prevR l k=some y.pfx):=by
   refine⟨l[k-1]'(by omega),List.getElem?_eq_getElem (by omega),fun h=>?_⟩
   simp[prevR,show k≠0 by omega,List.getElem?_eq_getElem (show k-1<l.length by omega)]
  have hp0:k=0→prevR l k=none:=by intro h;simp[prevR,h]
  simp[hw,hw1,hy]
  refine⟨fun _ _=>⟨by omega,by omega⟩,?_⟩
  first|refine CallK.same (cmpP_spec y.pfx l[k].pfx) rfl rfl ?_|refine CallQ.same (cmpP_spec y.pfx l[k].pfx) rfl rfl ?_|refine CallQG.same _ (cmpP_spec y.pfx l[k].pfx) rfl ?_|refine CallG.same _ (cmpP_spec y.pfx l[k].pfx) rfl ?_|refine CallK.pv (cmpP_spec y.pfx l[k].pfx) rfl rfl ?_
  have hah:aheadR (prevR l k) l[k]=(decide (k=0)||decide (cmpP y.pfx l[k].pfx<0)):=by
   rcases Nat.eq_zero_or_pos k with e|e
   ·rw[hp0 e];simp[aheadR,e]
   ·rw[hp e];simp[aheadR,show k≠0 by omega]
  simp[hw,hw1,hy]
  cases h1:routeOk l[k]with
  |false=>
   simp[h1]at hR
   simp[←hR]
  |true=>
   rcases Nat.eq_zero_or_pos k with e|e
   ·subst e
    simp
    refine Again.plain 1 ⟨by omega,?_⟩ (by omega) (by simp)
    rw[hah]at hR
    simpa [h1,prevR,hs]using hR
   ·have e0:k≠0:=by omega
    simp[e,impB]
    refine⟨fun h2=>?_,fun h2=>?_⟩
    ·rw[hah]at hR
     rw[←hR,if_pos (by simp[h1,e0];omega)]
     omega
    ·refine Again.plain (k+1) ⟨hlt,?_⟩ (by omega) (by simp)
     rw[hah]at hR
     rw[←hR,if_neg (by simp[h1,e0];omega)]
     simp[prevR,hs]
 ·have:k=l.length:=by omega
  subst this
  simp[checkRL]at hR
  simp[←hR]
  omega
set_option maxRecDepth 4000 in
theorem checkRr_spec (l:List Route) (hwf:∀r∈l,r.pfx.addr.wf):FSpec Tryz.prog 267 [.im (.sl 6 (l.map Route.iv))] [] (.int .i64 (checkR l)) []:=by
 refine FSpec.of_flat (q:=[(6,.n 15)]) Tryz.func267 (by kernel_rfl) rfl Tryz.ntmps267 Tryz.results267 hP (by kernel_rfl) (by simp) (by first|rfl|simp) ?_
 simp[checkR]
 refine⟨fun h h'=>by omega,fun hle=>?_⟩
 refine LoopK.plain (fun k:Nat=>[(0,.im (.sl 6 (l.map Route.iv))),(8,.im (.sl 6 (l.map Route.iv))),(9,.int .i64 l.length),(10,.int .i64 k)]) (fun k=>k≤l.length∧checkRL (l.drop k) (prevR l k)=checkRL l none)
  (fun k=>l.length-k) 0 (by simp[prevR]) (by simp) ?_
 rintro k ⟨hk,hR⟩
 by_cases hlt:k<l.length
 ·have hs:l[k]? =some l[k]:=List.getElem?_eq_getElem hlt
  have hw:IntKind.i64.wrap (k+1)=(k+1:Nat):=wrap64 (by omega) (by omega)
  have hw1:IntKind.i64.wrap (k-1)=(k:Int)-1:=wrap64 (by omega) (by omega)
  rw[List.drop_eq_getElem_cons hlt,checkRL]at hR
  simp[hlt,hs,hw]
  first|refine CallK.same (routeOkr_spec l[k] (hwf _ (List.getElem_mem hlt))) rfl rfl ?_|refine CallQ.same (routeOkr_spec l[k] (hwf _ (List.getElem_mem hlt))) rfl rfl ?_|refine CallQG.same _ (routeOkr_spec l[k] (hwf _ (List.getElem_mem hlt))) rfl ?_|refine CallG.same _ (routeOkr_spec l[k] (hwf _ (List.getElem_mem hlt))) rfl ?_|refine CallK.pv (routeOkr_spec l[k] (hwf _ (List.getElem_mem hlt))) rfl rfl ?_
  obtain⟨y,hy,hp⟩:∃y,l[k-1]? =some y∧(0<k→prevR l k=some y.pfx):=by
   refine⟨l[k-1]'(by omega),List.getElem?_eq_getElem (by omega),fun h=>?_⟩
   simp[prevR,show k≠0 by omega,List.getElem?_eq_getElem (show k-1<l.length by omega)]
  have hp0:k=0→prevR l k=none:=by intro h;simp[prevR,h]
  simp[hw,hw1,hy]
  refine⟨fun _ _=>⟨by omega,by omega⟩,?_⟩
  first|refine CallK.same (lessP_spec y.pfx l[k].pfx) rfl rfl ?_|refine CallQ.same (lessP_spec y.pfx l[k].pfx) rfl rfl ?_|refine CallQG.same _ (lessP_spec y.pfx l[k].pfx) rfl ?_|refine CallG.same _ (lessP_spec y.pfx l[k].pfx) rfl ?_|refine CallK.pv (lessP_spec y.pfx l[k].pfx) rfl rfl ?_
  have hah:aheadR (prevR l k) l[k]=(decide (k=0)||decide (cmpP y.pfx l[k].pfx<0)):=by
   rcases Nat.eq_zero_or_pos k with e|e
   ·rw[hp0 e];simp[aheadR,e]
   ·rw[hp e];simp[aheadR,show k≠0 by omega]
  simp[hw,hw1,hy]
  cases h1:routeOk l[k]with
  |false=>
   simp[h1]at hR
   simp[←hR]
  |true=>
   rcases Nat.eq_zero_or_pos k with e|e
   ·subst e
    simp
    refine Again.plain 1 ⟨by omega,?_⟩ (by omega) (by simp)
    rw[hah]at hR
    simpa [h1,prevR,hs]using hR
   ·have e0:k≠0:=by omega
    simp[e,impB]
    refine⟨fun h2=>?_,fun h2=>?_⟩
    ·rw[hah]at hR
     rw[←hR,if_pos (by simp[h1,e0];omega)]
     omega
    ·refine Again.plain (k+1) ⟨hlt,?_⟩ (by omega) (by simp)
     rw[hah]at hR
     rw[←hR,if_neg (by simp[h1,e0];omega)]
     simp[prevR,hs]
 ·have:k=l.length:=by omega
  subst this
  simp[checkRL]at hR
  simp[←hR]
  omega
end Go.Am
namespace Go.Am
open Go.Proofs
@[simp] def Router.av (r:Router):AV:=.agg [.int .i64 r.id,.bool r.up,.im (.sl 6 (r.routes.map Route.iv)),.im (.sl 2 (r.links.map Link.iv))]
def routerOk (r:Router):Bool:=idOk r.id&&(r.up||(r.routes.isEmpty&&r.links.isEmpty))&&checkR r.routes==0&&checkL r.links==0
def Router.wf (r:Router):Prop:=∀x∈r.routes,x.pfx.addr.wf
theorem checkR_len {l:List Route} (h:checkR l=0):l.length≤256:=by
 unfold checkR at h
 split at h
 ·cases h
 ·omega
theorem checkL_len {l:List Link} (h:checkL l=0):l.length≤32:=by
 unfold checkL at h
 split at h
 ·cases h
 ·omega
theorem up_sum (r:Router) (hu:r.up=false) (h:0<IntKind.i64.wrap ((r.routes.length:Int)+r.links.length)):routerOk r=false:=by
 unfold routerOk
 have:¬(r.routes.isEmpty=true∧r.links.isEmpty=true):=by
  rintro⟨h1,h2⟩
  rw[List.isEmpty_iff]at h1 h2
  rw[h1,h2]at h
  simp[IntKind.wrap,IntKind.bits,IntKind.signed]at h
 cases h1:r.routes.isEmpty<;>cases h2:r.links.isEmpty<;>simp_all
theorem up_sum0 (r:Router) (hu:r.up=false→IntKind.i64.wrap ((r.routes.length:Int)+r.links.length)≤0) (hi:idOk r.id=true) (hr:checkR r.routes=0) (hl:checkL r.links=0):routerOk r=true:=by
 have h1:=checkR_len hr
 have h2:=checkL_len hl
 rw[wrap64 (by omega) (by omega)]at hu
 unfold routerOk
 simp only[hi,hr,hl,Bool.true_and,beq_self_eq_true,Bool.and_true]
 cases hup:r.up with
 |true=>rfl
 |false=>
  have:=hu hup
  have e1:r.routes=[]:=List.eq_nil_of_length_eq_zero (by omega)
  have e2:r.links=[]:=List.eq_nil_of_length_eq_zero (by omega)
  simp[e1,e2]
theorem checkF_spec (r:Router):FSpec Tryz.prog 226 [r.av] [] (.int .i64 (if routerOk r then 0 else 2)) []:=by
 refine FSpec.of_flat (q:=[]) Tryz.func226 (by kernel_rfl) rfl Tryz.ntmps226 Tryz.results226 hP (by kernel_rfl) (by simp) (by first|rfl|simp) ?_
 simp
 first|refine CallK.same (idOk_spec r.id) rfl rfl ?_|refine CallQ.same (idOk_spec r.id) rfl rfl ?_|refine CallQG.same _ (idOk_spec r.id) rfl ?_|refine CallG.same _ (idOk_spec r.id) rfl ?_|refine CallK.pv (idOk_spec r.id) rfl rfl ?_
 simp
 refine⟨fun h=>by simp[h],?_,fun hi hu=>?_⟩
 ·rintro(h|⟨h1,h2⟩)
  ·simp[routerOk,h]
  ·exact up_sum r h1 h2
 first|refine CallK.same (checkR_spec r.routes) rfl rfl ?_|refine CallQ.same (checkR_spec r.routes) rfl rfl ?_|refine CallQG.same _ (checkR_spec r.routes) rfl ?_|refine CallG.same _ (checkR_spec r.routes) rfl ?_|refine CallK.pv (checkR_spec r.routes) rfl rfl ?_
 simp
 first|refine CallK.same (checkL_spec r.links) rfl rfl ?_|refine CallQ.same (checkL_spec r.links) rfl rfl ?_|refine CallQG.same _ (checkL_spec r.links) rfl ?_|refine CallG.same _ (checkL_spec r.links) rfl ?_|refine CallK.pv (checkL_spec r.links) rfl rfl ?_
 simp
 refine⟨fun h=>?_,fun h1 h2=>up_sum0 r hu hi h1 h2⟩
 simp[routerOk]
 intro _ _ h1
 simpa [h1]using h
theorem checkFr_spec (r:Router) (hw:r.wf):FSpec Tryz.prog 206 [r.av] [] (.int .i64 (if routerOk r then 0 else 2)) []:=by
 refine FSpec.of_flat (q:=[]) Tryz.func206 (by kernel_rfl) rfl Tryz.ntmps206 Tryz.results206 hP (by kernel_rfl) (by simp) (by first|rfl|simp) ?_
 simp
 first|refine CallK.same (checkRr_spec r.routes hw) rfl rfl ?_|refine CallQ.same (checkRr_spec r.routes hw) rfl rfl ?_|refine CallQG.same _ (checkRr_spec r.routes hw) rfl ?_|refine CallG.same _ (checkRr_spec r.routes hw) rfl ?_|refine CallK.pv (checkRr_spec r.routes hw) rfl rfl ?_
 simp
 first|refine CallK.same (checkLr_spec r.links) rfl rfl ?_|refine CallQ.same (checkLr_spec r.links) rfl rfl ?_|refine CallQG.same _ (checkLr_spec r.links) rfl ?_|refine CallG.same _ (checkLr_spec r.links) rfl ?_|refine CallK.pv (checkLr_spec r.links) rfl rfl ?_
 simp
 refine⟨fun h=>?_,fun h1 h2 h3 h4=>⟨fun h5 h6=>up_sum r h5 h6,fun h5=>up_sum0 r h5 (by simp[idOk,h1,h2]) h3 h4⟩⟩
 simp[routerOk,idOk]
 intro a b c d e
 rcases h with(h|h)|h<;>first|omega|exact absurd d h|exact absurd e h
end Go.Am
namespace Go.Am
open Go.Proofs
structure Net where
 seats:List Seat
 routers:List Router
@[simp] def Net.av (n:Net):AV:=.agg [.im (.sl 4 (n.seats.map Seat.iv)),.im (.sl 4 (n.routers.map Router.iv))]
def Net.wf (n:Net):Prop:=∀r∈n.routers,r.wf
def zipOk:List Router→List Seat→Bool
 |[],[]=>true
 |r::l,s::t=>routerOk r&&r.id==s.router&&r.up==s.up&&zipOk l t
 |_,_=>false
def netOk (n:Net):Bool:=checkS n.seats==0&&n.routers.length==n.seats.length&&zipOk n.routers n.seats&&decide (many n.routers 0≤1024)
theorem checkS_len {l:List Seat} (h:checkS l=0):l.length≤64:=by
 unfold checkS at h
 split at h
 ·cases h
 ·omega
theorem checkN_spec (n:Net):FSpec Tryz.prog 161 [n.av] [] (.int .i64 (if netOk n then 0 else 2)) []:=by
 refine FSpec.of_flat (q:=[]) Tryz.func161 (by kernel_rfl) rfl Tryz.ntmps161 Tryz.results161 hP (by kernel_rfl) (by simp) (by first|rfl|simp) ?_
 simp
 first|refine CallK.same (checkS_spec n.seats) rfl rfl ?_|refine CallQ.same (checkS_spec n.seats) rfl rfl ?_|refine CallQG.same _ (checkS_spec n.seats) rfl ?_|refine CallG.same _ (checkS_spec n.seats) rfl ?_|refine CallK.pv (checkS_spec n.seats) rfl rfl ?_
 simp
 first|refine CallK.same (total_spec n.routers) rfl rfl ?_|refine CallQ.same (total_spec n.routers) rfl rfl ?_|refine CallQG.same _ (total_spec n.routers) rfl ?_|refine CallG.same _ (total_spec n.routers) rfl ?_|refine CallK.pv (total_spec n.routers) rfl rfl ?_
 simp
 refine⟨?_,fun h1 h2 h3=>?_⟩
 ·rintro((h|h)|h)
  ·simp[netOk,h]
  ·simp[netOk];intro _ _;omega
  ·simp[netOk];intro _ _ _;omega
 have hlen:=checkS_len h1
 refine LoopK.os (fun k:Nat=>[(1,.ptr 0 0),(26,.im (.sl 4 (n.routers.map Router.iv))),(27,.int .i64 n.routers.length),(28,.int .i64 k)])
  (fun _=>[.box 25 [.im (.sl 4 (n.seats.map Seat.iv)),.im (.sl 4 (n.routers.map Router.iv))]])
  (fun k=>k≤n.routers.length∧zipOk (n.routers.drop k) (n.seats.drop k)=zipOk n.routers n.seats) (fun k=>n.routers.length-k) 0 [0] ⟨Nat.zero_le _,rfl⟩ (by simp) ?_
 rintro k ⟨hk,hR⟩
 by_cases hlt:k<n.routers.length
 ·have hs:n.routers[k]? =some n.routers[k]:=List.getElem?_eq_getElem hlt
  have hlt2:k<n.seats.length:=by omega
  have hs2:n.seats[k]? =some n.seats[k]:=List.getElem?_eq_getElem hlt2
  have hw:IntKind.i64.wrap (k+1)=(k+1:Nat):=wrap64 (by omega) (by omega)
  rw[List.drop_eq_getElem_cons hlt,List.drop_eq_getElem_cons hlt2,zipOk]at hR
  simp[hlt,hlt2,hs,hs2,hw]
  first|refine CallK.same (checkF_spec n.routers[k]) rfl rfl ?_|refine CallQ.same (checkF_spec n.routers[k]) rfl rfl ?_|refine CallQG.same _ (checkF_spec n.routers[k]) rfl ?_|refine CallG.same _ (checkF_spec n.routers[k]) rfl ?_|refine CallK.pv (checkF_spec n.routers[k]) rfl rfl ?_
  simp[hw,hs2,hlt2]
  refine⟨fun h=>?_,fun h1 h2 h3=>?_⟩
  ·have hz:zipOk n.routers n.seats=false:=by
    rw[←hR]
    rcases h with(h|h)|h
    ·simp[h]
    ·simp[h]
    ·simp[h]
   simp[netOk,hz]
  ·refine Again.os (k+1) [0] ⟨hlt,?_⟩ (by omega) ?_
   ·rw[←hR];simp[h1,h2,h3]
   ·simp
 ·have:k=n.routers.length:=by omega
  subst this
  have hz:zipOk n.routers n.seats=true:=by
   rw[←hR,List.drop_of_length_le (by omega),List.drop_of_length_le (by omega)];rfl
  simp[netOk,h1,hz]
  omega
theorem checkNr_spec (n:Net) (hwf:n.wf):FSpec Tryz.prog 128 [n.av] [] (.int .i64 (if netOk n then 0 else 2)) []:=by
 refine FSpec.of_flat (q:=[(6,.n 23)]) Tryz.func128 (by kernel_rfl) rfl Tryz.ntmps128 Tryz.results128 hP (by kernel_rfl) (by simp) (by first|rfl|simp) ?_
 simp
 first|refine CallK.same (checkSr_spec n.seats) rfl rfl ?_|refine CallQ.same (checkSr_spec n.seats) rfl rfl ?_|refine CallQG.same _ (checkSr_spec n.seats) rfl ?_|refine CallG.same _ (checkSr_spec n.seats) rfl ?_|refine CallK.pv (checkSr_spec n.seats) rfl rfl ?_
 simp
 refine⟨?_,fun h1 h2=>?_⟩
 ·rintro(h|h)
  ·simp[netOk,h]
  ·simp[netOk];intro _ _;omega
 have hlen:=checkS_len h1
 refine LoopK.os (fun k:Nat=>[(1,.ptr 0 0),(19,.im (.sl 4 (n.routers.map Router.iv))),(20,.int .i64 n.routers.length),(21,.int .i64 k)])
  (fun _=>[.box 25 [.im (.sl 4 (n.seats.map Seat.iv)),.im (.sl 4 (n.routers.map Router.iv))]])
  (fun k=>k≤n.routers.length∧zipOk (n.routers.drop k) (n.seats.drop k)=zipOk n.routers n.seats) (fun k=>n.routers.length-k) 0 [0] ⟨Nat.zero_le _,rfl⟩ (by simp) ?_
 rintro k ⟨hk,hR⟩
 by_cases hlt:k<n.routers.length
 ·have hs:n.routers[k]? =some n.routers[k]:=List.getElem?_eq_getElem hlt
  have hlt2:k<n.seats.length:=by omega
  have hs2:n.seats[k]? =some n.seats[k]:=List.getElem?_eq_getElem hlt2
  have hw:IntKind.i64.wrap (k+1)=(k+1:Nat):=wrap64 (by omega) (by omega)
  rw[List.drop_eq_getElem_cons hlt,List.drop_eq_getElem_cons hlt2,zipOk]at hR
  simp[hlt,hlt2,hs,hs2,hw]
  first|refine CallK.same (checkFr_spec n.routers[k] (hwf _ (List.getElem_mem hlt))) rfl rfl ?_|refine CallQ.same (checkFr_spec n.routers[k] (hwf _ (List.getElem_mem hlt))) rfl rfl ?_|refine CallQG.same _ (checkFr_spec n.routers[k] (hwf _ (List.getElem_mem hlt))) rfl ?_|refine CallG.same _ (checkFr_spec n.routers[k] (hwf _ (List.getElem_mem hlt))) rfl ?_|refine CallK.pv (checkFr_spec n.routers[k] (hwf _ (List.getElem_mem hlt))) rfl rfl ?_
  simp[hw,hs2,hlt2]
  refine⟨fun h=>?_,fun h1 h2 h3=>?_⟩
  ·have hz:zipOk n.routers n.seats=false:=by
    rw[←hR]
    rcases h with(h|h)|h
    ·simp[h]
    ·simp[h]
    ·simp[h]
   simp[netOk,hz]
  ·refine Again.os (k+1) [0] ⟨hlt,?_⟩ (by omega) ?_
   ·rw[←hR];simp[h1,h2,h3]
   ·simp
 ·have:k=n.routers.length:=by omega
  subst this
  have hz:zipOk n.routers n.seats=true:=by
   rw[←hR,List.drop_of_length_le (by omega),List.drop_of_length_le (by omega)];rfl
  simp
  first|refine CallK.same (manyr_spec n.routers) rfl rfl ?_|refine CallQ.same (manyr_spec n.routers) rfl rfl ?_|refine CallQG.same _ (manyr_spec n.routers) rfl ?_|refine CallG.same _ (manyr_spec n.routers) rfl ?_|refine CallK.pv (manyr_spec n.routers) rfl rfl ?_
  simp[netOk,h1,hz]
  refine⟨fun a b=>a,fun a=>⟨by omega,a⟩⟩
end Go.Am
namespace Go.Am
open Go.Proofs
def bitN (W V j:Nat):Nat:=V / 2 ^ (W-1-j) % 2
theorem bitN_lt (W V j:Nat):bitN W V j<2:=Nat.mod_lt _ (by omega)
theorem bit1 (x:Int) (n:Nat) (h0:0≤x) (h1:x<18446744073709551616) (hn:n<64):IntKind.i64.wrap (andI .u64 (x.fdiv (2 ^ min n 64)) 1)=((x.toNat / 2 ^ n % 2:Nat):Int):=by
 rw[show min n 64=n by omega]
 have hcast:((2:Int) ^ n)=((2 ^ n:Nat):Int):=by simp
 have hd:x.fdiv (2 ^ n)=((x.toNat / 2 ^ n:Nat):Int):=by
  have hp:=Nat.two_pow_pos n
  rw[hcast,Int.fdiv_eq_ediv_of_nonneg _ (by omega),Int.natCast_ediv]
  congr 1;omega
 have hle:x.toNat / 2 ^ n≤x.toNat:=Nat.div_le_self _ _
 rw[hd]
 generalize x.toNat / 2 ^ n=y at*
 have:=and_mask ((y:Nat):Int) 1 (by omega) (by omega) (by omega)
 simp only[Int.toNat_natCast]at this
 rw[show((2:Int) ^ 1-1)=1 by decide,show(2:Nat) ^ 1=2 by decide]at this
 rw[show andI .u64 ((y:Nat):Int) 1=and64 ((y:Nat):Int) 1 from rfl,this]
 exact wrap64 (by omega) (by omega)
theorem bit_spec (six:Bool) (a:Addr4) (hw:a.wf) (j:Nat) (hj:j<wideN six):FSpec Tryz.prog 415 [.bool six,a.av,.int .i64 j] [] (.int .i64 (bitN (wideN six) a.num j)) []:=by
 obtain⟨a1,a2,a3,a4⟩:=hw
 have hW:wideN six≤128:=by cases six<;>decide
 have hn:a.num=a.hi.toNat*18446744073709551616+a.lo.toNat:=rfl
 have h64:(2:Nat) ^ 64=18446744073709551616:=by decide
 refine FSpec.of_flat (q:=[]) Tryz.func415 (by kernel_rfl) rfl Tryz.ntmps415 Tryz.results415 hP (by kernel_rfl) (by simp) (by first|rfl|simp) ?_
 simp
 first|refine CallK.same (wide_spec six) rfl rfl ?_|refine CallQ.same (wide_spec six) rfl rfl ?_|refine CallQG.same _ (wide_spec six) rfl ?_|refine CallG.same _ (wide_spec six) rfl ?_|refine CallK.pv (wide_spec six) rfl rfl ?_
 simp[wide_N]
 generalize wideN six=W at*
 obtain⟨n,hnn⟩:∃n,n=W-1-j:=⟨_,rfl⟩
 rw[wrap64 (x:=(W:Int)-1) (by omega) (by omega),wrap64 (x:=(W:Int)-1-j) (by omega) (by omega),show(W:Int)-1-j=n by omega]
 unfold bitN
 rw[←hnn]
 refine⟨fun h=>?_,fun h=>?_⟩
 ·rw[wrap64 (x:=(n:Int)-64) (by omega) (by omega)]
  refine⟨by omega,?_⟩
  rw[show((n:Int)-64).toNat=n-64 by omega,bit1 _ _ a1 a2 (by omega),hn]
  have hd:(2:Nat) ^ n=18446744073709551616*2 ^ (n-64):=by rw[←h64,←Nat.pow_add];congr 1;omega
  rw[hd,←Nat.div_div_eq_div_mul,show(a.hi.toNat*18446744073709551616+a.lo.toNat) / 18446744073709551616=a.hi.toNat by omega]
 ·refine⟨by omega,?_⟩
  rw[show((n:Int)).toNat=n by omega,bit1 _ _ a3 a4 (by omega),hn]
  have hd:18446744073709551616=2 ^ n*(2*2 ^ (63-n)):=by
   rw[←h64,show(2:Nat)*2 ^ (63-n)=2 ^ (63-n+1)by rw[Nat.pow_succ];omega,←Nat.pow_add];congr 1;omega
  rw[hd,show a.hi.toNat*(2 ^ n*(2*2 ^ (63-n)))=2 ^ n*(2*(a.hi.toNat*2 ^ (63-n)))by
   rw[Nat.mul_left_comm,Nat.mul_left_comm a.hi.toNat 2],Nat.mul_add_div (Nat.two_pow_pos n),Nat.mul_add_mod]
end Go.Am
namespace Go.Am
open Go.Proofs
inductive Ent where
 |nd (p:List Nat) (v:Option Nat)
 |rt (r:Route)
 |pb (p:Pfx)
def Ent.isAt (p:List Nat):Ent→Bool
 |.nd q _=>q==p
 |_=>false
def ix (T:List Ent) (p:List Nat):Option Nat:=T.findIdx? (Ent.isAt p)
def ptrO:Option Nat→AV
 |none=>.im (.sc (.pointer none))
 |some k=>.ptr k 0
def ndCells (T:List Ent) (p:List Nat) (v:Option Nat):List AV:=[ptrO v,ptrO (ix T (p++[0])),ptrO (ix T (p++[1]))]
def Ent.ob (six:Bool) (T:List Ent) (i:Nat):Ent→AObj
 |.nd p v=>if i=0 then .box 475 (.bool six::ndCells T p v)else .box 473 (ndCells T p v)
 |.rt r=>.box 287 (r.iv.map .im)
 |.pb p=>.box 74 [.bool p.six,.int .u64 p.addr.hi,.int .u64 p.addr.lo,.int .i64 p.len]
def obs (six:Bool) (T:List Ent):List AObj:=T.mapIdx (Ent.ob six T)
@[simp] theorem obs_length (six:Bool) (T:List Ent):(obs six T).length=T.length:=by simp[obs]
theorem obs_get (six:Bool) (T:List Ent) (i:Nat):(obs six T)[i]? =T[i]?.map (Ent.ob six T i):=by simp[obs]
@[simp] theorem obs_noSv (six:Bool) (T:List Ent):(obs six T).all AObj.noSv=true:=by
 rw[List.all_eq_true]
 intro x hx
 obtain⟨i,hi,rfl⟩:=List.mem_iff_getElem.1 hx
 have h:=obs_get six T i
 rw[List.getElem?_eq_getElem hi]at h
 have hi':i<T.length:=by simpa using hi
 rw[List.getElem?_eq_getElem hi']at h
 rw[Option.some.inj h]
 cases T[i]<;>simp only[Ent.ob]<;>(try split)<;>rfl
theorem ob_le (six:Bool) (T:List Ent) (i:Nat) (e:Ent):(Ent.ob six T i e).le (Ent.ob six T i e):=by
 cases e<;>simp only[Ent.ob]<;>(try split)<;>exact⟨rfl,AV.leL_refl _⟩
structure WT (T:List Ent):Prop where
 root:∃v,T[0]? =some (.nd [] v)
 uniq:∀{i j:Nat} {p:List Nat} {v v':Option Nat},T[i]? =some (.nd p v)→T[j]? =some (.nd p v')→i=j
 pre:∀{i:Nat} {p:List Nat} {b:Nat} {v:Option Nat},T[i]? =some (.nd (p++[b]) v)→∃(j:Nat) (v':Option Nat),T[j]? =some (.nd p v')
 val:∀{i:Nat} {p:List Nat} {j:Nat},T[i]? =some (.nd p (some j))→∃r,T[j]? =some (.rt r)
theorem ix_some {T:List Ent} {p:List Nat} {k:Nat} (h:ix T p=some k):∃v,T[k]? =some (.nd p v):=by
 obtain⟨hk,h1,_⟩:=List.findIdx?_eq_some_iff_getElem.1 h
 rw[List.getElem?_eq_getElem hk]
 generalize T[k]=e at*
 cases e<;>simp[Ent.isAt]at h1
 subst h1
 exact⟨_,rfl⟩
theorem ix_none {T:List Ent} {p:List Nat} (h:ix T p=none) (k:Nat) (v:Option Nat):T[k]?≠some (.nd p v):=by
 intro hk
 have:=List.findIdx?_eq_none_iff.1 h _ (List.mem_of_getElem? hk)
 simp[Ent.isAt]at this
theorem WT.ix {T:List Ent} (h:WT T) {p:List Nat} {k:Nat} {v:Option Nat} (hk:T[k]? =some (.nd p v)):ix T p=some k:=by
 cases hi:Go.Am.ix T p with
 |none=>exact absurd hk (ix_none hi k v)
 |some j=>
  obtain⟨v',h1⟩:=ix_some hi
  rw[h.uniq h1 hk]
theorem WT.ix_nil {T:List Ent} (h:WT T):Go.Am.ix T []=some 0:=by
 obtain⟨v,hv⟩:=h.root
 exact h.ix hv
theorem ix_append (T U:List Ent) (p:List Nat):ix (T++U) p=match ix T p with
  |some k=>some k
  |none=>(ix U p).map (·+T.length):=by
 unfold ix
 rw[List.findIdx?_append]
 cases List.findIdx? (Ent.isAt p) T<;>simp[Option.or]
theorem ix_vals (T:List Ent) (p:Pfx) (r:Route) (q:List Nat):ix (T++[.pb p,.rt r]) q=ix T q:=by
 rw[ix_append]
 cases ix T q<;>simp[ix,Ent.isAt]
theorem ob_congr (six:Bool) {T U:List Ent} (i:Nat) (e:Ent) (h:∀q v b,e=.nd q v→ix T (q++[b])=ix U (q++[b])):Ent.ob six T i e=Ent.ob six U i e:=by
 cases e with
 |nd q v=>simp only[Ent.ob,ndCells,h q v 0 rfl,h q v 1 rfl]
 |_=>rfl
theorem get_push2 {α:Type} (l:List α) (x y:α) (i:Nat):(l++[x,y])[i]? =if i<l.length then l[i]? else if i=l.length then some x else if i=l.length+1 then some y else none:=by
 by_cases h:i<l.length
 ·simp[h,List.getElem?_append]
 ·rw[List.getElem?_append_right (by omega),if_neg h]
  by_cases h1:i=l.length
  ·simp[h1]
  ·by_cases h2:i=l.length+1
   ·simp[h2]
   ·rw[if_neg h1,if_neg h2,List.getElem?_eq_none]
    simp;omega
theorem get_push1 {α:Type} (l:List α) (x:α) (i:Nat):(l++[x])[i]? =if i<l.length then l[i]? else if i=l.length then some x else none:=by
 by_cases h:i<l.length
 ·simp[h,List.getElem?_append]
 ·rw[List.getElem?_append_right (by omega),if_neg h]
  by_cases h1:i=l.length
  ·simp[h1]
  ·rw[if_neg h1,List.getElem?_eq_none]
   simp;omega
theorem WT.vals {T:List Ent} (h:WT T) (p:Pfx) (r:Route):WT (T++[.pb p,.rt r]):=by
 have hg:∀{i:Nat} {q:List Nat} {v:Option Nat},(T++[Ent.pb p,Ent.rt r])[i]? =some (.nd q v)↔T[i]? =some (.nd q v):=by
  intro i q v
  rw[get_push2]
  by_cases h1:i<T.length
  ·simp[h1]
  ·rw[if_neg h1,List.getElem?_eq_none (l:=T) (by omega)]
   split
   ·simp
   ·split<;>simp
 refine⟨?_,?_,?_,?_⟩
 ·obtain⟨v,hv⟩:=h.root
  exact⟨v,hg.2 hv⟩
 ·intro i j q v v' h1 h2
  exact h.uniq (hg.1 h1) (hg.1 h2)
 ·intro i q b v h1
  obtain⟨j,v',h2⟩:=h.pre (hg.1 h1)
  exact⟨j,v',hg.2 h2⟩
 ·intro i q j h1
  obtain⟨r',h2⟩:=h.val (hg.1 h1)
  refine⟨r',?_⟩
  rw[get_push2,if_pos (List.getElem?_eq_some_iff.1 h2).1];exact h2
theorem ix_new {T:List Ent} {s:List Nat} (hn:ix T s=none) (q:List Nat):ix (T++[.nd s none]) q=if q=s then some T.length else ix T q:=by
 rw[ix_append]
 by_cases h:q=s
 ·subst h;rw[hn];simp[ix,Ent.isAt]
 ·rw[if_neg h]
  cases ix T q with
  |some k=>rfl
  |none=>simp[ix,Ent.isAt,Ne.symm h]
theorem WT.new {T:List Ent} (h:WT T) {p:List Nat} {b k:Nat} {v:Option Nat} (hk:T[k]? =some (.nd p v)) (hn:Go.Am.ix T (p++[b])=none):WT (T++[.nd (p++[b]) none]):=by
 have hg:∀{i:Nat} {q:List Nat} {v:Option Nat},(T++[Ent.nd (p++[b]) none])[i]? =some (.nd q v)↔T[i]? =some (.nd q v)∨(i=T.length∧q=p++[b]∧v=none):=by
  intro i q v
  rw[get_push1]
  by_cases h1:i<T.length
  ·simp[h1];omega
  ·rw[if_neg h1,List.getElem?_eq_none (l:=T) (by omega)]
   by_cases h2:i=T.length
   ·simp[h2,eq_comm]
   ·simp[h2]
 refine⟨?_,?_,?_,?_⟩
 ·obtain⟨v,hv⟩:=h.root
  exact⟨v,hg.2 (.inl hv)⟩
 ·intro i j q v v' h1 h2
  rcases hg.1 h1 with h1|⟨h1,h3,h4⟩<;>rcases hg.1 h2 with h2|⟨h2,h5,h6⟩
  ·exact h.uniq h1 h2
  ·subst h5;exact absurd h1 (ix_none hn i v)
  ·subst h3;exact absurd h2 (ix_none hn j v')
  ·omega
 ·intro i q b' v h1
  rcases hg.1 h1 with h1|⟨h1,h3,h4⟩
  ·obtain⟨j,v',h2⟩:=h.pre h1
   exact⟨j,v',hg.2 (.inl h2)⟩
  ·obtain⟨rfl,_⟩:=List.append_inj' h3 rfl
   exact⟨k,_,hg.2 (.inl hk)⟩
 ·intro i q j h1
  rcases hg.1 h1 with h1|⟨h1,h3,h4⟩
  ·obtain⟨r',h2⟩:=h.val h1
   refine⟨r',?_⟩
   rw[get_push1,if_pos (List.getElem?_eq_some_iff.1 h2).1];exact h2
  ·cases h4
theorem ix_set {T:List Ent} {k:Nat} {p:List Nat} {v v':Option Nat} (hk:T[k]? =some (.nd p v)) (q:List Nat):ix (T.set k (.nd p v')) q=ix T q:=by
 unfold ix
 have:(T.set k (.nd p v')).map (Ent.isAt q)=T.map (Ent.isAt q):=by
  rw[List.map_set]
  apply List.ext_getElem?
  intro i
  rw[List.getElem?_set]
  split
  ·rename_i h;subst h
   simp[hk,Ent.isAt]
   exact(List.getElem?_eq_some_iff.1 hk).1
  ·rfl
 have key:∀l:List Ent,l.findIdx? (Ent.isAt q)=(l.map (Ent.isAt q)).findIdx? id:=by
  intro l;rw[List.findIdx?_map];rfl
 rw[key,key,this]
theorem WT.set {T:List Ent} (h:WT T) {k:Nat} {p:List Nat} {v:Option Nat} {j:Nat} {r:Route} (hk:T[k]? =some (.nd p v)) (hj:T[j]? =some (.rt r)):WT (T.set k (.nd p (some j))):=by
 have hlt:=(List.getElem?_eq_some_iff.1 hk).1
 have hg:∀{i:Nat} {q:List Nat} {w:Option Nat},(T.set k (.nd p (some j)))[i]? =some (.nd q w)→∃w',T[i]? =some (.nd q w')∧(w=w'∨w=some j):=by
  intro i q w h1
  rw[List.getElem?_set]at h1
  split at h1
  ·rename_i h2;subst h2
   simp[hlt]at h1
   obtain⟨rfl,rfl⟩:=h1
   exact⟨v,hk,.inr rfl⟩
  ·exact⟨w,h1,.inl rfl⟩
 have hg2:∀{i:Nat} {q:List Nat} {w:Option Nat},T[i]? =some (.nd q w)→∃w',(T.set k (.nd p (some j)))[i]? =some (.nd q w'):=by
  intro i q w h1
  rw[List.getElem?_set]
  split
  ·rename_i h2;subst h2
   rw[hk]at h1
   cases h1
   exact⟨some j,by simp[hlt]⟩
  ·exact⟨w,h1⟩
 have hg3:∀{i:Nat} {r':Route},T[i]? =some (.rt r')→(T.set k (.nd p (some j)))[i]? =some (.rt r'):=by
  intro i r' h1
  rw[List.getElem?_set]
  split
  ·rename_i h2;subst h2;rw[hk]at h1;cases h1
  ·exact h1
 refine⟨?_,?_,?_,?_⟩
 ·obtain⟨v,hv⟩:=h.root
  exact hg2 hv
 ·intro i j q v v' h1 h2
  obtain⟨_,h1,_⟩:=hg h1
  obtain⟨_,h2,_⟩:=hg h2
  exact h.uniq h1 h2
 ·intro i q b v h1
  obtain⟨_,h1,_⟩:=hg h1
  obtain⟨m,w,h2⟩:=h.pre h1
  obtain⟨w',h3⟩:=hg2 h2
  exact⟨m,w',h3⟩
 ·intro i q m h1
  obtain⟨w,h1,h2⟩:=hg h1
  rcases h2 with h2|h2
  ·subst h2
   obtain⟨r',h3⟩:=h.val h1
   exact⟨r',hg3 h3⟩
  ·cases h2
   exact⟨r,hg3 hj⟩
def stepT (T:List Ent) (p:List Nat):List Ent×Nat:=
 match ix T p with
 |some k=>(T,k)
 |none=>(T++[.nd p none],T.length)
def walkT:List Ent→Nat→List Nat→List Nat→List Ent×Nat
 |T,cur,_,[]=>(T,cur)
 |T,cur,p,b::l=>walkT (stepT T (p++[b])).1 (stepT T (p++[b])).2 (p++[b]) l
def bitsN (six:Bool) (a:Addr4) (n:Nat):List Nat:=(List.range n).map (bitN (wideN six) a.num)
def setT (N:Nat) (p:List Nat) (x:List Ent×Nat):List Ent:=x.1.set x.2 (.nd p (some (N+1)))
def putT (six:Bool) (T:List Ent) (p:Pfx) (r:Route):List Ent:=
 setT T.length (bitsN six p.addr p.len.toNat) (walkT (T++[.pb p,.rt r]) 0 [] (bitsN six p.addr p.len.toNat))
theorem stepT_wt {T:List Ent} (h:WT T) {p:List Nat} {b k:Nat} {v:Option Nat} (hk:T[k]? =some (.nd p v)):WT (stepT T (p++[b])).1∧∃v',(stepT T (p++[b])).1[(stepT T (p++[b])).2]? =some (.nd (p++[b]) v'):=by
 unfold stepT
 split
 ·rename_i k' h1
  exact⟨h,ix_some h1⟩
 ·rename_i h1
  exact⟨h.new hk h1,none,by simp⟩
end Go.Am
namespace Go.Am
open Go.Proofs
def offT (k:Nat):Nat:=if k=0 then 1 else 0
theorem bitsN_take (six:Bool) (a:Addr4) (n k:Nat) (h:k<n):(bitsN six a n).drop k=bitN (wideN six) a.num k::(bitsN six a n).drop (k+1):=by
 unfold bitsN
 rw[List.drop_eq_getElem_cons (by simpa using h)]
 simp
theorem bitsN_take' (six:Bool) (a:Addr4) (n k:Nat) (h:k<n):(bitsN six a n).take k++[bitN (wideN six) a.num k]=(bitsN six a n).take (k+1):=by
 rw[List.take_add_one]
 unfold bitsN
 simp[h]
theorem vals_objs (six:Bool) (T:List Ent) (p:Pfx) (r:Route) (i:Nat) (o':AObj) (ho:(obs six (T++[.pb p,.rt r]))[i]? =some o'):
  ∃ob,look ((T.length+1,Ent.ob six T i (.rt r))::(T.length,Ent.ob six T i (.pb p))::enumL 0 (obs six T)) i=some ob∧ob.le o':=by
 rw[obs_get,get_push2]at ho
 have hcg:∀e,Ent.ob six (T++[.pb p,.rt r]) i e=Ent.ob six T i e:=fun e=>ob_congr six i e fun q v b _=>ix_vals T p r _
 simp only[look,look_enum0,obs_get]
 by_cases h1:i<T.length
 ·rw[if_pos h1]at ho
  rw[if_neg (by omega),if_neg (by omega)]
  rw[List.getElem?_eq_getElem h1]at ho⊢
  simp only[Option.map_some,Option.some.injEq,hcg]at ho⊢
  exact⟨_,rfl,by rw[ho];rw[←ho];exact ob_le _ _ _ _⟩
 ·rw[if_neg h1]at ho
  by_cases h2:i=T.length
  ·subst h2
   simp at ho
   rw[if_neg (by omega),if_pos rfl]
   exact⟨_,rfl,by rw[←ho];exact ob_le _ _ _ _⟩
  ·rw[if_neg h2]at ho
   by_cases h3:i=T.length+1
   ·subst h3
    simp at ho
    rw[if_pos rfl]
    exact⟨_,rfl,by rw[←ho];exact ob_le _ _ _ _⟩
   ·rw[if_neg h3]at ho;cases ho
theorem get_left {α:Type} {l l':List α} {i:Nat} {x:α} (h:l[i]? =some x):(l++l')[i]? =some x:=by
 rw[List.getElem?_append_left (List.getElem?_eq_some_iff.1 h).1];exact h
theorem new_objs (six:Bool) {U:List Ent} {cur:Nat} {q:List Nat} {b:Nat} {v:Option Nat} (wt:WT U) (hc:U[cur]? =some (.nd q v)) (hi:ix U (q++[b])=none) {ob1 ob2:AObj}
  (h1:ob1=Ent.ob six (U++[.nd (q++[b]) none]) cur (.nd q v)) (h2:ob2=Ent.ob six (U++[.nd (q++[b]) none]) U.length (.nd (q++[b]) none)) (i:Nat) (o':AObj)
  (ho:(obs six (U++[.nd (q++[b]) none]))[i]? =some o'):∃ob,look ((cur,ob1)::(U.length,ob2)::enumL 0 (obs six U)) i=some ob∧ob.le o':=by
 subst h1 h2
 rw[obs_get,get_push1,Option.map_eq_some_iff]at ho
 obtain⟨e,he,rfl⟩:=ho
 simp only[look,look_enum0,obs_get]
 by_cases h1:cur=i
 ·subst h1
  rw[if_pos (List.getElem?_eq_some_iff.1 hc).1,hc]at he
  cases he
  rw[if_pos rfl]
  exact⟨_,rfl,ob_le _ _ _ _⟩
 rw[if_neg h1]
 by_cases h2:U.length=i
 ·subst h2
  simp at he
  subst he
  rw[if_pos rfl]
  exact⟨_,rfl,ob_le _ _ _ _⟩
 rw[if_neg h2]
 have h3:i<U.length:=by
  apply Classical.byContradiction
  intro h3
  rw[if_neg h3,if_neg (by omega)]at he
  cases he
 rw[if_pos h3]at he
 rw[he]
 refine⟨_,rfl,?_⟩
 rw[ob_congr six i e (T:=U) (U:=U++[.nd (q++[b]) none])]
 ·exact ob_le _ _ _ _
 ·intro q' v' c hq
  subst hq
  rw[ix_new hi,if_neg]
  intro h4
  obtain⟨rfl,_⟩:=List.append_inj' h4 rfl
  exact h1 (wt.uniq hc he)
theorem ix_below {U:List Ent} (wt:WT U) {q:List Nat} (h:ix U q=none) (c:Nat):ix U (q++[c])=none:=by
 cases hi:ix U (q++[c])with
 |none=>rfl
 |some k=>
  obtain⟨v,hk⟩:=ix_some hi
  obtain⟨j,v',hj⟩:=wt.pre hk
  exact absurd hj (ix_none h j v')
theorem set_objs (six:Bool) {U:List Ent} {cur:Nat} {q:List Nat} {v v':Option Nat} (hc:U[cur]? =some (.nd q v)) {ob1:AObj}
  (h1:ob1=Ent.ob six (U.set cur (.nd q v')) cur (.nd q v')) (i:Nat) (o':AObj)
  (ho:(obs six (U.set cur (.nd q v')))[i]? =some o'):∃ob,look ((cur,ob1)::enumL 0 (obs six U)) i=some ob∧ob.le o':=by
 subst h1
 rw[obs_get,List.getElem?_set,Option.map_eq_some_iff]at ho
 obtain⟨e,he,rfl⟩:=ho
 simp only[look,look_enum0,obs_get]
 by_cases h1:cur=i
 ·subst h1
  rw[if_pos rfl,if_pos (List.getElem?_eq_some_iff.1 hc).1]at he
  cases he
  rw[if_pos rfl]
  exact⟨_,rfl,ob_le _ _ _ _⟩
 rw[if_neg h1]at he⊢
 rw[he]
 refine⟨_,rfl,?_⟩
 rw[ob_congr six i e (T:=U) (U:=U.set cur (.nd q v'))]
 ·exact ob_le _ _ _ _
 ·intro q' v' c hq
  exact(ix_set hc _).symm
structure PutI (six:Bool) (T0:List Ent) (p:Pfx) (r:Route) (bs:List Nat) (g:Nat×List Ent×Nat):Prop where
 wt:WT g.2.1
 le:g.1≤bs.length
 cur:∃v,g.2.1[g.2.2]? =some (.nd (bs.take g.1) v)
 way:walkT g.2.1 g.2.2 (bs.take g.1) (bs.drop g.1)=walkT (T0++[.pb p,.rt r]) 0 [] bs
 pb:g.2.1[T0.length]? =some (.pb p)
 rt:g.2.1[T0.length+1]? =some (.rt r)
theorem put_spec (six:Bool) (T:List Ent) (p:Pfx) (r:Route) (hT:WT T) (hw:p.addr.wf) (h0:0≤p.len) (h1:p.len≤wideN six):
  FSpec Tryz.prog 381 [.ptr 0 0,p.av,r.av] (obs six T) (.tup []) (obs six (putT six T p r)):=by
 have hW:wideN six≤128:=by cases six<;>decide
 refine FSpec.of_o (q:=[(5,.n 11)]) Tryz.func381 (by kernel_rfl) rfl Tryz.ntmps381 Tryz.results381 hP (by kernel_rfl) (by simp) (by first|rfl|simp) ?_
 simp[look_enum0]
 have hbl:(bitsN six p.addr p.len.toNat).length=p.len.toNat:=by simp[bitsN]
 refine LoopK.os (fun g:Nat×List Ent×Nat=>[(0,.ptr 0 0),(4,.ptr T.length 0),(5,.ptr (T.length+1) 0),(6,.ptr g.2.2 (offT g.2.2)),(13,.int .i64 p.len),(14,.int .i64 g.1)])
  (fun g=>obs six g.2.1) (PutI six T p r (bitsN six p.addr p.len.toNat)) (fun g=>p.len.toNat-g.1) (0,T++[.pb p,.rt r],0) (List.range (T.length+1+1)) ?_ ?_ ?_
 ·obtain⟨v,hv⟩:=(hT.vals p r).root
  exact⟨hT.vals p r,Nat.zero_le _,⟨v,by simpa using hv⟩,by simp,by simp,by simp⟩
 ·refine EntO.same ?_ ?_ ?_ fun i o' ho=>?_
  ·simp
  ·omega
  ·simp[offT]
  exact vals_objs six T p r i o' ho
 rintro⟨k,U,cur⟩ ⟨wt,le,⟨v,hc⟩,way,hpb,hrt⟩
 simp only[hbl]at le wt hc way hpb hrt
 have op:look (enumL 0 (obs six U)) T.length=some (.box 74 [.bool p.six,.int .u64 p.addr.hi,.int .u64 p.addr.lo,.int .i64 p.len]):=by rw[look_enum0,obs_get,hpb];rfl
 obtain⟨v0,hv0⟩:=wt.root
 have o0:look (enumL 0 (obs six U)) 0=some (.box 475 (.bool six::ndCells U [] v0)):=by rw[look_enum0,obs_get,hv0];rfl
 have oc:look (enumL 0 (obs six U)) cur=some (Ent.ob six U cur (.nd ((bitsN six p.addr p.len.toNat).take k) v)):=by rw[look_enum0,obs_get,hc];rfl
 have hTU:T.length+1<U.length:=(List.getElem?_eq_some_iff.1 hrt).1
 have hcU:cur<U.length:=(List.getElem?_eq_some_iff.1 hc).1
 by_cases hlt:k<p.len.toNat
 ·have e1:(k:Int)<p.len:=by omega
  have e2:IntKind.i64.wrap (k+1)=(k+1:Nat):=wrap64 (by omega) (by omega)
  simp[e1,op,o0]
  first|refine CallK.same (bit_spec six p.addr hw k (by omega)) rfl rfl ?_|refine CallQ.same (bit_spec six p.addr hw k (by omega)) rfl rfl ?_|refine CallQG.same _ (bit_spec six p.addr hw k (by omega)) rfl ?_|refine CallG.same _ (bit_spec six p.addr hw k (by omega)) rfl ?_|refine CallK.pv (bit_spec six p.addr hw k (by omega)) rfl rfl ?_
  have hb:=bitN_lt (wideN six) p.addr.num k
  have ht1:=bitsN_take six p.addr p.len.toNat k hlt
  have ht2:=bitsN_take' six p.addr p.len.toNat k hlt
  rw[ht1,walkT,ht2]at way
  have hwt:=stepT_wt wt (b:=bitN (wideN six) p.addr.num k) hc
  rw[ht2]at hwt
  generalize bitN (wideN six) p.addr.num k=b at*
  rw[←ht2]at way hwt
  cases hi:ix U ((bitsN six p.addr p.len.toNat).take k++[b])with
  |some k'=>
   have hst:stepT U ((bitsN six p.addr p.len.toNat).take k++[b])=(U,k'):=by unfold stepT;rw[hi]
   rw[hst]at way hwt
   have hI:PutI six T p r (bitsN six p.addr p.len.toNat) (k+1,U,k'):=⟨wt,by rw[hbl];exact hlt,by rw[←ht2];exact hwt.2,by rw[←ht2];exact way,hpb,hrt⟩
   have hk0:offT k'=0:=by
    unfold offT
    rw[if_neg]
    rintro rfl
    obtain⟨v',h3⟩:=hwt.2
    simp only at h3
    rw[hv0]at h3
    simp at h3
   rcases(by omega:b=0∨b=1)with rfl|rfl<;>by_cases hc0:cur=0
   all_goals
    simp[Ent.ob,ndCells,hi,ptrO,hc0]at oc
    simp[oc,op,o0,offT,hc0,e2]
    refine Again.os (k+1,U,k') (List.range U.length) hI (by simp only;omega) (EntO.same ?_ ?_ ?_ fun i o' ho=>?_)
    ·simp
    ·omega
    ·have:=hk0
     unfold offT at this
     simp[this]
    ·rw[obs_get]at ho
     rw[look_enum0,obs_get]
     rw[Option.map_eq_some_iff]at ho
     obtain⟨e,he,rfl⟩:=ho
     exact⟨_,by rw[he];rfl,ob_le _ _ _ _⟩
  |none=>
   have hst:stepT U ((bitsN six p.addr p.len.toNat).take k++[b])=(U++[.nd ((bitsN six p.addr p.len.toNat).take k++[b]) none],U.length):=by unfold stepT;rw[hi]
   rw[hst]at way hwt
   have hI:PutI six T p r (bitsN six p.addr p.len.toNat) (k+1,U++[.nd ((bitsN six p.addr p.len.toNat).take k++[b]) none],U.length):=⟨hwt.1,by rw[hbl];exact hlt,by rw[←ht2];exact hwt.2,by rw[←ht2];exact way,get_left hpb,get_left hrt⟩
   have hU:U≠[]:=by rintro rfl;simp at hcU
   have hUc:¬U.length=cur:=by omega
   have hn0:=ix_below wt hi 0
   have hn1:=ix_below wt hi 1
   rcases(by omega:b=0∨b=1)with rfl|rfl<;>by_cases hc0:cur=0
   all_goals
    simp[Ent.ob,ndCells,hi,ptrO,hc0]at oc
    simp[oc,op,o0,offT,hc0,e2,hU,hUc]
    refine Again.os (k+1,_,U.length) (List.range (U.length+1)) hI (by simp only;omega) (EntO.same ?_ ?_ ?_ fun i o' ho=>?_)
    ·simp
    ·omega
    ·simp[hU]
    ·have hcc:=hc
     first|rw[hc0]at hcc|skip
     refine new_objs six wt hcc hi ?_ ?_ i o' ho
     ·simp[Ent.ob,ndCells,ix_new hi,ptrO,hc0]
     ·simp[Ent.ob,ndCells,ix_new hi,ptrO,hU]
      simp at hn0 hn1
      simp[hn0,hn1]
 ·have hkk:k=p.len.toNat:=by omega
  have e1:¬(k:Int)<p.len:=by omega
  have htk:(bitsN six p.addr p.len.toNat).take k=bitsN six p.addr p.len.toNat:=List.take_of_length_le (by omega)
  have hdk:(bitsN six p.addr p.len.toNat).drop k=[]:=List.drop_of_length_le (by omega)
  rw[htk]at hc oc way
  rw[hdk,walkT]at way
  have hput:putT six T p r=U.set cur (.nd (bitsN six p.addr p.len.toNat) (some (T.length+1))):=by
   unfold putT setT
   rw[←way]
  by_cases hc0:cur=0
  all_goals
   simp[Ent.ob,ndCells,ptrO,hc0]at oc
   simp[e1,oc,offT,hc0]
   refine EndO.normal [] (List.range U.length) _ rfl (EntO.same ?_ ?_ ?_ fun i o' ho=>?_)
   ·simp[hput]
   ·simp;omega
   ·simp
   ·have hcc:=hc
    first|rw[hc0]at hcc hput|skip
    rw[hput]at ho
    refine set_objs six hcc ?_ i o' ho
    simp[Ent.ob,ndCells,ix_set hcc,ptrO,hc0]
end Go.Am
namespace Go.Am
open Go.Proofs
def valT (T:List Ent) (q:List Nat):Option Route:=
 match ix T q with
 |none=>none
 |some k=>match T[k]? with
  |some (.nd _ (some j))=>match T[j]? with
   |some (.rt r)=>some r
   |_=>none
  |_=>none
structure Ext (U V:List Ent):Prop where
 old:∀{i:Nat} {e:Ent},U[i]? =some e→V[i]? =some e
 new:∀{i:Nat} {e:Ent},U.length≤i→V[i]? =some e→∀q v,e=.nd q v→v=none
theorem Ext.refl (U:List Ent):Ext U U:=⟨fun h=>h,fun h1 h2=>by rw[List.getElem?_eq_none (by omega)]at h2;cases h2⟩
theorem Ext.trans {U V W:List Ent} (h1:Ext U V) (h2:Ext V W):Ext U W:=by
 refine⟨fun h=>h2.old (h1.old h),fun{i e} hi he=>?_⟩
 rcases Nat.lt_or_ge i V.length with h|h
 ·have h3:=h2.old (List.getElem?_eq_getElem h)
  rw[he]at h3
  cases h3
  exact h1.new hi (List.getElem?_eq_getElem h)
 ·exact h2.new h he
theorem Ext.push (U:List Ent) (q:List Nat):Ext U (U++[.nd q none]):=by
 refine⟨get_left,fun{i e} hi he=>?_⟩
 rw[get_push1,if_neg (by omega)]at he
 split at he
 ·cases he
  intro q v e;cases e;rfl
 ·cases he
theorem Ext.vals (U:List Ent) (p:Pfx) (r:Route):Ext U (U++[.pb p,.rt r]):=by
 refine⟨get_left,fun{i e} hi he=>?_⟩
 rw[get_push2,if_neg (by omega)]at he
 split at he
 ·cases he
  intro q v e;cases e
 ·split at he
  ·cases he
   intro q v e;cases e
  ·cases he
theorem valT_ext {U V:List Ent} (hU:WT U) (hV:WT V) (h:Ext U V) (q:List Nat):valT V q=valT U q:=by
 unfold valT
 cases hi:ix U q with
 |some k=>
  obtain⟨v,hk⟩:=ix_some hi
  rw[hV.ix (h.old hk)]
  simp only[hk,h.old hk]
  cases v with
  |none=>rfl
  |some j=>
   obtain⟨r,hr⟩:=hU.val hk
   simp only[hr,h.old hr]
 |none=>
  cases hj:ix V q with
  |none=>rfl
  |some k=>
   obtain⟨v,hk⟩:=ix_some hj
   have hk':U.length≤k:=by
    apply Classical.byContradiction
    intro hc
    have h3:=h.old (List.getElem?_eq_getElem (l:=U) (show k<U.length by omega))
    rw[hk]at h3
    have h3:=Option.some.inj h3
    exact ix_none hi k v (by rw[h3];exact List.getElem?_eq_getElem _)
   have:=h.new hk' hk q v rfl
   subst this
   simp only[hk]
theorem stepT_ext (T:List Ent) (q:List Nat):Ext T (stepT T q).1:=by
 unfold stepT
 split
 ·exact Ext.refl _
 ·exact Ext.push _ _
theorem walkT_wt:∀(l:List Nat) {T:List Ent} {cur:Nat} {q:List Nat} {v:Option Nat},WT T→T[cur]? =some (.nd q v)→
  WT (walkT T cur q l).1∧(∃v',(walkT T cur q l).1[(walkT T cur q l).2]? =some (.nd (q++l) v'))∧Ext T (walkT T cur q l).1
 |[],T,cur,q,v,h,hc=>⟨h,⟨v,by simpa [walkT]using hc⟩,Ext.refl _⟩
 |b::l,T,cur,q,v,h,hc=>by
  obtain⟨h1,v1,h2⟩:=stepT_wt h (b:=b) hc
  obtain⟨g1,⟨v2,g2⟩,g3⟩:=walkT_wt l h1 h2
  refine⟨g1,⟨v2,?_⟩,(stepT_ext _ _).trans g3⟩
  simpa [walkT]using g2
theorem putT_wt {six:Bool} {T:List Ent} {p:Pfx} {r:Route} (hT:WT T):WT (putT six T p r)∧∀q,valT (putT six T p r) q=if q=bitsN six p.addr p.len.toNat then some r else valT T q:=by
 unfold putT setT
 generalize bitsN six p.addr p.len.toNat=bs
 have h1:=hT.vals p r
 obtain⟨v,hv⟩:=h1.root
 obtain⟨g1,⟨v2,g2⟩,g3⟩:=walkT_wt bs h1 hv
 have hr:=g3.old (show(T++[.pb p,.rt r])[T.length+1]? =some (.rt r)by simp)
 generalize walkT (T++[.pb p,.rt r]) 0 [] bs=x at*
 obtain⟨U,cur⟩:=x
 simp only[List.nil_append]at g1 g2 g3 hr⊢
 have hw:=g1.set g2 hr
 refine⟨hw,fun q=>?_⟩
 have hold:valT U q=valT T q:=(valT_ext h1 g1 g3 q).trans (valT_ext hT h1 (Ext.vals T p r) q)
 have hlt:=(List.getElem?_eq_some_iff.1 g2).1
 have hne:∀(j:Nat) (r':Route),U[j]? =some (.rt r')→(U.set cur (.nd bs (some (T.length+1))))[j]? =some (.rt r'):=by
  intro j r' hj
  rw[List.getElem?_set,if_neg]
  ·exact hj
  ·rintro rfl;rw[g2]at hj;cases hj
 by_cases e:q=bs
 ·subst e
  rw[if_pos rfl]
  unfold valT
  rw[ix_set g2,g1.ix g2]
  simp only[List.getElem?_set,if_pos,hlt]
  rw[if_neg]
  ·rw[hr]
  ·rintro rfl;rw[g2]at hr;cases hr
 ·rw[if_neg e,←hold]
  unfold valT
  rw[ix_set g2]
  cases hi:ix U q with
  |none=>rfl
  |some k=>
   obtain⟨v3,hk⟩:=ix_some hi
   have hkc:cur≠k:=by
    rintro rfl
    rw[g2]at hk
    simp at hk
    exact e hk.1.symm
   simp only[List.getElem?_set,hkc,if_false,hk]
   cases v3 with
   |none=>rfl
   |some j=>
    obtain⟨r',hr'⟩:=g1.val hk
    have:=hne j r' hr'
    rw[List.getElem?_set,hr']at this
    simp only[hr',this]
theorem WT.one:WT [.nd [] none]:=by
 refine⟨⟨none,rfl⟩,?_,?_,?_⟩
 ·intro i j p v v' h1 h2
  have h3:=(List.getElem?_eq_some_iff.1 h1).1
  have h4:=(List.getElem?_eq_some_iff.1 h2).1
  simp at h3 h4;omega
 ·intro i p b v h1
  have h3:=(List.getElem?_eq_some_iff.1 h1).1
  simp at h3
  subst h3
  simp at h1
 ·intro i p j h1
  have h3:=(List.getElem?_eq_some_iff.1 h1).1
  simp at h3
  subst h3
  simp at h1
end Go.Am
namespace Go.Am
open Go.Proofs
def ofT (six:Bool):List Route→List Ent→List Ent
 |[],T=>T
 |r::l,T=>ofT six l (if r.pfx.six=six then putT six (T++[.rt r]) r.pfx r else T++[.rt r])
theorem WT.rt1 {T:List Ent} (h:WT T) (r:Route):WT (T++[.rt r]):=by
 have hg:∀{i:Nat} {q:List Nat} {v:Option Nat},(T++[Ent.rt r])[i]? =some (.nd q v)↔T[i]? =some (.nd q v):=by
  intro i q v
  rw[get_push1]
  by_cases h1:i<T.length
  ·simp[h1]
  ·rw[if_neg h1,List.getElem?_eq_none (l:=T) (by omega)]
   split<;>simp
 refine⟨?_,?_,?_,?_⟩
 ·obtain⟨v,hv⟩:=h.root
  exact⟨v,hg.2 hv⟩
 ·intro i j q v v' h1 h2
  exact h.uniq (hg.1 h1) (hg.1 h2)
 ·intro i q b v h1
  obtain⟨j,v',h2⟩:=h.pre (hg.1 h1)
  exact⟨j,v',hg.2 h2⟩
 ·intro i q j h1
  obtain⟨r',h2⟩:=h.val (hg.1 h1)
  exact⟨r',get_left h2⟩
theorem Ext.rt1 (U:List Ent) (r:Route):Ext U (U++[.rt r]):=by
 refine⟨get_left,fun{i e} hi he=>?_⟩
 rw[get_push1,if_neg (by omega)]at he
 split at he
 ·cases he
  intro q v e;cases e
 ·cases he
def lastV (six:Bool) (q:List Nat):List Route→Option Route→Option Route
 |[],x=>x
 |r::l,x=>lastV six q l (if r.pfx.six=six∧q=bitsN six r.pfx.addr r.pfx.len.toNat then some r else x)
theorem ofT_wt (six:Bool):∀(l:List Route) {T:List Ent},WT T→WT (ofT six l T)∧∀q,valT (ofT six l T) q=lastV six q l (valT T q)
 |[],T,h=>⟨h,fun _=>rfl⟩
 |r::l,T,h=>by
  unfold ofT
  by_cases hs:r.pfx.six=six
  ·rw[if_pos hs]
   obtain⟨h1,h2⟩:=putT_wt (six:=six) (p:=r.pfx) (r:=r) (h.rt1 r)
   obtain⟨g1,g2⟩:=ofT_wt six l h1
   refine⟨g1,fun q=>?_⟩
   rw[g2 q,h2 q,valT_ext h (h.rt1 r) (Ext.rt1 T r)]
   simp[lastV,hs]
  ·rw[if_neg hs]
   obtain⟨g1,g2⟩:=ofT_wt six l (h.rt1 r)
   refine⟨g1,fun q=>?_⟩
   rw[g2 q,valT_ext h (h.rt1 r) (Ext.rt1 T r)]
   simp[lastV,hs]
theorem Ext.len {U V:List Ent} (h:Ext U V):U.length≤V.length:=by
 apply Classical.byContradiction
 intro hc
 have h1:=h.old (List.getElem?_eq_getElem (l:=U) (show U.length-1<U.length by omega))
 have:=(List.getElem?_eq_some_iff.1 h1).1
 omega
theorem putT_len {six:Bool} {T:List Ent} {p:Pfx} {r:Route} (hT:WT T):T.length≤(putT six T p r).length:=by
 unfold putT setT
 obtain⟨v,hv⟩:=(hT.vals p r).root
 have h1:=(walkT_wt (bitsN six p.addr p.len.toNat) (hT.vals p r) hv).2.2.len
 simp at h1⊢
 omega
theorem rt_objs (six:Bool) (T:List Ent) (r:Route) {ob1 ob2:AObj} (h1:ob1=Ent.ob six T 0 (.rt r)) (i:Nat) (o':AObj) (ho:(obs six (T++[.rt r]))[i]? =some o'):
  ∃ob,look ((T.length,ob1)::(T.length,ob2)::enumL 0 (obs six T)) i=some ob∧ob.le o':=by
 subst h1
 rw[obs_get,get_push1,Option.map_eq_some_iff]at ho
 obtain⟨e,he,rfl⟩:=ho
 have hcg:Ent.ob six (T++[.rt r]) i e=Ent.ob six T i e:=ob_congr six i e fun q v b _=>by
  rw[ix_append]
  cases ix T (q++[b])<;>simp[ix,Ent.isAt]
 rw[hcg]
 simp only[look,look_enum0,obs_get]
 by_cases h2:T.length=i
 ·subst h2
  simp at he
  subst he
  rw[if_pos rfl]
  exact⟨_,rfl,ob_le six T 0 (.rt r)⟩
 rw[if_neg h2,if_neg h2]
 have h3:i<T.length:=by
  apply Classical.byContradiction
  intro h3
  rw[if_neg h3,if_neg (by omega)]at he
  cases he
 rw[if_pos h3]at he
 rw[he]
 exact⟨_,rfl,ob_le _ _ _ _⟩
theorem of_spec (l:List Route) (six:Bool) (hw:∀r∈l,r.pfx.addr.wf∧0≤r.pfx.len∧r.pfx.len≤wideN r.pfx.six):
  FSpec Tryz.prog 324 [.im (.sl 6 (l.map Route.iv)),.bool six] [] (.ptr 0 0) (obs six (ofT six l [.nd [] none])):=by
 refine FSpec.bd (enters_of Tryz.func324 (by kernel_rfl) rfl) fun hbd=>?_
 have hl:l.length≤9223372036854775807:=by simp[maxLen]at hbd;exact hbd
 refine FSpec.of_o (q:=[]) Tryz.func324 (by kernel_rfl) rfl Tryz.ntmps324 Tryz.results324 hP (by kernel_rfl) (by simp) (by first|rfl|simp) ?_
 simp
 have hobs0:obs six [.nd [] none]=[.box 475 [.bool six,.im (.sc (.pointer none)),.im (.sc (.pointer none)),.im (.sc (.pointer none))]]:=by
  simp[obs,Ent.ob,ndCells,ptrO,ix,Ent.isAt]
 refine LoopK.os (fun g:Nat×List Ent=>[(1,.bool six),(5,.ptr 0 0),(11,.im (.sl 6 (l.map Route.iv))),(12,.int .i64 l.length),(13,.int .i64 g.1)])
  (fun g=>obs six g.2) (fun g=>WT g.2∧g.1≤l.length∧ofT six (l.drop g.1) g.2=ofT six l [.nd [] none]) (fun g=>l.length-g.1) (0,[.nd [] none]) [0] ⟨WT.one,Nat.zero_le _,by simp⟩ ?_ ?_
 ·simp[hobs0]
 rintro⟨k,T⟩ ⟨wt,hk,hR⟩
 simp only at wt hk hR
 by_cases hlt:k<l.length
 ·have e1:IntKind.i64.wrap (k+1)=(k+1:Nat):=wrap64 (by omega) (by omega)
  have hmem:=List.getElem_mem hlt
  rw[List.drop_eq_getElem_cons hlt]at hR
  simp[hlt]
  generalize l[k]=r at*
  obtain⟨w1,w2,w3⟩:=hw r hmem
  have hlen:=putT_len (six:=six) (p:=r.pfx) (r:=r) (wt.rt1 r)
  simp at hlen
  refine⟨fun hs=>?_,fun hs=>?_⟩
  ·rw[hs]at w3
   refine CallO.same (put_spec six (T++[.rt r]) r.pfx r (wt.rt1 r) w1 w2 w3) ?_ ?_ (rt_objs six T r rfl) ?_ ?_
   ·simp
   ·simp;omega
   ·simp
   ·simp[e1]
    refine Again.os (k+1,putT six (T++[.rt r]) r.pfx r) (List.range (putT six (T++[.rt r]) r.pfx r).length) ⟨(putT_wt (wt.rt1 r)).1,hlt,?_⟩ (by simp only;omega) (EntO.same ?_ ?_ ?_ fun i o' ho=>?_)
    ·rw[←hR,ofT,if_pos hs]
    ·simp
    ·omega
    ·simp
    ·have hi:=(List.getElem?_eq_some_iff.1 ho).1
     refine⟨o',?_,?_⟩
     ·rw[look_enum_app,if_pos hi];exact ho
     ·rw[obs_get,Option.map_eq_some_iff]at ho
      obtain⟨e,he,rfl⟩:=ho
      exact ob_le _ _ _ _
  ·simp[e1]
   refine Again.os (k+1,T++[.rt r]) (List.range (T.length+1)) ⟨wt.rt1 r,hlt,?_⟩ (by simp only;omega) (EntO.same ?_ ?_ ?_ (rt_objs six T r rfl))
   ·rw[←hR,ofT,if_neg hs]
   ·simp
   ·omega
   ·simp
 ·have:k=l.length:=by omega
  subst this
  simp at hR
  simp
  refine EndO.ret [] (List.range T.length) _ rfl (EntO.same ?_ ?_ ?_ fun i o' ho=>?_)
  ·simp[←hR,ofT]
  ·omega
  ·simp
  ·refine⟨o',?_,?_⟩
   ·rw[←hR,ofT]at ho
    exact look_enum0.trans ho
   ·rw[obs_get,Option.map_eq_some_iff]at ho
    obtain⟨e,he,rfl⟩:=ho
    exact ob_le _ _ _ _
end Go.Am
namespace Go.Am
open Go.Proofs
theorem along_spec (a:Addr4) (ins:List AObj) (h0:0<ins.length) (hs:ins.all AObj.noSv=true) (hle:∀o∈ins,o.le o):
  FSpec Tryz.prog 382 [.ptr 0 0,a.av] ins (.fn 416 [.ptr ins.length 0,.ptr (ins.length+1) 0])
   (ins++[.box 421 [.ptr 0 0],.box 31 [.int .u64 a.hi,.int .u64 a.lo]]):=by
 have hs2:(ins++[AObj.box 421 [.ptr 0 0],.box 31 [.int .u64 a.hi,.int .u64 a.lo]]).all AObj.noSv=true:=by
  rw[List.all_append,hs];rfl
 refine FSpec.of_o (q:=[]) Tryz.func382 (by kernel_rfl) rfl Tryz.ntmps382 Tryz.results382 hP (by kernel_rfl) (by simp) hs2 ?_
 simp
 refine EndO.ret [] (List.range (ins.length+2)) _ rfl (EntO.same ?_ ?_ ?_ fun i o' ho=>?_)
 ·simp
 ·simp only[St.freeze];omega
 ·simp only[St.freeze,AV.view];simp
 ·rw[get_push2]at ho
  simp only[St.freeze,look,look_enum0]
  by_cases h1:i<ins.length
  ·rw[if_pos h1]at ho
   rw[if_neg (by omega),if_neg (by omega)]
   exact⟨o',ho,hle o' (List.mem_of_getElem? ho)⟩
  ·rw[if_neg h1]at ho
   by_cases h2:i=ins.length
   ·subst h2
    simp at ho
    subst ho
    rw[if_neg (by omega),if_pos rfl]
    exact⟨_,rfl,rfl,AV.leL_refl _⟩
   ·rw[if_neg h2]at ho
    by_cases h3:i=ins.length+1
    ·subst h3
     simp at ho
     subst ho
     rw[if_pos rfl]
     exact⟨_,rfl,rfl,AV.leL_refl _⟩
    ·rw[if_neg h3]at ho;cases ho
def rcO:Option Route→List AV
 |none=>[.bool false,.int .u64 0,.int .u64 0,.int .i64 0,.int .u8 0,.int .i64 0]
 |some r=>r.iv.map .im
def alongT (T:List Ent):List Nat→List Nat→Option Route→Option Route
 |[],q,x=>if(ix T q).isSome then(valT T q).or x else x
 |b::l,q,x=>if(ix T q).isSome then alongT T l (q++[b]) ((valT T q).or x)else x
def curP:Option Nat→AV
 |none=>.im (.sc (.pointer none))
 |some k=>.ptr k (offT k)
theorem look_at (six:Bool) (T:List Ent) (X:List AObj) (j:Nat):look (enumL 0 (obs six T++X)) (T.length+j)=X[j]?:=by
 rw[look_enum0,List.getElem?_append_right (by simp),obs_length,Nat.add_sub_cancel_left]
theorem look_at0 (six:Bool) (T:List Ent) (X:List AObj):look (enumL 0 (obs six T++X)) T.length=X[0]?:=look_at six T X 0
theorem look_below' (six:Bool) (T:List Ent) (X:List AObj) {i:Nat} (h:i<T.length):look (enumL 0 (obs six T++X)) i=(obs six T)[i]?:=by
 rw[look_enum0,List.getElem?_append_left (by simpa using h)]
@[simp] theorem rcO_length (x:Option Route):(rcO x).length=6:=by cases x<;>rfl
@[simp] theorem rcO_take (x:Option Route):(rcO x).take 6=rcO x:=by cases x<;>rfl
@[simp] theorem rcO_drop (x:Option Route):(rcO x).drop 6=[]:=by cases x<;>rfl
theorem ix_lt {T:List Ent} {q:List Nat} {k:Nat} (h:ix T q=some k):k<T.length:=by
 obtain⟨v,hk⟩:=ix_some h
 exact(List.getElem?_eq_some_iff.1 hk).1
theorem ptrO_ren {ρ:Nat→Nat} {N:Nat} (hρ:∀k,k<N→ρ k=k):∀{v:Option Nat},(∀k,v=some k→k<N)→(ptrO v).ren ρ=ptrO v
 |none,_=>rfl
 |some k,h=>by simp only[ptrO,AV.ren];rw[hρ k (h k rfl)]
theorem ob_ren (six:Bool) {T:List Ent} (hT:WT T) {i:Nat} {e:Ent} (h:T[i]? =some e) {ρ:Nat→Nat} (hρ:∀k,k<T.length→ρ k=k):(Ent.ob six T i e).ren ρ=Ent.ob six T i e:=by
 cases e with
 |nd q v=>
  have hv:(ptrO v).ren ρ=ptrO v:=ptrO_ren hρ fun k hk=>by
   subst hk
   obtain⟨r,hr⟩:=hT.val h
   exact(List.getElem?_eq_some_iff.1 hr).1
  have hx:∀q,(ptrO (ix T q)).ren ρ=ptrO (ix T q):=fun q=>ptrO_ren hρ fun k hk=>ix_lt hk
  simp only[Ent.ob,ndCells]
  split<;>simp only[AObj.ren,AV.renL,hv,hx]<;>rfl
 |rt r=>rfl
 |pb p=>rfl
def tailX (a:Addr4) (x:Option Route) (a0:Go.Act) (fr:List (Nat×AV)) (b:Nat) (rr:Loop):List AObj:=
 [.box 31 [.int .u64 a.hi,.int .u64 a.lo],.box 287 (rcO none),.box 287 (rcO x),.box 4 [.bool x.isSome],.box 421 [.ptr 0 0],.box 31 [.int .u64 a.hi,.int .u64 a.lo],.sv a0 fr,.lp b rr .ready none]
theorem ix_ne0 {T:List Ent} (hT:WT T) {q:List Nat} {b k:Nat} (h:ix T (q++[b])=some k):k≠0:=by
 rintro rfl
 obtain⟨v,hv⟩:=ix_some h
 obtain⟨v0,h0⟩:=hT.root
 rw[h0]at hv
 simp at hv
theorem rcO_ren (ρ:Nat→Nat) (x:Option Route):AV.renL ρ (rcO x)=rcO x:=by cases x<;>rfl
theorem tail_ent (six:Bool) {T:List Ent} (hT:WT T) (hT0:0<T.length) {a:Addr4} {x:Option Route} {a0:Go.Act} {fr:List (Nat×AV)} {b:Nat} {rr:Loop} (hsv:∀ρ:Nat→Nat,(∀k,k<T.length+8→ρ k=k)→(AObj.sv a0 fr).le ((AObj.sv a0 fr).ren ρ))
  {f f':List (Nat×AV)} {o:List (Nat×AObj)} {n:Nat} (hn:T.length+8≤n) (hf:∀ρ:Nat→Nat,(∀i,i<T.length+8→ρ i=i)→∀p∈f',((look f p.1).getD .undef).le (p.2.ren ρ))
  (hlow:∀i,i<T.length→look o i=(obs six T)[i]?)
  (h0:look o T.length=some (.box 31 [.int .u64 a.hi,.int .u64 a.lo])) (h1:look o (T.length+1)=some (.box 287 (rcO none))) (h2:look o (T.length+2)=some (.box 287 (rcO x)))
  (h3:look o (T.length+3)=some (.box 4 [.bool x.isSome])) (h4:look o (T.length+4)=some (.box 421 [.ptr 0 0])) (h5:look o (T.length+5)=some (.box 31 [.int .u64 a.hi,.int .u64 a.lo]))
  (h6:look o (T.length+6)=some (.sv a0 fr)) (h7:look o (T.length+7)=some (.lp b rr .ready none)):
  EntO T.length f o n f' (obs six T++tailX a x a0 fr b rr) (List.range (obs six T++tailX a x a0 fr b rr).length):=by
 have hl:(obs six T++tailX a x a0 fr b rr).length=T.length+8:=by simp[tailX]
 refine EntO.cut (by omega) (by omega) (fun ρ hρ=>hf ρ (by rw[hl]at hρ;exact hρ)) fun ρ hρ i o' ho=>?_
 rw[hl]at hρ
 rw[List.getElem?_append,obs_length]at ho
 by_cases hi:i<T.length
 ·rw[if_pos hi]at ho
  rw[hlow i hi]
  refine⟨o',ho,?_⟩
  rw[obs_get,Option.map_eq_some_iff]at ho
  obtain⟨e,he,rfl⟩:=ho
  rw[ob_ren six hT he (fun k hk=>hρ k (by omega))]
  exact ob_le _ _ _ _
 ·rw[if_neg hi]at ho
  obtain⟨j,rfl⟩:∃j,i=T.length+j:=⟨i-T.length,by omega⟩
  rw[Nat.add_sub_cancel_left]at ho
  have hr0:ρ 0=0:=hρ 0 (by omega)
  unfold tailX at ho
  match j,ho with
  |0,ho=>simp at ho;subst ho;exact⟨_,h0,rfl,AV.leL_refl _⟩
  |1,ho=>simp at ho;subst ho;exact⟨_,h1,rfl,by rw[rcO_ren];exact AV.leL_refl _⟩
  |2,ho=>simp at ho;subst ho;exact⟨_,h2,rfl,by rw[rcO_ren];exact AV.leL_refl _⟩
  |3,ho=>simp at ho;subst ho;exact⟨_,h3,rfl,AV.leL_refl _⟩
  |4,ho=>simp at ho;subst ho;refine⟨_,h4,rfl,?_⟩;simp[AV.renL,AV.ren,hr0]
  |5,ho=>simp at ho;subst ho;exact⟨_,h5,rfl,AV.leL_refl _⟩
  |6,ho=>simp at ho;subst ho;exact⟨_,h6,hsv ρ hρ⟩
  |7,ho=>simp at ho;subst ho;exact⟨_,h7,rfl,rfl,rfl,rfl⟩
  |j+8,ho=>simp at ho
def valR (T:List Ent):Option Nat:=(T[0]?).elim none fun e=>match e with
 |.nd _ v=>v
 |_=>none
theorem rootE {T:List Ent} (hT:WT T):T[0]? =some (Ent.nd [] (valR T)):=by
 obtain⟨v,hv⟩:=hT.root
 unfold valR
 rw[hv];rfl
theorem endRd_normal {a:Go.Act} {b:Nat} {r:Loop} {szI:Nat} {k:Bool→St→Prop} {f:List (Nat×AV)} {o:List (Nat×AObj)} {n sz:Nat} {g:Option Bool} {frI:List (Nat×AV)} (n3 n2:Nat) (h3:look o n3=some (.sv a frI)) (h2:look o n2=some (.lp b r .busy none))
  (hk:k true ⟨frI,(n2,.lp b r .ready none)::o,n,szI,g⟩):endRd a b r szI k .normal ⟨f,o,n,sz,g⟩:=
 ⟨n3,frI,n2,h3,h2,hk⟩
set_option maxHeartbeats 4000000 in
theorem longest_spec (six:Bool) (T:List Ent) (a:Addr4) (hT:WT T) (hw:a.wf):
  FSpec Tryz.prog 325 [.ptr 0 0,a.av] (obs six T)
   (.tup [.agg (rcO (alongT T (bitsN six a (wideN six)) [] none)),.bool (alongT T (bitsN six a (wideN six)) [] none).isSome]) (obs six T):=by
 have hT0:0<T.length:=by obtain⟨v,hv⟩:=hT.root;exact(List.getElem?_eq_some_iff.1 hv).1
 refine FSpec.of_o (q:=[(6,.m [.p [] [],.p [1] [],.e [4,14]])]) Tryz.func325 (by kernel_rfl) rfl Tryz.ntmps325 Tryz.results325 hP (by kernel_rfl) (by simp) (by first|rfl|simp) ?_
 simp[Nat.add_assoc]
 obtain⟨X,hX⟩:∃X:List AObj,X=[.box 31 [.int .u64 a.hi,.int .u64 a.lo],.box 287 (rcO none),.box 287 (rcO none),.box 4 [.bool false]]:=⟨_,rfl⟩
 have hXl:X.length=4:=by rw[hX];rfl
 have hle:∀o∈obs six T++X,o.le o:=by
  intro o ho
  rw[List.mem_append]at ho
  rcases ho with ho|ho
  ·obtain⟨i,hi⟩:=List.mem_iff_getElem?.1 ho
   rw[obs_get,Option.map_eq_some_iff]at hi
   obtain⟨e,he,rfl⟩:=hi
   exact ob_le _ _ _ _
  ·rw[hX]at ho
   simp only[List.mem_cons,List.not_mem_nil,or_false]at ho
   rcases ho with rfl|rfl|rfl|rfl<;>exact⟨rfl,AV.leL_refl _⟩
 refine CallO.same (along_spec a (obs six T++X) (by simp;omega) (by rw[List.all_append,obs_noSv,hX];rfl) hle) ?_ ?_ ?_ ?_ ?_
 ·simp[hXl]
 ·simp
 ·intro i o' ho
  have hm:=hle o' (List.mem_of_getElem? ho)
  rw[List.getElem?_append]at ho
  simp only[obs_length]at ho
  simp only[look,look_enum0]
  by_cases h1:i<T.length
  ·rw[if_pos h1]at ho
   rw[if_neg (by omega),if_neg (by omega),if_neg (by omega),if_neg (by omega),if_neg (by omega)]
   exact⟨o',ho,hm⟩
  ·rw[if_neg h1,hX]at ho
   obtain⟨j,hj⟩:∃j,j=i-T.length:=⟨_,rfl⟩
   rw[←hj]at ho
   match j with
   |0=>simp at ho;subst ho;rw[if_neg (by omega),if_neg (by omega),if_neg (by omega),if_neg (by omega),if_pos (by omega)];exact⟨_,rfl,hm⟩
   |1=>simp at ho;subst ho;rw[if_neg (by omega),if_neg (by omega),if_neg (by omega),if_pos (by omega)];exact⟨_,rfl,hm⟩
   |2=>simp at ho;subst ho;rw[if_neg (by omega),if_neg (by omega),if_pos (by omega)];exact⟨_,rfl,hm⟩
   |3=>simp at ho;subst ho;rw[if_pos (by omega)];exact⟨_,rfl,hm⟩
   |j+4=>simp at ho
 ·simp
 ·simp[Nat.add_assoc,hXl]
  subst hX
  simp only[rangeK,St.ev,St.get,St.raw,look]
  simp only[Option.getD_some,if_true]
  intro a0 b rr
  refine⟨_,_,_,[(6,.n 10)],Tryz.func416,(by kernel_rfl),rfl,Tryz.ntmps416,Tryz.results416,(by kernel_rfl),(by simp),?_⟩
  simp[Nat.add_assoc]
  generalize hfr:[(11,AV.fn 416 [AV.ptr (T.length+4) 0,AV.ptr (T.length+5) 0]),_,_,_,_,_,_,_,_,_]=fr
  generalize hD:doneK a0 b rr 16 _=D
  have hdone:∀(f:List (Nat×AV)) (o:List (Nat×AObj)) (n sz:Nat) (y:Option Route),y=alongT T (bitsN six a (wideN six)) [] none→T.length+8≤n→look o (T.length+6)=some (.sv a0 fr)→look o (T.length+7)=some (.lp b rr .ready none)→
    look o (T.length+1)=some (.box 287 (rcO none))→look o (T.length+2)=some (.box 287 (rcO y))→look o (T.length+3)=some (.box 4 [.bool y.isSome])→(∀i,i<T.length→look o i=(obs six T)[i]?)→D ⟨f,o,n,sz,none⟩:=by
   intro f o n sz y hy hn h6 h7 h1 h2 h3 h0
   rw[←hD,←hy]
   refine⟨T.length+6,fr,T.length+7,.ready,none,h6,h7,.inl rfl,?_⟩
   have fin:∀(st:St),st.objs=(T.length+1,AObj.box 287 (rcO y))::(T.length+7,.lp b rr .exhausted none)::o→st.next=n→retVal Tryz.prog st [.cell 4 287,.tmp 5]=some (.tup [.agg (rcO y),.bool y.isSome])→
     EndO Tryz.prog T.length [.cell 4 287,.tmp 5] (.tup [.agg (rcO y),.bool y.isSome]) (obs six T) .ret st:=by
    intro st e1 e2 e3
    refine EndO.ret [] (List.range (obs six T).length) _ e3 (EntO.cut ?_ ?_ ?_ ?_)
    ·simp only[St.freeze,obs_length];omega
    ·simp
    ·intro ρ hρ
     cases y<;>simp[rcO]
    ·intro ρ hρ i o' ho
     have hi:i<T.length:=by have:=(List.getElem?_eq_some_iff.1 ho).1;simpa using this
     simp only[St.freeze,e1,look]
     rw[if_neg (by omega),if_neg (by omega),h0 i hi]
     refine⟨o',ho,?_⟩
     rw[obs_get,Option.map_eq_some_iff]at ho
     obtain⟨e,he,rfl⟩:=ho
     rw[ob_ren six hT he (by simpa using hρ)]
     exact ob_le _ _ _ _
   cases y with
   |none=>
    simp[rcO]at h1 h2 h3
    simp[pendK,←hfr,rcO,h1,h2,h3]
    refine fin _ rfl rfl ?_
    simp[rcO]
   |some r=>
    simp[rcO]at h1 h2 h3
    simp[pendK,←hfr,rcO,h1,h2,h3]
    refine fin _ rfl rfl ?_
    simp[rcO]
  have hsv:∀ρ:Nat→Nat,(∀k,k<T.length+8→ρ k=k)→(AObj.sv a0 fr).le ((AObj.sv a0 fr).ren ρ):=by
   intro ρ hρ
   have r0:=hρ 0 (by omega)
   have r1:=hρ T.length (by omega)
   have r2:=hρ (T.length+1) (by omega)
   have r3:=hρ (T.length+2) (by omega)
   have r4:=hρ (T.length+3) (by omega)
   have r5:=hρ (T.length+4) (by omega)
   have r6:=hρ (T.length+5) (by omega)
   simp[←hfr,renM,r0,r1,r2,r3,r4,r5,r6]
  refine LoopK.os (fun g:Nat×Option Route=>[(0,.yld (T.length+7)),(1,.ptr (T.length+4) 0),(2,.ptr (T.length+5) 0),(4,curP (ix T ((bitsN six a (wideN six)).take g.1))),(5,.int .i64 g.1)])
   (fun g=>obs six T++tailX a g.2 a0 fr b rr)
   (fun g=>g.1≤wideN six∧alongT T ((bitsN six a (wideN six)).drop g.1) ((bitsN six a (wideN six)).take g.1) g.2=alongT T (bitsN six a (wideN six)) [] none)
   (fun g=>wideN six+1-g.1) (0,none) (List.range (obs six T++tailX a none a0 fr b rr).length) ⟨Nat.zero_le _,by simp⟩ ?_ ?_
  ·refine tail_ent six hT hT0 hsv ?_ ?_ ?_ ?_ ?_ ?_ ?_ ?_ ?_ ?_ ?_
   ·omega
   ·intro ρ hρ
    have r0:=hρ 0 (by omega)
    have r5:=hρ (T.length+4) (by omega)
    have r6:=hρ (T.length+5) (by omega)
    have r7:=hρ (T.length+7) (by omega)
    simp[curP,hT.ix_nil,offT,r0,r5,r6,r7]
   ·intro i hi
    simp only[look]
    rw[if_neg (by omega),if_neg (by omega)]
    simp[look_enum_app]
    rw[if_pos (by omega),List.getElem?_append_left (by simpa using hi)]
   all_goals simp[look_enum_app]
  rintro⟨i,x⟩ ⟨hi,hR⟩
  simp only at hi hR
  have L0:=look_at0 six T (tailX a x a0 fr b rr)
  have L1:=look_at six T (tailX a x a0 fr b rr)
  have Lb:=fun(k:Nat) (h:k<T.length)=>look_below' six T (tailX a x a0 fr b rr) h
  have hlenX:(tailX a x a0 fr b rr).length=8:=rfl
  cases hx:ix T ((bitsN six a (wideN six)).take i)with
  |none=>
   simp[curP,hx]
   have hy:x=alongT T (bitsN six a (wideN six)) [] none:=by
    rw[←hR]
    cases (bitsN six a (wideN six)).drop i<;>simp[alongT,hx]
   refine hdone _ _ _ _ x hy ?_ ?_ ?_ ?_ ?_ ?_ ?_
   ·rw[hlenX];omega
   ·exact L1 6
   ·exact L1 7
   ·exact L1 1
   ·exact L1 2
   ·exact L1 3
   ·exact Lb
  |some k=>
   obtain⟨v,hk⟩:=ix_some hx
   have hkl:=ix_lt hx
   have o0:look (enumL 0 (obs six T++tailX a x a0 fr b rr)) 0=some (Ent.ob six T 0 (.nd [] (valR T))):=by
    rw[Lb 0 hT0,obs_get,rootE hT];rfl
   have ok:look (enumL 0 (obs six T++tailX a x a0 fr b rr)) k=some (Ent.ob six T k (.nd ((bitsN six a (wideN six)).take i) v)):=by
    rw[Lb k hkl,obs_get,hk];rfl
   simp only[Ent.ob,if_true]at o0
   have L4:=L1 4
   have L5:=L1 5
   have L4:look (enumL 0 (obs six T++tailX a x a0 fr b rr)) (T.length+4)=some (.box 421 [.ptr 0 0]):=L4
   have L5:look (enumL 0 (obs six T++tailX a x a0 fr b rr)) (T.length+5)=some (.box 31 [.int .u64 a.hi,.int .u64 a.lo]):=L5
   have hv:valT T ((bitsN six a (wideN six)).take i)=v.bind fun j=>match T[j]? with
     |some (.rt r)=>some r
     |_=>none:=by
    unfold valT
    rw[hx]
    simp only[hk]
    cases v<;>rfl
   have hend:i=wideN six→(valT T ((bitsN six a (wideN six)).take i)).or x=alongT T (bitsN six a (wideN six)) [] none:=by
    intro hi'
    rw[←hR,List.drop_of_length_le (by simp[bitsN];omega),alongT,if_pos (by rw[hx];rfl)]
   have hnext:i<wideN six→alongT T ((bitsN six a (wideN six)).drop (i+1)) ((bitsN six a (wideN six)).take (i+1)) ((valT T ((bitsN six a (wideN six)).take i)).or x)=alongT T (bitsN six a (wideN six)) [] none:=by
    intro hi'
    rw[←hR,bitsN_take six a _ i hi',alongT,if_pos (by rw[hx];rfl),bitsN_take' six a _ i hi']
   have htk:=fun hi'=>bitsN_take' six a (wideN six) i hi'
   have hW:wideN six≤128:=by cases six<;>decide
   have hb:=fun(h:i<wideN six)=>bitN_lt (wideN six) a.num i
   cases v with
   |none=>
    have hx':(valT T ((bitsN six a (wideN six)).take i)).or x=x:=by rw[hv];rfl
    rw[hx']at hend hnext
    by_cases hk0:k=0
    all_goals
     simp only[Ent.ob,hk0,if_true,if_false,ndCells,ptrO]at ok
     simp[curP,hx,offT,ok,L4,L5,o0,hk0]
     first|refine CallK.same (wide_spec six) rfl rfl ?_|refine CallQ.same (wide_spec six) rfl rfl ?_|refine CallQG.same _ (wide_spec six) rfl ?_|refine CallG.same _ (wide_spec six) rfl ?_|refine CallK.pv (wide_spec six) rfl rfl ?_
     simp[wide_N,L4,L5,o0]
     refine⟨fun hi'=>?_,fun hi'=>?_⟩
     ·refine hdone _ _ _ _ x (hend (by omega)) ?_ ?_ ?_ ?_ ?_ ?_ ?_
      ·rw[hlenX];omega
      ·exact L1 6
      ·exact L1 7
      ·exact L1 1
      ·exact L1 2
      ·exact L1 3
      ·exact Lb
     ·have hi':i<wideN six:=by omega
      have e1:IntKind.i64.wrap (i+1)=(i+1:Nat):=wrap64 (by omega) (by omega)
      have htk:=htk hi'
      have hb:=hb hi'
      first|refine CallK.same (bit_spec six a hw i hi') rfl rfl ?_|refine CallQ.same (bit_spec six a hw i hi') rfl rfl ?_|refine CallQG.same _ (bit_spec six a hw i hi') rfl ?_|refine CallG.same _ (bit_spec six a hw i hi') rfl ?_|refine CallK.pv (bit_spec six a hw i hi') rfl rfl ?_
      generalize bitN (wideN six) a.num i=bb at*
      rcases(by omega:bb=0∨bb=1)with rfl|rfl
      all_goals
       simp[ok,e1]
       refine Again.os (i+1,x) (List.range (obs six T++tailX a x a0 fr b rr).length) ⟨hi',hnext hi'⟩ (by simp only;omega) ?_
       refine tail_ent six hT hT0 hsv ?_ ?_ Lb ?_ ?_ ?_ ?_ ?_ ?_ ?_ ?_
       ·rw[hlenX];omega
       ·intro ρ hρ
        have r0:=hρ 0 (by omega)
        have r5:=hρ (T.length+4) (by omega)
        have r6:=hρ (T.length+5) (by omega)
        have r7:=hρ (T.length+7) (by omega)
        rw[←htk]
        cases hix:ix T ((bitsN six a (wideN six)).take i++[_])with
        |none=>simp[r0,r5,r6,r7]
        |some k2=>
         have h9:=ix_ne0 hT hix
         have r8:=hρ k2 (by have:=ix_lt hix;omega)
         simp[r0,r5,r6,r7,r8,h9]
       all_goals first|exact L0|exact L1 _
   |some j=>
    obtain⟨r,hj⟩:=hT.val hk
    have oj:look (enumL 0 (obs six T++tailX a x a0 fr b rr)) j=some (.box 287 (rcO (some r))):=by
     rw[Lb j (List.getElem?_eq_some_iff.1 hj).1,obs_get,hj];rfl
    have hx':(valT T ((bitsN six a (wideN six)).take i)).or x=some r:=by rw[hv];simp[hj]
    rw[hx']at hend hnext
    have L2:look (enumL 0 (obs six T++tailX a x a0 fr b rr)) (T.length+2)=some (.box 287 (rcO x)):=L1 2
    have L3:look (enumL 0 (obs six T++tailX a x a0 fr b rr)) (T.length+3)=some (.box 4 [.bool x.isSome]):=L1 3
    have F6:look fr 6=some (.ptr (T.length+2) 0):=by rw[←hfr];rfl
    have F7:look fr 7=some (.ptr (T.length+3) 0):=by rw[←hfr];rfl
    have L6:look (enumL 0 (obs six T++tailX a x a0 fr b rr)) (T.length+6)=some (.sv a0 fr):=L1 6
    have L7:look (enumL 0 (obs six T++tailX a x a0 fr b rr)) (T.length+7)=some (.lp b rr .ready none):=L1 7
    by_cases hk0:k=0
    all_goals
     simp only[Ent.ob,hk0,if_true,if_false,ndCells,ptrO]at ok
     simp[curP,hx,offT,ok,L4,L5,o0,hk0,oj,rcO]
     refine⟨T.length+6,fr,L6,L7,rfl,fun aI=>?_⟩
     simp[putL,asgK,F6,F7,hlenX,Nat.add_assoc]
     refine⟨T.length+7,by simp[L7],?_⟩
     simp[F6,F7,L2,L3,L7,rcO_length,Nat.add_assoc]
     refine endRd_normal (T.length+8) (T.length+7) (by simp;rfl) (by simp) ?_
     simp[L4,L5,o0]
     first|refine CallK.same (wide_spec six) rfl rfl ?_|refine CallQ.same (wide_spec six) rfl rfl ?_|refine CallQG.same _ (wide_spec six) rfl ?_|refine CallG.same _ (wide_spec six) rfl ?_|refine CallK.pv (wide_spec six) rfl rfl ?_
     simp[wide_N,L4,L5,o0]
     have n2:∀p,p<T.length→¬T.length+2=p:=fun p hp=>by omega
     have n3:∀p,p<T.length→¬T.length+3=p:=fun p hp=>by omega
     have n7:∀p,p<T.length→¬T.length+7=p:=fun p hp=>by omega
     have n8:∀p,p<T.length→¬T.length+8=p:=fun p hp=>by omega
     have n9:∀p,p<T.length→¬T.length+9=p:=fun p hp=>by omega
     refine⟨fun hi'=>?_,fun hi'=>?_⟩
     ·refine hdone _ _ _ _ (some r) (hend (by omega)) ?_ ?_ ?_ ?_ ?_ ?_ ?_
      ·omega
      ·simp[L6]
      ·simp
      ·simp;exact L1 1
      ·simp[rcO]
      ·simp
      ·intro p hp
       simp[n2 p hp,n3 p hp,n7 p hp,n8 p hp,n9 p hp,Lb p hp]
     ·have hi':i<wideN six:=by omega
      have e1:IntKind.i64.wrap (i+1)=(i+1:Nat):=wrap64 (by omega) (by omega)
      have htk:=htk hi'
      have hb:=hb hi'
      have m2:=n2 k hkl
      have m3:=n3 k hkl
      have m7:=n7 k hkl
      have m8:=n8 k hkl
      have m9:=n9 k hkl
      first|refine CallK.same (bit_spec six a hw i hi') rfl rfl ?_|refine CallQ.same (bit_spec six a hw i hi') rfl rfl ?_|refine CallQG.same _ (bit_spec six a hw i hi') rfl ?_|refine CallG.same _ (bit_spec six a hw i hi') rfl ?_|refine CallK.pv (bit_spec six a hw i hi') rfl rfl ?_
      generalize bitN (wideN six) a.num i=bb at*
      rcases(by omega:bb=0∨bb=1)with rfl|rfl
      all_goals
       simp[ok,e1,m2,m3,m7,m8,m9]
       refine Again.os (i+1,some r) (List.range (obs six T++tailX a (some r) a0 fr b rr).length) ⟨hi',hnext hi'⟩ (by simp only;omega) ?_
       refine tail_ent six hT hT0 hsv ?_ ?_ ?_ ?_ ?_ ?_ ?_ ?_ ?_ ?_ ?_
       ·omega
       ·intro ρ hρ
        have r0:=hρ 0 (by omega)
        have r5:=hρ (T.length+4) (by omega)
        have r6:=hρ (T.length+5) (by omega)
        have r7:=hρ (T.length+7) (by omega)
        rw[←htk]
        cases hix:ix T ((bitsN six a (wideN six)).take i++[_])with
        |none=>simp[r0,r5,r6,r7]
        |some k2=>
         have h9:=ix_ne0 hT hix
         have r8:=hρ k2 (by have:=ix_lt hix;omega)
         simp[r0,r5,r6,r7,r8,h9]
       ·intro p hp
        simp[n2 p hp,n3 p hp,n7 p hp,n8 p hp,n9 p hp,Lb p hp]
       ·simp;exact L0
       ·simp;exact L1 1
       ·simp[rcO]
       ·simp
       ·simp[L4]
       ·simp[L5]
       ·simp[L6]
       ·simp
end Go.Am
namespace Go.Am
open Go.Proofs
def sameBits (six:Bool) (a b:Addr4) (n:Nat):Bool:=(List.range n).all fun i=>bitAt (wideN six) a.num i==bitAt (wideN six) b.num i
def hasP (p:Pfx) (six:Bool) (a:Addr4):Bool:=checkP p==0&&p.six==six&&rightA six a&&sameBits six p.addr a p.len.toNat
theorem sameBits_succ (six:Bool) (a b:Addr4) (n:Nat):sameBits six a b (n+1)=(sameBits six a b n&&bitAt (wideN six) a.num n==bitAt (wideN six) b.num n):=by
 unfold sameBits
 rw[List.range_succ,List.all_append]
 simp
theorem checkP_len {p:Pfx} (h:checkP p=0):0≤p.len∧p.len≤wideN p.six∧rightA p.six p.addr=true:=by
 unfold checkP at h
 split at h
 ·cases h
 ·rename_i h1
  simp at h1
  rw[wide_N]at h1
  exact⟨h1.1.1,h1.1.2,h1.2⟩
set_option maxRecDepth 4000 in
theorem has_spec (p:Pfx) (six:Bool) (a:Addr4) (hw:p.addr.wf) (ha:a.wf):FSpec Tryz.prog 296 [p.av,.bool six,a.av] [] (.bool (hasP p six a)) []:=by
 refine FSpec.of_flat (q:=[(3,.n 6),(7,.n 8)]) Tryz.func296 (by kernel_rfl) rfl Tryz.ntmps296 Tryz.results296 hP (by kernel_rfl) (by simp) (by first|rfl|simp) ?_
 simp
 first|refine CallK.same (checkPr_spec p hw) rfl rfl ?_|refine CallQ.same (checkPr_spec p hw) rfl rfl ?_|refine CallQG.same _ (checkPr_spec p hw) rfl ?_|refine CallG.same _ (checkPr_spec p hw) rfl ?_|refine CallK.pv (checkPr_spec p hw) rfl rfl ?_
 simp
 first|refine CallK.same (rightAr_spec six a ha) rfl rfl ?_|refine CallQ.same (rightAr_spec six a ha) rfl rfl ?_|refine CallQG.same _ (rightAr_spec six a ha) rfl ?_|refine CallG.same _ (rightAr_spec six a ha) rfl ?_|refine CallK.pv (rightAr_spec six a ha) rfl rfl ?_
 simp
 refine⟨fun h=>?_,fun h1 h2 h3=>?_⟩
 ·rcases h with(h|h)|h<;>simp[hasP,h]
 obtain⟨l0,l1,l2⟩:=checkP_len h1
 subst h2
 have hW:wideN p.six≤128:=by cases p.six<;>decide
 first|refine CallK.same (bits_spec p.six p.addr hw) rfl rfl ?_|refine CallQ.same (bits_spec p.six p.addr hw) rfl rfl ?_|refine CallQG.same _ (bits_spec p.six p.addr hw) rfl ?_|refine CallG.same _ (bits_spec p.six p.addr hw) rfl ?_|refine CallK.pv (bits_spec p.six p.addr hw) rfl rfl ?_
 simp
 first|refine CallK.same (bits_spec p.six a ha) rfl rfl ?_|refine CallQ.same (bits_spec p.six a ha) rfl rfl ?_|refine CallQG.same _ (bits_spec p.six a ha) rfl ?_|refine CallG.same _ (bits_spec p.six a ha) rfl ?_|refine CallK.pv (bits_spec p.six a ha) rfl rfl ?_
 simp
 have hhas:hasP p p.six a=sameBits p.six p.addr a p.len.toNat:=by simp[hasP,h1,h3]
 rw[hhas]
 refine LoopK.os (fun k:Nat=>[(3,.ptr 0 0),(7,.im (.sl 1 (rowI (bitsA p.six p.addr)))),(8,.im (.sl 1 (rowI (bitsA p.six a)))),(9,.int .i64 k)])
  (fun _=>[.box 74 [.bool p.six,.int .u64 p.addr.hi,.int .u64 p.addr.lo,.int .i64 p.len]])
  (fun k=>k≤p.len.toNat∧sameBits p.six p.addr a k=true) (fun k=>p.len.toNat-k) 0 [0] ⟨Nat.zero_le _,rfl⟩ (by simp) ?_
 rintro k ⟨hk,hR⟩
 by_cases hlt:k<p.len.toNat
 ·have hkw:k<wideN p.six:=by omega
  have hg1:=rowI_get _ _ _ (bitsA_get p.six p.addr k hkw)
  have hg2:=rowI_get _ _ _ (bitsA_get p.six a k hkw)
  have hw1:IntKind.i64.wrap (k+1)=(k+1:Nat):=wrap64 (by omega) (by omega)
  have e1:(k:Int)<p.len:=by omega
  simp[e1,hkw,hg1,hg2,hw1]
  refine⟨fun h=>?_,fun h=>?_⟩
  ·cases hs:sameBits p.six p.addr a p.len.toNat with
   |false=>rfl
   |true=>
    have:=List.all_eq_true.1 hs k (List.mem_range.2 hlt)
    simp at this
    exact absurd this h
  ·refine Again.os (k+1) [0] ⟨hlt,?_⟩ (by omega) (by simp)
   rw[sameBits_succ,hR,h];simp
 ·have:k=p.len.toNat:=by omega
  subst this
  have e1:¬(max p.len 0<p.len):=by omega
  simp[e1]
  exact hR
def lenO:Option Route→Int
 |none=> -1
 |some r=>r.pfx.len
def bcO:Option Route→List AV
 |none=>[.bool false,.int .u64 0,.int .u64 0,.int .i64 (-1),.int .u8 0,.int .i64 0]
 |some r=>r.iv.map .im
def bestF (six:Bool) (a:Addr4):List Route→Option Route→Option Route
 |[],x=>x
 |r::l,x=>bestF six a l (if lenO x<r.pfx.len∧hasP r.pfx six a=true then some r else x)
@[simp] theorem rcO_pure (x:Option Route):AV.pureL (rcO x)=true:=by cases x<;>rfl
theorem best_spec (l:List Route) (six:Bool) (a:Addr4) (hw:∀r∈l,r.pfx.addr.wf) (ha:a.wf):
  FSpec Tryz.prog 228 [.im (.sl 6 (l.map Route.iv)),.bool six,a.av] [] (.tup [.agg (rcO (bestF six a l none)),.bool (bestF six a l none).isSome]) []:=by
 refine FSpec.bd (enters_of Tryz.func228 (by kernel_rfl) rfl) fun hbd=>?_
 have hl:l.length≤9223372036854775807:=by simp[maxLen]at hbd;exact hbd
 refine FSpec.of_flat (q:=[]) Tryz.func228 (by kernel_rfl) rfl Tryz.ntmps228 Tryz.results228 hP (by kernel_rfl) (by simp) (by first|rfl|simp) ?_
 simp
 refine LoopK.os (fun g:Nat×Option Route=>[(1,.bool six),(5,.ptr 0 0),(6,.ptr 1 0),(8,.ptr 2 0),(13,.im (.sl 6 (l.map Route.iv))),(14,.int .i64 l.length),(15,.int .i64 g.1)])
  (fun g=>[.box 31 [.int .u64 a.hi,.int .u64 a.lo],.box 287 (rcO none),.box 287 (bcO g.2)])
  (fun g=>g.1≤l.length∧bestF six a (l.drop g.1) g.2=bestF six a l none∧∀r,g.2=some r→0≤r.pfx.len) (fun g=>l.length-g.1) (0,none) [0,1,2] ⟨Nat.zero_le _,by simp,fun r h=>by cases h⟩ (by simp[rcO,bcO]) ?_
 rintro⟨k,x⟩ ⟨hk,hR,hx⟩
 simp only at hk hR hx
 by_cases hlt:k<l.length
 ·have e1:IntKind.i64.wrap (k+1)=(k+1:Nat):=wrap64 (by omega) (by omega)
  have hmem:=List.getElem_mem hlt
  rw[List.drop_eq_getElem_cons hlt,bestF]at hR
  cases x with
  |none=>
   simp[hlt,bcO]
   generalize l[k]=r at*
   first|refine CallK.same (has_spec r.pfx six a (hw r hmem) ha) rfl rfl ?_|refine CallQ.same (has_spec r.pfx six a (hw r hmem) ha) rfl rfl ?_|refine CallQG.same _ (has_spec r.pfx six a (hw r hmem) ha) rfl ?_|refine CallG.same _ (has_spec r.pfx six a (hw r hmem) ha) rfl ?_|refine CallK.pv (has_spec r.pfx six a (hw r hmem) ha) rfl rfl ?_
   simp[e1]
   refine⟨fun h1 h2=>?_,fun h=>?_⟩
   ·rw[if_pos ⟨h1,h2⟩]at hR
    refine Again.os (k+1,some r) [0,1,2] ⟨hlt,hR,fun y hy=>by cases hy;omega⟩ (by simp only;omega) (by simp[rcO])
   ·rw[if_neg (fun hc=>by have:=h hc.1;rw[hc.2]at this;cases this)]at hR
    refine Again.os (k+1,none) [0,1,2] ⟨hlt,hR,fun y hy=>by cases hy⟩ (by simp only;omega) (by simp[rcO])
  |some y=>
   simp[hlt,bcO]
   generalize l[k]=r at*
   first|refine CallK.same (has_spec r.pfx six a (hw r hmem) ha) rfl rfl ?_|refine CallQ.same (has_spec r.pfx six a (hw r hmem) ha) rfl rfl ?_|refine CallQG.same _ (has_spec r.pfx six a (hw r hmem) ha) rfl ?_|refine CallG.same _ (has_spec r.pfx six a (hw r hmem) ha) rfl ?_|refine CallK.pv (has_spec r.pfx six a (hw r hmem) ha) rfl rfl ?_
   simp[e1]
   refine⟨fun h1 h2=>?_,fun h=>?_⟩
   ·rw[if_pos ⟨h1,h2⟩]at hR
    refine Again.os (k+1,some r) [0,1,2] ⟨hlt,hR,fun z hz=>by cases hz;have:=hx y rfl;omega⟩ (by simp only;omega) (by simp[rcO])
   ·rw[if_neg (fun hc=>by have:=h hc.1;rw[hc.2]at this;cases this)]at hR
    refine Again.os (k+1,some y) [0,1,2] ⟨hlt,hR,hx⟩ (by simp only;omega) (by simp[rcO])
 ·have:k=l.length:=by omega
  subst this
  simp[bestF]at hR
  rw[←hR]
  cases x with
  |none=>simp[bcO,rcO]
  |some y=>
   have:=hx y rfl
   simp[bcO,rcO]
   omega
end Go.Am
namespace Go.Am
open Go.Proofs
def maxV (f:Nat→Option Route):Nat→Option Route→Option Route
 |0,x=>(f 0).or x
 |n+1,x=>(f (n+1)).or (maxV f n x)
theorem maxV_shift (f:Nat→Option Route):∀n x,maxV f (n+1) x=maxV (fun i=>f (i+1)) n ((f 0).or x)
 |0,x=>rfl
 |n+1,x=>by
  rw[maxV,maxV_shift f n x,maxV]
theorem maxV_none (f:Nat→Option Route):∀n x,(∀i,i≤n→f i=none)→maxV f n x=x
 |0,x,h=>by rw[maxV,h 0 (Nat.le_refl _)];rfl
 |n+1,x,h=>by rw[maxV,h (n+1) (Nat.le_refl _),maxV_none f n x fun i hi=>h i (by omega)];rfl
theorem valT_none {T:List Ent} {q:List Nat} (h:ix T q=none):valT T q=none:=by unfold valT;rw[h]
theorem ix_none_more {T:List Ent} (hT:WT T) {q:List Nat} (h:ix T q=none):∀(l:List Nat),ix T (q++l)=none:=by
 intro l
 induction l generalizing q with
 |nil=>simpa using h
 |cons b l ih=>
  have:=ih (ix_below hT h b)
  simpa using this
theorem alongT_max {T:List Ent} (hT:WT T):∀(l q:List Nat) (x:Option Route),alongT T l q x=maxV (fun i=>valT T (q++l.take i)) l.length x
 |[],q,x=>by
  rw[alongT,List.length_nil,maxV]
  split
  ·simp
  ·rename_i h
   rw[valT_none (by simpa using h)];rfl
 |b::l,q,x=>by
  rw[alongT]
  split
  ·rw[alongT_max hT l,List.length_cons,maxV_shift]
   simp
  ·rename_i h
   rw[maxV_none]
   intro i _
   exact valT_none (ix_none_more hT (by simpa using h) _)
theorem maxV_some {f:Nat→Option Route}:∀{n:Nat} {r:Route},maxV f n none=some r→∃i,i≤n∧f i=some r∧∀j,i<j→j≤n→f j=none
 |0,r,h=>by
  rw[maxV]at h
  exact⟨0,Nat.le_refl _,by simpa using h,fun j h1 h2=>by omega⟩
 |n+1,r,h=>by
  rw[maxV]at h
  cases hf:f (n+1)with
  |some y=>
   rw[hf]at h
   exact⟨n+1,Nat.le_refl _,by rw[hf];simpa using h,fun j h1 h2=>by omega⟩
  |none=>
   rw[hf]at h
   obtain⟨i,h1,h2,h3⟩:=maxV_some (by simpa using h)
   refine⟨i,by omega,h2,fun j h4 h5=>?_⟩
   by_cases e:j=n+1
   ·rw[e];exact hf
   ·exact h3 j h4 (by omega)
theorem maxV_eq_none {f:Nat→Option Route}:∀{n:Nat},maxV f n none=none→∀i,i≤n→f i=none
 |0,h,i,hi=>by
  rw[maxV]at h
  have:i=0:=by omega
  subst this
  simpa using h
 |n+1,h,i,hi=>by
  rw[maxV]at h
  rw[Option.or_eq_none_iff]at h
  by_cases e:i=n+1
  ·rw[e];exact h.1
  ·exact maxV_eq_none h.2 i (by omega)
theorem lastV_some {six:Bool} {q:List Nat}:∀{l:List Route} {x:Option Route} {r:Route},lastV six q l x=some r→x=some r∨(r∈l∧r.pfx.six=six∧q=bitsN six r.pfx.addr r.pfx.len.toNat)
 |[],x,r,h=>.inl h
 |y::l,x,r,h=>by
  rw[lastV]at h
  rcases lastV_some h with h|⟨h1,h2⟩
  ·split at h
   ·rename_i hc
    cases h
    exact .inr ⟨List.mem_cons_self,hc⟩
   ·exact .inl h
  ·exact .inr ⟨List.mem_cons_of_mem _ h1,h2⟩
theorem lastV_isSome {six:Bool} {q:List Nat}:∀{l:List Route} {x:Option Route},(x.isSome=true∨∃r∈l,r.pfx.six=six∧q=bitsN six r.pfx.addr r.pfx.len.toNat)→(lastV six q l x).isSome=true
 |[],x,h=>by
  rcases h with h|⟨r,h,_⟩
  ·exact h
  ·cases h
 |y::l,x,h=>by
  rw[lastV]
  refine lastV_isSome ?_
  rcases h with h|⟨r,hr,hc⟩
  ·left;split<;>simp[h]
  ·rcases List.mem_cons.1 hr with rfl|hr
   ·left;rw[if_pos hc];rfl
   ·exact .inr ⟨r,hr,hc⟩
theorem bestF_some {six:Bool} {a:Addr4}:∀{l:List Route} {x:Option Route} {r:Route},bestF six a l x=some r→(x=some r∨(r∈l∧hasP r.pfx six a=true))∧lenO x≤r.pfx.len∧∀y∈l,hasP y.pfx six a=true→y.pfx.len≤r.pfx.len
 |[],x,r,h=>by
  have h:x=some r:=h
  subst h
  exact⟨.inl rfl,Int.le_refl _,fun y hy=>by cases hy⟩
 |z::l,x,r,h=>by
  rw[bestF]at h
  obtain⟨h1,h2,h3⟩:=bestF_some h
  split at h1
  ·rename_i hc
   rw[if_pos hc]at h2
   simp only[lenO]at h2
   refine⟨?_,by omega,fun y hy hp=>?_⟩
   ·rcases h1 with h1|h1
    ·cases h1;exact .inr ⟨List.mem_cons_self,hc.2⟩
    ·exact .inr ⟨List.mem_cons_of_mem _ h1.1,h1.2⟩
   ·rcases List.mem_cons.1 hy with rfl|hy
    ·exact h2
    ·exact h3 y hy hp
  ·rename_i hc
   rw[if_neg hc]at h2
   refine⟨?_,h2,fun y hy hp=>?_⟩
   ·rcases h1 with h1|h1
    ·exact .inl h1
    ·exact .inr ⟨List.mem_cons_of_mem _ h1.1,h1.2⟩
   ·rcases List.mem_cons.1 hy with rfl|hy
    ·have:¬lenO x<y.pfx.len:=fun h=>hc ⟨h,hp⟩
     omega
    ·exact h3 y hy hp
theorem bestF_none {six:Bool} {a:Addr4}:∀{l:List Route} {x:Option Route},bestF six a l x=none→x=none∧∀y∈l,hasP y.pfx six a=true→y.pfx.len≤ -1
 |[],x,h=>⟨h,fun y hy=>by cases hy⟩
 |z::l,x,h=>by
  rw[bestF]at h
  obtain⟨h1,h2⟩:=bestF_none h
  split at h1
  ·cases h1
  ·rename_i hc
   refine⟨h1,fun y hy hp=>?_⟩
   subst h1
   rcases List.mem_cons.1 hy with rfl|hy
   ·have:¬lenO none<y.pfx.len:=fun h=>hc ⟨h,hp⟩
    simpa [lenO]using this
   ·exact h2 y hy hp
theorem cmpP_iff (p q:Pfx):cmpP p q<0↔kindP p<kindP q∨kindP p=kindP q∧(p.addr.hi<q.addr.hi∨p.addr.hi=q.addr.hi∧(p.addr.lo<q.addr.lo∨p.addr.lo=q.addr.lo∧p.len<q.len)):=by
 simp only[cmpP,cmpA,orInt,cmpI]
 repeat' split
 all_goals omega
theorem checkRL_sorted:∀{l:List Route} {pv:Option Pfx},checkRL l pv=0→(∀r∈l,routeOk r=true)∧(∀p,pv=some p→∀r∈l,cmpP p r.pfx<0)∧l.Pairwise fun r s=>cmpP r.pfx s.pfx<0
 |[],pv,h=>⟨fun r hr=>(by cases hr),fun p _ r hr=>(by cases hr),List.Pairwise.nil⟩
 |r::l,pv,h=>by
  rw[checkRL]at h
  split at h
  ·cases h
  ·rename_i hc
   simp only[Bool.or_eq_true,Bool.not_eq_true',not_or,Bool.not_eq_false]at hc
   obtain⟨h1,h2,h3⟩:=checkRL_sorted h
   refine⟨fun s hs=>?_,fun p hp s hs=>?_,List.Pairwise.cons (fun s hs=>h2 _ rfl s hs) h3⟩
   ·rcases List.mem_cons.1 hs with rfl|hs
    ·exact hc.1
    ·exact h1 s hs
   ·subst hp
    have h4:cmpP p r.pfx<0:=by simpa [aheadR]using hc.2
    rcases List.mem_cons.1 hs with rfl|hs
    ·exact h4
    ·have h5:=h2 _ rfl s hs
     rw[cmpP_iff]at h4 h5⊢
     omega
theorem pfx_unique {l:List Route} (h:l.Pairwise fun r s=>cmpP r.pfx s.pfx<0) {r s:Route} (hr:r∈l) (hs:s∈l) (h0:¬cmpP r.pfx s.pfx<0) (h1:¬cmpP s.pfx r.pfx<0):r=s:=by
 induction h with
 |nil=>cases hr
 |cons ha _ ih=>
  rcases List.mem_cons.1 hr with e1|hr'<;>rcases List.mem_cons.1 hs with e2|hs'
  ·rw[e1,e2]
  ·exact absurd (by rw[e1];exact ha s hs') h0
  ·exact absurd (by rw[e2];exact ha r hr') h1
  ·exact ih hr' hs'
theorem bitsN_eq {six:Bool} {a b:Addr4} {n:Nat}:bitsN six a n=bitsN six b n↔sameBits six a b n=true:=by
 unfold bitsN sameBits
 rw[List.all_eq_true,List.map_inj_left]
 constructor
 ·intro h i hi
  have:=h i hi
  unfold bitN at this
  simp[bitAt,this]
 ·intro h i hi
  have:=h i hi
  simp[bitAt]at this
  unfold bitN
  exact_mod_cast this
theorem div_bits (W:Nat) (V U:Nat):∀n,n≤W→V<2 ^ W→U<2 ^ W→(∀i,i<n→V / 2 ^ (W-1-i) % 2=U / 2 ^ (W-1-i) % 2)→V / 2 ^ (W-n)=U / 2 ^ (W-n)
 |0,_,hV,hU,_=>by rw[Nat.sub_zero,Nat.div_eq_of_lt hV,Nat.div_eq_of_lt hU]
 |n+1,hn,hV,hU,h=>by
  have ih:=div_bits W V U n (by omega) hV hU fun i hi=>h i (by omega)
  have hl:=h n (by omega)
  have e:W-n=(W-(n+1))+1:=by omega
  have e2:W-1-n=W-(n+1):=by omega
  rw[e,Nat.pow_succ,←Nat.div_div_eq_div_mul,←Nat.div_div_eq_div_mul]at ih
  rw[e2]at hl
  omega
theorem Addr4.num_inj {a b:Addr4} (ha:a.wf) (hb:b.wf) (h:a.num=b.num):a=b:=by
 obtain⟨a1,a2,a3,a4⟩:=ha
 obtain⟨b1,b2,b3,b4⟩:=hb
 cases a;cases b
 simp only[Addr4.num,Addr4.mk.injEq]at*
 omega
theorem Addr4.num_lt {six:Bool} {a:Addr4} (ha:a.wf) (hr:rightA six a=true):a.num<2 ^ wideN six:=by
 obtain⟨a1,a2,a3,a4⟩:=ha
 cases six with
 |true=>
  show a.num<340282366920938463463374607431768211456
  unfold Addr4.num;omega
 |false=>
  show a.num<4294967296
  unfold rightA at hr
  simp at hr
  obtain⟨h1,h2⟩:=hr
  have h2:a.lo / 4294967296=0:=by
   rw[←Int.fdiv_eq_ediv_of_nonneg _ (by omega)];exact h2
  unfold Addr4.num;omega
theorem checkP_host {p:Pfx} (hw:p.addr.wf) (h:checkP p=0):p.addr.num % 2 ^ (wideN p.six-p.len.toNat)=0:=by
 obtain⟨l0,l1,l2⟩:=checkP_len h
 rw[←wide_N]at l1
 rw[←host_zero p hw l0 l1 l2]
 unfold checkP at h
 split at h
 ·cases h
 ·split at h
  ·cases h
  ·rename_i h2;simpa using h2
theorem bitsN_pfx {p q:Pfx} (hp:p.addr.wf) (hq:q.addr.wf) (h1:checkP p=0) (h2:checkP q=0) (hs:p.six=q.six) (hl:p.len=q.len) (hb:bitsN p.six p.addr p.len.toNat=bitsN p.six q.addr p.len.toNat):p=q:=by
 obtain⟨l0,l1,l2⟩:=checkP_len h1
 obtain⟨m0,m1,m2⟩:=checkP_len h2
 have g1:=checkP_host hp h1
 have g2:=checkP_host hq h2
 have k1:=Addr4.num_lt hp l2
 have k2:=Addr4.num_lt hq m2
 rw[←hs,←hl]at g2
 rw[←hs]at k2
 have hd:=div_bits (wideN p.six) p.addr.num q.addr.num p.len.toNat (by omega) k1 k2 fun i hi=>by
  have:=congrArg (fun l=>l[i]?) hb
  simpa [bitsN,hi,bitN]using this
 have e1:=Nat.div_add_mod p.addr.num (2 ^ (wideN p.six-p.len.toNat))
 have e2:=Nat.div_add_mod q.addr.num (2 ^ (wideN p.six-p.len.toNat))
 rw[g1]at e1
 rw[g2,←hd]at e2
 have hn:p.addr.num=q.addr.num:=by omega
 have ha:=Addr4.num_inj hp hq hn
 cases p;cases q
 simp only[Pfx.mk.injEq]at*
 exact⟨hs,ha,hl⟩
theorem bitsN_length (six:Bool) (a:Addr4) (n:Nat):(bitsN six a n).length=n:=by simp[bitsN]
theorem bitsN_take_n (six:Bool) (a:Addr4) (n k:Nat) (h:k≤n):(bitsN six a n).take k=bitsN six a k:=by
 unfold bitsN
 rw[←List.map_take,List.take_range]
 congr 2;omega
theorem longest_best (six:Bool) (a:Addr4) (l:List Route) (hc:checkR l=0) (hw:∀r∈l,r.pfx.addr.wf) (ha:rightA six a=true):
  alongT (ofT six l [.nd [] none]) (bitsN six a (wideN six)) [] none=bestF six a l none:=by
 have hcr:checkRL l none=0:=by
  unfold checkR at hc
  split at hc
  ·cases hc
  ·exact hc
 obtain⟨hok,-,hpw⟩:=checkRL_sorted hcr
 have hP:∀r∈l,checkP r.pfx=0:=fun r hr=>by
  have:=hok r hr
  simp[routeOk]at this
  exact this.2
 obtain⟨hT,hval⟩:=ofT_wt six l WT.one
 have hv0:∀q,valT [Ent.nd [] none] q=none:=by
  intro q
  unfold valT
  cases hi:ix [Ent.nd [] none] q with
  |none=>rfl
  |some k=>
   have:=ix_lt hi
   simp at this
   subst this
   rfl
 rw[alongT_max hT,bitsN_length]
 have hf:∀i,i≤wideN six→valT (ofT six l [.nd [] none]) ([]++(bitsN six a (wideN six)).take i)=lastV six (bitsN six a i) l none:=by
  intro i hi
  rw[hval,hv0,List.nil_append,bitsN_take_n six a _ _ hi]
 have hmem:∀{i:Nat} {r:Route},i≤wideN six→lastV six (bitsN six a i) l none=some r→r∈l∧hasP r.pfx six a=true∧r.pfx.len=i:=by
  intro i r hi h
  rcases lastV_some h with h|⟨h1,h2,h3⟩
  ·cases h
  ·have hl:i=r.pfx.len.toNat:=by
    have:=congrArg List.length h3
    simpa [bitsN_length]using this
   obtain⟨l0,_,_⟩:=checkP_len (hP r h1)
   refine⟨h1,?_,by omega⟩
   unfold hasP
   rw[hP r h1,h2,ha,←hl]
   have h3':=h3
   rw[←hl]at h3'
   have:=bitsN_eq.1 h3'
   have hsym:sameBits six r.pfx.addr a i=true:=by
    unfold sameBits at this⊢
    rw[List.all_eq_true]at this⊢
    intro j hj
    have:=this j hj
    simp at this⊢
    exact this.symm
   simp[hsym]
 have hhas:∀{r:Route},r∈l→hasP r.pfx six a=true→0≤r.pfx.len∧r.pfx.len≤wideN six∧(lastV six (bitsN six a r.pfx.len.toNat) l none).isSome=true∧r.pfx.six=six∧bitsN six a r.pfx.len.toNat=bitsN six r.pfx.addr r.pfx.len.toNat:=by
  intro r hr hh
  unfold hasP at hh
  simp only[Bool.and_eq_true,beq_iff_eq]at hh
  obtain⟨⟨⟨h1,h2⟩,h3⟩,h4⟩:=hh
  obtain⟨l0,l1,_⟩:=checkP_len h1
  rw[h2]at l1
  have hb:=(bitsN_eq.2 h4).symm
  exact⟨l0,l1,lastV_isSome (.inr ⟨r,hr,h2,hb⟩),h2,hb⟩
 cases hm:maxV (fun i=>valT (ofT six l [.nd [] none]) ([]++(bitsN six a (wideN six)).take i)) (wideN six) none with
 |none=>
  have h0:=maxV_eq_none hm
  cases hb:bestF six a l none with
  |none=>rfl
  |some r=>
   exfalso
   obtain⟨h1,h2,h3⟩:=bestF_some hb
   rcases h1 with h1|⟨h1,h4⟩
   ·cases h1
   ·obtain⟨k0,k1,k2,_⟩:=hhas h1 h4
    have:=h0 r.pfx.len.toNat (by omega)
    rw[hf _ (by omega)]at this
    rw[this]at k2
    cases k2
 |some r=>
  obtain⟨i,hi,h1,h2⟩:=maxV_some hm
  rw[hf i hi]at h1
  obtain⟨r1,r2,r3⟩:=hmem hi h1
  cases hb:bestF six a l none with
  |none=>
   have:=(bestF_none hb).2 r r1 r2
   omega
  |some s=>
   obtain⟨g1,g2,g3⟩:=bestF_some hb
   rcases g1 with g1|⟨g1,g4⟩
   ·cases g1
   ·obtain⟨k0,k1,k2,k3,k4⟩:=hhas g1 g4
    have hle:=g3 r r1 r2
    have hge:s.pfx.len≤i:=by
     apply Classical.byContradiction
     intro hc
     have:=h2 s.pfx.len.toNat (by omega) (by omega)
     rw[hf _ (by omega)]at this
     rw[this]at k2
     cases k2
    obtain⟨q0,q1,q2,q3,q4⟩:=hhas r1 r2
    have hlen:r.pfx.len=s.pfx.len:=by omega
    have hp:=bitsN_pfx (hw r r1) (hw s g1) (hP r r1) (hP s g1) (by rw[q3,k3]) hlen (by rw[q3,←q4,hlen,←k4])
    have:=pfx_unique hpw r1 g1 (by rw[hp,cmpP_iff];omega) (by rw[hp,cmpP_iff];omega)
    rw[this]
end Go.Am
namespace Go.Am
open Go.Proofs
theorem half_eq (lo hi:Nat) (h1:lo≤9223372036854775807) (h2:hi≤9223372036854775807):IntKind.i64.wrap ((IntKind.u64.wrap (IntKind.i64.wrap ((lo:Int)+hi))).fdiv 2)=((lo+hi) / 2:Nat):=by
 have e:IntKind.u64.wrap (IntKind.i64.wrap ((lo:Int)+hi))=(lo:Int)+hi:=by
  simp[IntKind.wrap,IntKind.signed,IntKind.bits]
  omega
 rw[e,Int.fdiv_eq_ediv_of_nonneg _ (by omega),wrap64 (by omega) (by omega)]
 omega
def bsI {α:Type} (c:α→Int):List α→Nat
 |[]=>0
 |x::l=>if c x<0 then bsI c l+1 else 0
def bsF {α:Type} (c:α→Int) (l:List α):Bool:=((l[bsI c l]?).map fun x=>decide (c x=0)).getD false
theorem bsI_le {α:Type} (c:α→Int):∀l:List α,bsI c l≤l.length
 |[]=>Nat.le_refl _
 |x::l=>by
  rw[bsI]
  have:=bsI_le c l
  split<;>simp<;>omega
theorem bsI_eq {α:Type} (c:α→Int):∀(l:List α) (k:Nat),k≤l.length→(∀i x,i<k→l[i]? =some x→c x<0)→(∀i x,k≤i→l[i]? =some x→¬c x<0)→bsI c l=k
 |[],k,hk,_,_=>by simp at hk;rw[hk];rfl
 |x::l,0,hk,h1,h2=>by
  rw[bsI,if_neg (h2 0 x (Nat.le_refl _) rfl)]
 |x::l,k+1,hk,h1,h2=>by
  rw[bsI,if_pos (h1 0 x (by omega) rfl),bsI_eq c l k (by simpa using hk) (fun i y hi hy=>h1 (i+1) y (by omega) (by simpa using hy)) (fun i y hi hy=>h2 (i+1) y (by omega) (by simpa using hy))]
def cmpL (n:Int) (x:Link):Int:=cmpI x.iface n
theorem cmpL_spec (x:Link) (n:Int):FSpec Tryz.prog 418 [x.av,.int .i64 n] [] (.int .i64 (cmpL n x)) []:=by
 refine FSpec.of_flat (q:=[]) Tryz.func418 (by kernel_rfl) rfl Tryz.ntmps418 Tryz.results418 hP (by kernel_rfl) (by simp) (by first|rfl|simp) ?_
 simp
 first|refine CallK.same (cmpI_spec x.iface n) rfl rfl ?_|refine CallQ.same (cmpI_spec x.iface n) rfl rfl ?_|refine CallQG.same _ (cmpI_spec x.iface n) rfl ?_|refine CallG.same _ (cmpI_spec x.iface n) rfl ?_|refine CallK.pv (cmpI_spec x.iface n) rfl rfl ?_
 simp[cmpL]
def upL (c:Link→Int) (l:List Link):Prop:=∀(i j:Nat) (x y:Link),i≤j→l[i]? =some x→l[j]? =some y→(c y<0→c x<0)
theorem bsL_spec (l:List Link) (n:Int) (hs:upL (cmpL n) l):
  FSpec Tryz.prog 417 [.im (.sl 2 (l.map Link.iv)),.int .i64 n,.fn 418 []] [] (.tup [.int .i64 (bsI (cmpL n) l),.bool (bsF (cmpL n) l)]) []:=by
 refine FSpec.bd (enters_of Tryz.func417 (by kernel_rfl) rfl) fun hbd=>?_
 have hl:l.length≤9223372036854775807:=by simp[maxLen]at hbd;omega
 refine FSpec.of_flat (q:=[]) Tryz.func417 (by kernel_rfl) rfl Tryz.ntmps417 Tryz.results417 hP (by kernel_rfl) (by simp) (by first|rfl|simp) ?_
 simp
 refine LoopK.plain (fun g:Nat×Nat=>[(0,.im (.sl 2 (l.map Link.iv))),(1,.int .i64 n),(2,.fn 418 []),(8,.int .i64 l.length),(9,.int .i64 g.1),(10,.int .i64 g.2)])
  (fun g=>g.1≤g.2∧g.2≤l.length∧(∀i x,i<g.1→l[i]? =some x→cmpL n x<0)∧(∀i x,g.2≤i→l[i]? =some x→0≤cmpL n x)) (fun g=>g.2-g.1) (0,l.length) ?_ ?_ ?_
 ·exact⟨Nat.zero_le _,Nat.le_refl _,fun i x hi=>by omega,fun i x hi hx=>by rw[List.getElem?_eq_none hi]at hx;cases hx⟩
 ·simp
 rintro⟨lo,hi⟩ ⟨h1,h2,h3,h4⟩
 simp only at h1 h2 h3 h4
 by_cases hlt:lo<hi
 ·have hm:=half_eq lo hi (by omega) (by omega)
  have hml:(lo+hi) / 2<l.length:=by omega
  obtain⟨m,hmm⟩:∃m,m=(lo+hi) / 2:=⟨_,rfl⟩
  rw[←hmm]at hm hml
  have hg:=List.getElem?_eq_getElem hml
  have hw1:IntKind.i64.wrap (m+1)=(m+1:Nat):=wrap64 (by omega) (by omega)
  simp[hlt,hm,hml,hg]
  generalize l[m]=x at*
  first|refine CallK.same (cmpL_spec x n) rfl rfl ?_|refine CallQ.same (cmpL_spec x n) rfl rfl ?_|refine CallQG.same _ (cmpL_spec x n) rfl ?_|refine CallG.same _ (cmpL_spec x n) rfl ?_|refine CallK.pv (cmpL_spec x n) rfl rfl ?_
  simp[hw1]
  refine⟨fun hc=>?_,fun hc=>?_⟩
  ·refine Again.plain (m+1,hi) ⟨by omega,h2,fun i y hi' hy=>?_,h4⟩ (by simp only;omega) (by simp)
   exact hs i m y x (by omega) hy hg hc
  ·refine Again.plain (lo,m) ⟨by omega,by omega,h3,fun i y hi' hy=>?_⟩ (by simp only;omega) (by simp)
   apply Classical.byContradiction
   intro hc'
   have:=hs m i x y hi' hg hy (by omega)
   omega
 ·have:lo=hi:=by omega
  subst this
  have hb:=bsI_eq (cmpL n) l lo h2 h3 (fun i x h5 h6=>by have:=h4 i x h5 h6;omega)
  by_cases hll:lo<l.length
  ·have hg:=List.getElem?_eq_getElem hll
   simp[hll]
   generalize l[lo]=x at*
   first|refine CallK.same (cmpL_spec x n) rfl rfl ?_|refine CallQ.same (cmpL_spec x n) rfl rfl ?_|refine CallQG.same _ (cmpL_spec x n) rfl ?_|refine CallG.same _ (cmpL_spec x n) rfl ?_|refine CallK.pv (cmpL_spec x n) rfl rfl ?_
   simp[bsF,hb,hg]
   rfl
  ·simp[hll,List.getElem?_eq_none (show l.length≤lo by omega)]
   refine CallG.off (.int .i64 0) ?_
   simp[bsF,hb,List.getElem?_eq_none (show l.length≤lo by omega)]
end Go.Am
namespace Go.Am
open Go.Proofs
theorem cmpL_neg (n:Int) (x:Link):cmpL n x<0↔x.iface<n:=by
 unfold cmpL cmpI
 repeat' split
 all_goals omega
theorem cmpL_zero (n:Int) (x:Link):cmpL n x=0↔x.iface=n:=by
 unfold cmpL cmpI
 repeat' split
 all_goals omega
theorem checkLL_sorted:∀{l:List Link} {ah:Int},checkLL l ah=0→(∀x∈l,ah<x.iface)∧l.Pairwise fun x y=>x.iface<y.iface
 |[],ah,h=>⟨fun x hx=>(by cases hx),List.Pairwise.nil⟩
 |x::l,ah,h=>by
  rw[checkLL]at h
  split at h
  ·cases h
  ·rename_i hc
   simp at hc
   obtain⟨h1,h2⟩:=checkLL_sorted h
   refine⟨fun y hy=>?_,List.Pairwise.cons h1 h2⟩
   rcases List.mem_cons.1 hy with rfl|hy
   ·exact hc.2
   ·have:=h1 y hy;omega
theorem checkL_sorted {l:List Link} (h:checkL l=0):l.Pairwise fun x y=>x.iface<y.iface:=by
 unfold checkL at h
 split at h
 ·cases h
 ·exact(checkLL_sorted h).2
theorem upL_of {l:List Link} (h:l.Pairwise fun x y=>x.iface<y.iface) (n:Int):upL (cmpL n) l:=by
 intro i j x y hij hx hy hc
 rw[cmpL_neg]at hc⊢
 rcases Nat.eq_or_lt_of_le hij with e|hlt
 ·subst e;rw[hx]at hy;cases hy;exact hc
 ·obtain⟨hi,e1⟩:=List.getElem?_eq_some_iff.1 hx
  obtain⟨hj,e2⟩:=List.getElem?_eq_some_iff.1 hy
  have:=List.pairwise_iff_getElem.1 h i j hi hj hlt
  rw[e1,e2]at this
  omega
def peerF (l:List Link) (n:Int):Option Int:=(l.find? fun x=>decide (x.iface=n)).map Link.peer
theorem peerF_bs:∀{l:List Link} {n:Int},(l.Pairwise fun x y=>x.iface<y.iface)→peerF l n=if bsF (cmpL n) l then(l[bsI (cmpL n) l]?).map Link.peer else none
 |[],n,h=>rfl
 |x::l,n,h=>by
  have ih:=peerF_bs (n:=n) (List.Pairwise.of_cons h)
  unfold peerF bsF at*
  rw[bsI,List.find?_cons]
  by_cases h1:x.iface<n
  ·have e1:cmpL n x<0:=(cmpL_neg n x).2 h1
   have e2:decide (x.iface=n)=false:=by simp;omega
   simp only[e1,if_true,e2,List.getElem?_cons_succ]
   exact ih
  ·have e1:¬cmpL n x<0:=fun h=>h1 ((cmpL_neg n x).1 h)
   simp only[e1,if_false,List.getElem?_cons_zero]
   by_cases h2:x.iface=n
   ·have:=(cmpL_zero n x).2 h2
    simp[h2,this]
   ·have h3:¬cmpL n x=0:=fun h=>h2 ((cmpL_zero n x).1 h)
    have hno:l.find? (fun x=>decide (x.iface=n))=none:=by
     rw[List.find?_eq_none]
     intro y hy
     have:=List.rel_of_pairwise_cons h hy
     simp;omega
    simp[h2,h3,hno]
theorem findL_spec (l:List Link) (n:Int) (hs:upL (cmpL n) l):
  FSpec Tryz.prog 383 [.im (.sl 2 (l.map Link.iv)),.int .i64 n] [] (.tup [.int .i64 (bsI (cmpL n) l),.bool (bsF (cmpL n) l)]) []:=by
 refine FSpec.of_flat (q:=[]) Tryz.func383 (by kernel_rfl) rfl Tryz.ntmps383 Tryz.results383 hP (by kernel_rfl) (by simp) (by first|rfl|simp) ?_
 simp
 first|refine CallK.same (bsL_spec l n hs) rfl rfl ?_|refine CallQ.same (bsL_spec l n hs) rfl rfl ?_|refine CallQG.same _ (bsL_spec l n hs) rfl ?_|refine CallG.same _ (bsL_spec l n hs) rfl ?_|refine CallK.pv (bsL_spec l n hs) rfl rfl ?_
 simp
theorem bsF_lt {α:Type} {c:α→Int} {l:List α} (h:bsF c l=true):∃x,l[bsI c l]? =some x:=by
 unfold bsF at h
 cases hx:l[bsI c l]? with
 |none=>rw[hx]at h;cases h
 |some x=>exact⟨x,rfl⟩
theorem peerL_spec (l:List Link) (n:Int) (hc:checkL l=0):
  FSpec Tryz.prog 326 [.im (.sl 2 (l.map Link.iv)),.int .i64 n] [] (.tup [.int .i64 ((peerF l n).getD 0),.int .i64 (if(peerF l n).isSome then 0 else 3)]) []:=by
 have hp:=checkL_sorted hc
 have hu:=upL_of hp n
 rw[peerF_bs hp]
 refine FSpec.of_flat (q:=[]) Tryz.func326 (by kernel_rfl) rfl Tryz.ntmps326 Tryz.results326 hP (by kernel_rfl) (by simp) (by first|rfl|simp) ?_
 simp
 first|refine CallK.same (checkL_spec l) rfl rfl ?_|refine CallQ.same (checkL_spec l) rfl rfl ?_|refine CallQG.same _ (checkL_spec l) rfl ?_|refine CallG.same _ (checkL_spec l) rfl ?_|refine CallK.pv (checkL_spec l) rfl rfl ?_
 simp[hc]
 first|refine CallK.same (findL_spec l n hu) rfl rfl ?_|refine CallQ.same (findL_spec l n hu) rfl rfl ?_|refine CallQG.same _ (findL_spec l n hu) rfl ?_|refine CallG.same _ (findL_spec l n hu) rfl ?_|refine CallK.pv (findL_spec l n hu) rfl rfl ?_
 simp
 cases hb:bsF (cmpL n) l with
 |false=>simp
 |true=>
  obtain⟨x,hx⟩:=bsF_lt hb
  have hlt:=(List.getElem?_eq_some_iff.1 hx).1
  simp[hx,hlt]
end Go.Am
namespace Go.Am
open Go.Proofs
theorem look_enumL_lt {o:List (Nat×AObj)} {k:Nat}:∀(l:List AObj) (b:Nat),k<b→look (enumL b l++o) k=look o k
 |[],_,_=>rfl
 |x::l,b,h=>by
  simp only[enumL,List.cons_append,look]
  rw[if_neg (by omega),look_enumL_lt l (b+1) (by omega)]
theorem look_enumL_at {o:List (Nat×AObj)} (l:List AObj) (b i:Nat) (h:i<l.length):look (enumL b l++o) (b+i)=l[i]?:=by
 induction l generalizing b i with
 |nil=>simp at h
 |cons x l ih=>
  simp only[enumL,List.cons_append,look]
  cases i with
  |zero=>simp
  |succ i=>
   rw[if_neg (by omega),show b+(i+1)=b+1+i by omega,ih (b+1) i (by simpa using h)]
   simp
theorem look_enumX_ne {o:List (Nat×AObj)} {g:Nat→Nat} {f:AObj→AObj} {k:Nat}:∀(l:List AObj) (j:Nat),(∀i,g i≠k)→look (enumX g f l j++o) k=look o k
 |[],_,_=>rfl
 |x::l,j,h=>by
  simp only[enumX,List.cons_append,look]
  rw[if_neg (h j),look_enumX_ne l (j+1) h]
theorem nmX_ge {b N nx:Nat} (h:b≤nx) (i:Nat):b≤nmX (List.range' b N) nx i:=by
 unfold nmX
 split
 ·rename_i h1
  simp at h1
  simp[List.getD_eq_getElem?_getD,List.getElem?_range',h1]
 ·omega
theorem look_enumX_lt {o:List (Nat×AObj)} {f:AObj→AObj} {l:List AObj} {k b N nx:Nat} (h1:k<b) (h2:b≤nx):look (enumX (nmX (List.range' b N) nx) f l 0++o) k=look o k:=
 look_enumX_ne l 0 fun i e=>by have:=nmX_ge (N:=N) h2 i;omega
theorem ptrO_ren2 {ρ σ:Nat→Nat} {N:Nat} (hρ:∀k,k<N→ρ k=σ k):∀{v:Option Nat},(∀k,v=some k→k<N)→(ptrO v).ren ρ=(ptrO v).ren σ
 |none,_=>rfl
 |some k,h=>by simp only[ptrO,AV.ren];rw[hρ k (h k rfl)]
theorem ob_ren2 (six:Bool) {T:List Ent} (hT:WT T) {i:Nat} {e:Ent} (h:T[i]? =some e) {ρ σ:Nat→Nat} (hρ:∀k,k<T.length→ρ k=σ k):(Ent.ob six T i e).ren ρ=(Ent.ob six T i e).ren σ:=by
 cases e with
 |nd q v=>
  have hv:(ptrO v).ren ρ=(ptrO v).ren σ:=ptrO_ren2 hρ fun k hk=>by
   subst hk
   obtain⟨r,hr⟩:=hT.val h
   exact(List.getElem?_eq_some_iff.1 hr).1
  have hx:∀q,(ptrO (ix T q)).ren ρ=(ptrO (ix T q)).ren σ:=fun q=>ptrO_ren2 hρ fun k hk=>ix_lt hk
  simp only[Ent.ob,ndCells]
  split<;>simp only[AObj.ren,AV.renL,hv,hx]<;>rfl
 |rt r=>rfl
 |pb p=>rfl
theorem entObjs_of {o:List (Nat×AObj)} {ρ:Nat→Nat}:∀(l:List AObj) (j:Nat),(∀i o',l[i]? =some o'→∃ob,look o (ρ (j+i))=some ob∧ob.le (o'.ren ρ))→EntObjs o ρ j l
 |[],_,_=>trivial
 |x::l,j,h=>by
  refine⟨h 0 x rfl,entObjs_of l (j+1) fun i o' hi=>?_⟩
  have:=h (i+1) o' (by simpa using hi)
  rwa [show j+(i+1)=j+1+i by omega]at this
theorem ob_le_ren (six:Bool) (T:List Ent) (i:Nat) (e:Ent) (ρ:Nat→Nat):((Ent.ob six T i e).ren ρ).le ((Ent.ob six T i e).ren ρ):=by
 cases e<;>simp only[Ent.ob]<;>(try split)<;>exact⟨rfl,AV.leL_refl _⟩
theorem nmOf_range' {b N nx i:Nat} (h:i<N):nmOf (List.range' b N) nx i=b+i:=by
 unfold nmOf
 rw[List.getElem?_range' h]
 simp
structure Hop where
 kind:Int
 peer:Int
@[simp] def Hop.av (h:Hop):AV:=.agg [.int .u8 h.kind,.int .i64 h.peer]
def hopF (r:Router) (six:Bool) (a:Addr4):Hop:=
 match bestF six a r.routes none with
 |none=>⟨0,0⟩
 |some x=>if x.act.kind=2 then⟨2,0⟩else if x.act.kind=3 then⟨3,0⟩else match peerF r.links x.act.iface with
  |none=>⟨0,0⟩
  |some p=>⟨1,p⟩
set_option maxRecDepth 4000 in
theorem does_spec (r:Router) (six:Bool) (a:Addr4) (hw:r.wf) (hok:routerOk r=true) (ha:a.wf) (hr:rightA six a=true):FSpec Tryz.prog 255 [r.av,.bool six,a.av] [] (hopF r six a).av []:=by
 unfold routerOk at hok
 simp only[Bool.and_eq_true,beq_iff_eq]at hok
 have hcr:=hok.1.2
 have hcl:=hok.2
 have hcr':checkRL r.routes none=0:=by
  unfold checkR at hcr
  split at hcr
  ·cases hcr
  ·exact hcr
 have hQ:∀x∈r.routes,x.pfx.addr.wf∧0≤x.pfx.len∧x.pfx.len≤wideN x.pfx.six:=fun x hx=>by
  have:=(checkRL_sorted hcr').1 x hx
  simp[routeOk]at this
  obtain⟨h1,h2,_⟩:=checkP_len this.2
  exact⟨hw x hx,h1,h2⟩
 have hT:=(ofT_wt six r.routes WT.one).1
 have hlb:=longest_best six a r.routes hcr hw hr
 refine FSpec.of_flat (q:=[(1,.m [.p [] [],.p [] [],.p [] [],.e [13,14],.p [0] [],.e [15,16],.p [] [],.p [] [],.p [3] [],.a 0 2,.e [7,18]])]) Tryz.func255 (by kernel_rfl) rfl Tryz.ntmps255 Tryz.results255 hP (by kernel_rfl) (by simp) (by first|rfl|simp) ?_
 simp
 refine CallK.outs [] (of_spec r.routes six hQ) rfl ?_ ?_ ?_
 ·simp
 ·simp[AV.flat]
 generalize hTT:ofT six r.routes [.nd [] none]=T at*
 simp[look_enumL_lt]
 refine CallO.mk [] (List.range' 4 T.length) (longest_spec six T a hT ha) List.nodup_range' ?_ ?_ ?_ ?_ ?_
 ·simp
 ·simp
 ·refine entObjs_of _ 0 fun i o' ho=>?_
  have hi:i<T.length:=by have:=(List.getElem?_eq_some_iff.1 ho).1;simpa using this
  rw[Nat.zero_add,nmOf_range' hi]
  simp only[St.freeze]
  rw[look_enumL_at _ _ _ (by simpa using hi),List.getElem?_map,ho]
  refine⟨_,rfl,?_⟩
  rw[obs_get,Option.map_eq_some_iff]at ho
  obtain⟨e,he,rfl⟩:=ho
  rw[ob_ren2 six hT he (ρ:=fun x=>x+4) (σ:=nmOf (List.range' 4 T.length) (4+T.length)) (fun k hk=>by rw[nmOf_range' hk];omega)]
  exact ob_le_ren _ _ _ _ _
 ·have hT0:0<T.length:=by obtain⟨v,hv⟩:=hT.root;exact(List.getElem?_eq_some_iff.1 hv).1
  have r0:nmOf (List.range' 4 T.length) (4+T.length) 0=4:=nmOf_range' hT0
  simp[-nmOf,r0]
 ·rw[hlb]
  unfold hopF
  cases hb:bestF six a r.routes none with
  |none=>
   simp[look_enumX_lt,look_enumL_lt,rcO]
  |some x=>
   simp[look_enumX_lt,look_enumL_lt,rcO]
   refine⟨fun h=>by simp[h],fun h=>⟨fun h'=>by simp[h,h'],fun h'=>?_⟩⟩
   first|refine CallK.same (peerL_spec r.links x.act.iface hcl) rfl rfl ?_|refine CallQ.same (peerL_spec r.links x.act.iface hcl) rfl rfl ?_|refine CallQG.same _ (peerL_spec r.links x.act.iface hcl) rfl ?_|refine CallG.same _ (peerL_spec r.links x.act.iface hcl) rfl ?_|refine CallK.pv (peerL_spec r.links x.act.iface hcl) rfl rfl ?_
   simp[look_enumX_lt,look_enumL_lt,h,h']
   cases peerF r.links x.act.iface<;>simp
set_option maxRecDepth 4000 in
theorem doesr_spec (r:Router) (six:Bool) (a:Addr4) (hw:r.wf) (ha:a.wf):FSpec Tryz.prog 168 [r.av,.bool six,a.av] [] (hopF r six a).av []:=by
 refine FSpec.bd (enters_of Tryz.func168 (by kernel_rfl) rfl) fun hbd=>?_
 have hl:r.links.length≤9223372036854775807:=by simp[maxLen]at hbd;exact hbd.2
 refine FSpec.of_flat (q:=[]) Tryz.func168 (by kernel_rfl) rfl Tryz.ntmps168 Tryz.results168 hP (by kernel_rfl) (by simp) (by first|rfl|simp) ?_
 simp
 refine CallK.pv (best_spec r.routes six a hw ha) rfl (by simp) ?_
 simp
 unfold hopF
 cases hb:bestF six a r.routes none with
 |none=>simp[rcO]
 |some x=>
  simp[rcO]
  refine⟨fun h=>by simp[h],fun h=>⟨fun h'=>by simp[h,h'],fun h'=>?_⟩⟩
  simp only[h,h',if_false]
  refine LoopK.os (fun k:Nat=>[(6,.ptr 0 0),(7,.ptr 1 0),(33,.im (.sl 2 (r.links.map Link.iv))),(34,.int .i64 r.links.length),(35,.int .i64 k)])
   (fun _=>[.box 171 [.int .u8 0,.int .i64 0],.box 287 (x.iv.map .im)])
   (fun k=>k≤r.links.length∧(r.links.drop k).find? (fun y=>decide (y.iface=x.act.iface))=r.links.find? (fun y=>decide (y.iface=x.act.iface))) (fun k=>r.links.length-k) 0 [2,3] ⟨Nat.zero_le _,by simp⟩ (by simp) ?_
  rintro k ⟨hk,hR⟩
  by_cases hlt:k<r.links.length
  ·have e1:IntKind.i64.wrap (k+1)=(k+1:Nat):=wrap64 (by omega) (by omega)
   rw[List.drop_eq_getElem_cons hlt,List.find?_cons]at hR
   simp[hlt,e1]
   generalize r.links[k]=y at*
   refine⟨fun hy=>?_,fun hy=>?_⟩
   ·have:peerF r.links x.act.iface=some y.peer:=by
     unfold peerF
     rw[←hR];simp[hy]
    simp[this]
   ·refine Again.os (k+1) [0,1] ⟨hlt,?_⟩ (by omega) (by simp)
    rw[←hR];simp[hy]
  ·have:k=r.links.length:=by omega
   subst this
   simp at hR
   have:peerF r.links x.act.iface=none:=by
    unfold peerF
    rw[←hR];rfl
   simp[this]
end Go.Am
namespace Go.Am
open Go.Proofs
def cmpT (n:Int) (x:Router):Int:=cmpI x.id n
theorem cmpT_spec (x:Router) (n:Int):FSpec Tryz.prog 322 [x.av,.int .i64 n] [] (.int .i64 (cmpT n x)) []:=by
 refine FSpec.of_flat (q:=[]) Tryz.func322 (by kernel_rfl) rfl Tryz.ntmps322 Tryz.results322 hP (by kernel_rfl) (by simp) (by first|rfl|simp) ?_
 simp
 first|refine CallK.same (cmpI_spec x.id n) rfl rfl ?_|refine CallQ.same (cmpI_spec x.id n) rfl rfl ?_|refine CallQG.same _ (cmpI_spec x.id n) rfl ?_|refine CallG.same _ (cmpI_spec x.id n) rfl ?_|refine CallK.pv (cmpI_spec x.id n) rfl rfl ?_
 simp[cmpT]
def upT (c:Router→Int) (l:List Router):Prop:=∀(i j:Nat) (x y:Router),i≤j→l[i]? =some x→l[j]? =some y→(c y<0→c x<0)
theorem bsT_spec (l:List Router) (n:Int) (hs:upT (cmpT n) l):
  FSpec Tryz.prog 321 [.im (.sl 4 (l.map Router.iv)),.int .i64 n,.fn 322 []] [] (.tup [.int .i64 (bsI (cmpT n) l),.bool (bsF (cmpT n) l)]) []:=by
 refine FSpec.bd (enters_of Tryz.func321 (by kernel_rfl) rfl) fun hbd=>?_
 have hl:l.length≤9223372036854775807:=by simp[maxLen]at hbd;omega
 refine FSpec.of_flat (q:=[]) Tryz.func321 (by kernel_rfl) rfl Tryz.ntmps321 Tryz.results321 hP (by kernel_rfl) (by simp) (by first|rfl|simp) ?_
 simp
 refine LoopK.plain (fun g:Nat×Nat=>[(0,.im (.sl 4 (l.map Router.iv))),(1,.int .i64 n),(2,.fn 322 []),(8,.int .i64 l.length),(9,.int .i64 g.1),(10,.int .i64 g.2)])
  (fun g=>g.1≤g.2∧g.2≤l.length∧(∀i x,i<g.1→l[i]? =some x→cmpT n x<0)∧(∀i x,g.2≤i→l[i]? =some x→0≤cmpT n x)) (fun g=>g.2-g.1) (0,l.length) ?_ ?_ ?_
 ·exact⟨Nat.zero_le _,Nat.le_refl _,fun i x hi=>by omega,fun i x hi hx=>by rw[List.getElem?_eq_none hi]at hx;cases hx⟩
 ·simp
 rintro⟨lo,hi⟩ ⟨h1,h2,h3,h4⟩
 simp only at h1 h2 h3 h4
 by_cases hlt:lo<hi
 ·have hm:=half_eq lo hi (by omega) (by omega)
  have hml:(lo+hi) / 2<l.length:=by omega
  obtain⟨m,hmm⟩:∃m,m=(lo+hi) / 2:=⟨_,rfl⟩
  rw[←hmm]at hm hml
  have hg:=List.getElem?_eq_getElem hml
  have hw1:IntKind.i64.wrap (m+1)=(m+1:Nat):=wrap64 (by omega) (by omega)
  simp[hlt,hm,hml,hg]
  generalize l[m]=x at*
  first|refine CallK.same (cmpT_spec x n) rfl rfl ?_|refine CallQ.same (cmpT_spec x n) rfl rfl ?_|refine CallQG.same _ (cmpT_spec x n) rfl ?_|refine CallG.same _ (cmpT_spec x n) rfl ?_|refine CallK.pv (cmpT_spec x n) rfl rfl ?_
  simp[hw1]
  refine⟨fun hc=>?_,fun hc=>?_⟩
  ·refine Again.plain (m+1,hi) ⟨by omega,h2,fun i y hi' hy=>?_,h4⟩ (by simp only;omega) (by simp)
   exact hs i m y x (by omega) hy hg hc
  ·refine Again.plain (lo,m) ⟨by omega,by omega,h3,fun i y hi' hy=>?_⟩ (by simp only;omega) (by simp)
   apply Classical.byContradiction
   intro hc'
   have:=hs m i x y hi' hg hy (by omega)
   omega
 ·have:lo=hi:=by omega
  subst this
  have hb:=bsI_eq (cmpT n) l lo h2 h3 (fun i x h5 h6=>by have:=h4 i x h5 h6;omega)
  by_cases hll:lo<l.length
  ·have hg:=List.getElem?_eq_getElem hll
   simp[hll]
   generalize l[lo]=x at*
   first|refine CallK.same (cmpT_spec x n) rfl rfl ?_|refine CallQ.same (cmpT_spec x n) rfl rfl ?_|refine CallQG.same _ (cmpT_spec x n) rfl ?_|refine CallG.same _ (cmpT_spec x n) rfl ?_|refine CallK.pv (cmpT_spec x n) rfl rfl ?_
   simp[bsF,hb,hg]
   rfl
  ·simp[hll,List.getElem?_eq_none (show l.length≤lo by omega)]
   refine CallG.off (.int .i64 0) ?_
   simp[bsF,hb,List.getElem?_eq_none (show l.length≤lo by omega)]
end Go.Am
namespace Go.Am
open Go.Proofs
theorem checkSL_sorted:∀{l:List Seat} {ah:Int},checkSL l ah=0→(∀x∈l,ah<x.router)∧l.Pairwise fun x y=>x.router<y.router
 |[],ah,h=>⟨fun x hx=>(by cases hx),List.Pairwise.nil⟩
 |x::l,ah,h=>by
  rw[checkSL]at h
  split at h
  ·cases h
  ·rename_i hc
   simp at hc
   obtain⟨h1,h2⟩:=checkSL_sorted h
   refine⟨fun y hy=>?_,List.Pairwise.cons h1 h2⟩
   rcases List.mem_cons.1 hy with rfl|hy
   ·exact hc.2
   ·have:=h1 y hy;omega
theorem zipOk_map:∀{l:List Router} {t:List Seat},zipOk l t=true→l.map Router.id=t.map Seat.router∧∀r∈l,routerOk r=true
 |[],[],_=>⟨rfl,fun r hr=>(by cases hr)⟩
 |r::l,s::t,h=>by
  simp[zipOk]at h
  obtain⟨⟨⟨h1,h2⟩,h3⟩,h4⟩:=h
  obtain⟨g1,g2⟩:=zipOk_map h4
  refine⟨by simp[h2,g1],fun x hx=>?_⟩
  rcases List.mem_cons.1 hx with rfl|hx
  ·exact h1
  ·exact g2 x hx
 |[],_::_,h=>by simp[zipOk]at h
 |_::_,[],h=>by simp[zipOk]at h
theorem netOk_routers {n:Net} (h:netOk n=true):(n.routers.Pairwise fun x y=>x.id<y.id)∧∀r∈n.routers,routerOk r=true:=by
 unfold netOk at h
 simp only[Bool.and_eq_true,beq_iff_eq]at h
 obtain⟨⟨⟨h1,h2⟩,h3⟩,h4⟩:=h
 obtain⟨g1,g2⟩:=zipOk_map h3
 refine⟨?_,g2⟩
 have:(n.seats.map Seat.router).Pairwise (·<·):=by
  unfold checkS at h1
  split at h1
  ·cases h1
  ·rw[List.pairwise_map];exact(checkSL_sorted h1).2
 rw[←g1,List.pairwise_map]at this
 exact this
theorem cmpT_neg (n:Int) (x:Router):cmpT n x<0↔x.id<n:=by
 unfold cmpT cmpI
 repeat' split
 all_goals omega
theorem cmpT_zero (n:Int) (x:Router):cmpT n x=0↔x.id=n:=by
 unfold cmpT cmpI
 repeat' split
 all_goals omega
theorem upT_of {l:List Router} (h:l.Pairwise fun x y=>x.id<y.id) (n:Int):upT (cmpT n) l:=by
 intro i j x y hij hx hy hc
 rw[cmpT_neg]at hc⊢
 rcases Nat.eq_or_lt_of_le hij with e|hlt
 ·subst e;rw[hx]at hy;cases hy;exact hc
 ·obtain⟨hi,e1⟩:=List.getElem?_eq_some_iff.1 hx
  obtain⟨hj,e2⟩:=List.getElem?_eq_some_iff.1 hy
  have:=List.pairwise_iff_getElem.1 h i j hi hj hlt
  rw[e1,e2]at this
  omega
def routerF (l:List Router) (n:Int):Option Router:=l.find? fun x=>decide (x.id=n)
theorem routerF_bs:∀{l:List Router} {n:Int},(l.Pairwise fun x y=>x.id<y.id)→routerF l n=if bsF (cmpT n) l then l[bsI (cmpT n) l]? else none
 |[],n,h=>rfl
 |x::l,n,h=>by
  have ih:=routerF_bs (n:=n) (List.Pairwise.of_cons h)
  unfold routerF bsF at*
  rw[bsI,List.find?_cons]
  by_cases h1:x.id<n
  ·have e1:cmpT n x<0:=(cmpT_neg n x).2 h1
   have e2:decide (x.id=n)=false:=by simp;omega
   simp only[e1,if_true,e2,List.getElem?_cons_succ]
   exact ih
  ·have e1:¬cmpT n x<0:=fun h=>h1 ((cmpT_neg n x).1 h)
   simp only[e1,if_false,List.getElem?_cons_zero]
   by_cases h2:x.id=n
   ·have:=(cmpT_zero n x).2 h2
    simp[h2,this]
   ·have h3:¬cmpT n x=0:=fun h=>h2 ((cmpT_zero n x).1 h)
    have hno:l.find? (fun x=>decide (x.id=n))=none:=by
     rw[List.find?_eq_none]
     intro y hy
     have:=List.rel_of_pairwise_cons h hy
     simp;omega
    simp[h2,h3,hno]
theorem place_spec (n:Net) (x:Int) (hs:upT (cmpT x) n.routers):
  FSpec Tryz.prog 254 [n.av,.int .i64 x] [] (.tup [.int .i64 (bsI (cmpT x) n.routers),.bool (bsF (cmpT x) n.routers)]) []:=by
 refine FSpec.of_flat (q:=[]) Tryz.func254 (by kernel_rfl) rfl Tryz.ntmps254 Tryz.results254 hP (by kernel_rfl) (by simp) (by first|rfl|simp) ?_
 simp
 first|refine CallK.same (bsT_spec n.routers x hs) rfl rfl ?_|refine CallQ.same (bsT_spec n.routers x hs) rfl rfl ?_|refine CallQG.same _ (bsT_spec n.routers x hs) rfl ?_|refine CallG.same _ (bsT_spec n.routers x hs) rfl ?_|refine CallK.pv (bsT_spec n.routers x hs) rfl rfl ?_
 simp
def doesF (n:Net) (x:Int) (six:Bool) (a:Addr4):Hop:=
 match routerF n.routers x with
 |none=>⟨0,0⟩
 |some r=>hopF r six a
theorem doesN_spec (n:Net) (x:Int) (six:Bool) (a:Addr4) (hok:netOk n=true) (hw:n.wf) (ha:a.wf) (hr:rightA six a=true):
  FSpec Tryz.prog 202 [n.av,.int .i64 x,.bool six,a.av] [] (doesF n x six a).av []:=by
 obtain⟨hp,hq⟩:=netOk_routers hok
 refine FSpec.of_flat (q:=[(4,.n 7)]) Tryz.func202 (by kernel_rfl) rfl Tryz.ntmps202 Tryz.results202 hP (by kernel_rfl) (by simp) (by first|rfl|simp) ?_
 simp
 first|refine CallK.same (place_spec n x (upT_of hp x)) rfl rfl ?_|refine CallQ.same (place_spec n x (upT_of hp x)) rfl rfl ?_|refine CallQG.same _ (place_spec n x (upT_of hp x)) rfl ?_|refine CallG.same _ (place_spec n x (upT_of hp x)) rfl ?_|refine CallK.pv (place_spec n x (upT_of hp x)) rfl rfl ?_
 simp
 unfold doesF
 rw[routerF_bs hp]
 cases hb:bsF (cmpT x) n.routers with
 |false=>simp
 |true=>
  obtain⟨r,hx⟩:=bsF_lt hb
  have hlt:=(List.getElem?_eq_some_iff.1 hx).1
  have hm:=List.mem_of_getElem? hx
  have heq:=(List.getElem?_eq_some_iff.1 hx).2
  simp[hx,hlt,heq]
  first|refine CallK.same (does_spec r six a (hw r hm) (hq r hm) ha hr) rfl rfl ?_|refine CallQ.same (does_spec r six a (hw r hm) (hq r hm) ha hr) rfl rfl ?_|refine CallQG.same _ (does_spec r six a (hw r hm) (hq r hm) ha hr) rfl ?_|refine CallG.same _ (does_spec r six a (hw r hm) (hq r hm) ha hr) rfl ?_|refine CallK.pv (does_spec r six a (hw r hm) (hq r hm) ha hr) rfl rfl ?_
  simp
set_option maxRecDepth 4000 in
theorem findr_spec (n:Net) (x:Int):FSpec Tryz.prog 167 [n.av,.int .i64 x] [] (.tup [((routerF n.routers x).getD ⟨0,false,[],[]⟩).av,.bool (routerF n.routers x).isSome]) []:=by
 refine FSpec.bd (enters_of Tryz.func167 (by kernel_rfl) rfl) fun hbd=>?_
 have hl:n.routers.length≤9223372036854775807:=by simp[maxLen]at hbd;exact hbd.2.1
 refine FSpec.of_z (q:=[]) Tryz.func167 (by kernel_rfl) rfl Tryz.ntmps167 Tryz.results167 hP (by kernel_rfl) (by simp) (by first|rfl|simp) ?_
 simp
 refine LoopK.os (fun k:Nat=>[(1,.int .i64 x),(4,.ptr 0 0),(9,.im (.sl 4 (n.routers.map Router.iv))),(10,.int .i64 n.routers.length),(11,.int .i64 k)])
  (fun _=>[.box 100 [.int .i64 0,.bool false,.im (.sc (.slice none 0 0)),.im (.sc (.slice none 0 0))]])
  (fun k=>k≤n.routers.length∧(n.routers.drop k).find? (fun y=>decide (y.id=x))=n.routers.find? (fun y=>decide (y.id=x))) (fun k=>n.routers.length-k) 0 [1] ⟨Nat.zero_le _,by simp⟩ (by simp) ?_
 rintro k ⟨hk,hR⟩
 by_cases hlt:k<n.routers.length
 ·have e1:IntKind.i64.wrap (k+1)=(k+1:Nat):=wrap64 (by omega) (by omega)
  rw[List.drop_eq_getElem_cons hlt,List.find?_cons]at hR
  simp[hlt,e1]
  generalize n.routers[k]=y at*
  refine⟨fun hy=>?_,fun hy=>?_⟩
  ·have:routerF n.routers x=some y:=by
    unfold routerF
    rw[←hR];simp[hy]
   simp only[this]
   refine EndZ.ret [] (.tup [y.av,.bool true]) (by simp) (by simp)
  ·refine Again.os (k+1) [0] ⟨hlt,?_⟩ (by omega) (by simp)
   rw[←hR];simp[hy]
 ·have:k=n.routers.length:=by omega
  subst this
  simp at hR
  have:routerF n.routers x=none:=by
   unfold routerF
   rw[←hR]
  simp only[this]
  simp
  refine EndZ.ret [] (.tup [.agg [.int .i64 0,.bool false,.im (.sc (.slice none 0 0)),.im (.sc (.slice none 0 0))],.bool false]) (by simp) (by simp)
theorem doesNr_spec (n:Net) (x:Int) (six:Bool) (a:Addr4) (hw:n.wf) (ha:a.wf):
  FSpec Tryz.prog 92 [n.av,.int .i64 x,.bool six,a.av] [] (doesF n x six a).av []:=by
 refine FSpec.of_flat (q:=[]) Tryz.func92 (by kernel_rfl) rfl Tryz.ntmps92 Tryz.results92 hP (by kernel_rfl) (by simp) (by first|rfl|simp) ?_
 simp
 first|refine CallK.same (findr_spec n x) rfl rfl ?_|refine CallQ.same (findr_spec n x) rfl rfl ?_|refine CallQG.same _ (findr_spec n x) rfl ?_|refine CallG.same _ (findr_spec n x) rfl ?_|refine CallK.pv (findr_spec n x) rfl rfl ?_
 simp
 unfold doesF
 cases hb:routerF n.routers x with
 |none=>simp
 |some r=>
  have hm:r∈n.routers:=List.mem_of_find?_eq_some hb
  simp
  first|refine CallK.same (doesr_spec r six a (hw r hm) ha) rfl rfl ?_|refine CallQ.same (doesr_spec r six a (hw r hm) ha) rfl rfl ?_|refine CallQG.same _ (doesr_spec r six a (hw r hm) ha) rfl ?_|refine CallG.same _ (doesr_spec r six a (hw r hm) ha) rfl ?_|refine CallK.pv (doesr_spec r six a (hw r hm) ha) rfl rfl ?_
  simp
end Go.Am
namespace Go.Am
open Go.Proofs
theorem netOk_len {n:Net} (h:netOk n=true):n.routers.length≤64:=by
 unfold netOk at h
 simp only[Bool.and_eq_true,beq_iff_eq]at h
 have:=checkS_len h.1.1.1
 omega
def putI (D:List Int) (i:Nat) (r:Int):List Int:=D.take i++r::D.drop i
theorem putI_len (D:List Int) (i:Nat) (r:Int) (h:i≤D.length):(putI D i r).length=D.length+1:=by simp[putI];omega
theorem putI_mem (D:List Int) (i:Nat) (r x:Int):x∈putI D i r↔x∈D∨x=r:=by
 unfold putI
 conv=>rhs;rw[←List.take_append_drop i D]
 simp only[List.mem_append,List.mem_cons]
 grind
theorem putI_sorted {D:List Int} {i:Nat} {r:Int} (hD:D.Pairwise (·<·)) (h1:∀x∈D.take i,x<r) (h2:∀x∈D.drop i,r<x):(putI D i r).Pairwise (·<·):=by
 unfold putI
 have h:=hD
 rw[←List.take_append_drop i D,List.pairwise_append]at h
 rw[List.pairwise_append]
 refine⟨h.1,List.pairwise_cons.2 ⟨h2,h.2.1⟩,fun x hx y hy=>?_⟩
 rcases List.mem_cons.1 hy with rfl|hy
 ·exact h1 x hx
 ·exact h.2.2 x hx y hy
theorem modL {α:Type}:∀(A:List α) (x:α) (B:List α) (f:α→α),(A++x::B).modify A.length f=A++f x::B
 |[],x,B,f=>rfl
 |a::A,x,B,f=>by
  have:=modL A x B f
  simp only[List.cons_append,List.length_cons,List.modify_succ_cons]
  rw[this]
theorem rowI_put (D:List Int) (i:Nat) (r:Int) (m m' q:Nat) (h:i≤D.length) (hm:m=D.length-i) (hm':m'=D.length+1-i) (hq:q=D.length+1):
  (List.take (i+1) (rowI D++[[IV.sc (.int .i64 0)]])++(List.take m (List.take m' (List.drop i (rowI D++[[IV.sc (.int .i64 0)]])))++List.drop q (rowI D++[[IV.sc (.int .i64 0)]]))).modify i (fun x=>IV.sc (.int .i64 r)::x.tail)=rowI (putI D i r):=by
 subst hm hm' hq
 have e0:(rowI D++[[IV.sc (.int .i64 0)]])=(D++[0]).map fun x=>[IV.sc (.int .i64 x)]:=by simp[rowI]
 have e1:List.take (D.length-i) (List.take (D.length+1-i) (List.drop i (D++[0])))=List.drop i D:=by
  rw[List.take_take,Nat.min_eq_left (by omega),List.drop_append,List.take_append]
  simp
  rw[List.take_of_length_le (by simp)]
 have e2:List.drop (D.length+1) (D++[0])=[]:=by simp
 rw[e0,←List.map_drop,←List.map_take,←List.map_take,←List.map_take,←List.map_drop,e1,e2]
 have e3:∃z,List.take (i+1) (D++[0])=List.take i D++[z]:=by
  have hl:i<(D++[0]).length:=by simp;omega
  refine⟨(D++[0])[i],?_⟩
  rw[List.take_add_one,List.getElem?_eq_getElem hl,List.take_append]
  simp
  omega
 obtain⟨z,e3⟩:=e3
 rw[e3,putI]
 have hti:(List.take i D).length=i:=by simp;omega
 simp only[rowI,List.map_append,List.map_cons,List.map_nil,List.append_nil,List.append_assoc,List.singleton_append]
 have hmod:=modL (List.map (fun x=>[IV.sc (.int .i64 x)]) (List.take i D)) [IV.sc (.int .i64 z)] (List.map (fun x=>[IV.sc (.int .i64 x)]) (List.drop i D)) (fun x=>IV.sc (.int .i64 r)::x.tail)
 rw[List.length_map,hti]at hmod
 exact hmod
end Go.Am
namespace Go.Am
open Go.Proofs
structure Ev where
 kind:Int
 router:Int
 seq:Int
 time:Int
 pfx:Pfx
 act:Act
 iface:Int
 peer:Int
@[simp] def Ev.iv (e:Ev):List IV:=[.sc (.int .u8 e.kind),.sc (.int .i64 e.router),.sc (.int .u64 e.seq),.sc (.int .i64 e.time),.sc (.bool e.pfx.six),.sc (.int .u64 e.pfx.addr.hi),.sc (.int .u64 e.pfx.addr.lo),.sc (.int .i64 e.pfx.len),.sc (.int .u8 e.act.kind),.sc (.int .i64 e.act.iface),.sc (.int .i64 e.iface),.sc (.int .i64 e.peer)]
@[simp] def Ev.av (e:Ev):AV:=.agg (e.iv.map .im)
theorem same11_spec (l:List Ev):FSpec Tryz.prog 34 [.im (.sl 12 (l.map Ev.iv)),.im (.sl 12 (l.map Ev.iv))] [] (.bool true) []:=by
 refine FSpec.bd (enters_of Tryz.func34 (by kernel_rfl) rfl) fun hbd=>?_
 have hl:l.length≤9223372036854775807:=by simp[maxLen]at hbd;exact hbd
 refine FSpec.of_flat (q:=[(6,.n 8)]) Tryz.func34 (by kernel_rfl) rfl Tryz.ntmps34 Tryz.results34 hP (by kernel_rfl) (by simp) (by first|rfl|simp) ?_
 simp
 refine LoopK.plain (fun k:Nat=>[(0,.im (.sl 12 (l.map Ev.iv))),(1,.im (.sl 12 (l.map Ev.iv))),(12,.int .i64 l.length),(13,.int .i64 k)])
  (fun k=>k≤l.length) (fun k=>l.length-k) 0 (Nat.zero_le _) (by simp) ?_
 intro k hk
 by_cases hlt:k<l.length
 ·have e1:IntKind.i64.wrap (k+1)=(k+1:Nat):=wrap64 (by omega) (by omega)
  simp[hlt,e1]
  refine Again.plain (k+1) hlt (by omega) (by simp)
 ·simp[hlt]
end Go.Am
namespace Go.Am
open Go.Proofs
theorem idM_spec (n:Int):FSpec Tryz.prog 394 [.int .i64 n] [] (.bool (idOk n)) []:=by
 refine FSpec.of_flat (q:=[]) Tryz.func394 (by kernel_rfl) rfl Tryz.ntmps394 Tryz.results394 hP (by kernel_rfl) (by simp) (by first|rfl|simp) ?_
 simp[idOk]
def headOk (e:Ev):Bool:=idOk e.router&&decide (1≤e.seq)&&decide (e.seq≤1099511627776)&&decide (0≤e.time)&&decide (e.time≤1099511627776)
def pfx0 (p:Pfx):Bool:=!p.six&&p.addr.hi==0&&p.addr.lo==0&&p.len==0
def act0 (a:Act):Bool:=a.kind==0&&a.iface==0
def tailOk (e:Ev):Bool:=
 if e.kind=1∨e.kind=2 then pfx0 e.pfx&&act0 e.act&&e.iface==0&&e.peer==0
 else if e.kind=3 then checkP e.pfx==0&&actOk e.act&&e.iface==0&&e.peer==0
 else if e.kind=4 then checkP e.pfx==0&&act0 e.act&&e.iface==0&&e.peer==0
 else if e.kind=5 then ifaceOk e.iface&&idOk e.peer&&pfx0 e.pfx&&act0 e.act
 else if e.kind=6 then ifaceOk e.iface&&e.peer==0&&pfx0 e.pfx&&act0 e.act
 else false
def evOk (e:Ev):Bool:=headOk e&&tailOk e
theorem evOk_head {e:Ev} (h:headOk e=true):evOk e=tailOk e:=by simp[evOk,h]
theorem head_bad {e:Ev} (hs:0≤e.seq) (h:(((idOk e.router=false∨e.seq=0)∨1099511627776<e.seq)∨e.time<0)∨1099511627776<e.time):evOk e=false:=by
 have:headOk e=false:=by
  unfold headOk
  rcases h with(((h|h)|h)|h)|h
  ·simp[h]
  ·simp[h]
  ·simp[show ¬e.seq≤1099511627776 by omega]
  ·simp[show ¬0≤e.time by omega]
  ·simp[show ¬e.time≤1099511627776 by omega]
 simp[evOk,this]
theorem head_good {e:Ev} (hs:0≤e.seq) (h1:idOk e.router=true) (h2:¬e.seq=0) (h3:e.seq≤1099511627776) (h4:0≤e.time) (h5:e.time≤1099511627776):evOk e=tailOk e:=
 evOk_head (by unfold headOk;simp[h1,h3,h4,h5,show 1≤e.seq by omega])
theorem kinds_of (k:Int):k=1∨k=2∨k=3∨k=4∨k=5∨k=6∨(¬k=1∧¬k=2∧¬k=3∧¬k=4∧¬k=5∧¬k=6):=by omega
set_option maxRecDepth 8000 in
set_option maxHeartbeats 2000000 in
theorem evOk_spec (e:Ev) (hs:0≤e.seq):FSpec Tryz.prog 357 [e.av] [] (.int .i64 (if evOk e then 0 else 2)) []:=by
 refine FSpec.of_flat (q:=[]) Tryz.func357 (by kernel_rfl) rfl Tryz.ntmps357 Tryz.results357 hP (by kernel_rfl) (by simp) (by first|rfl|simp) ?_
 simp -implicitDefEqProofs
 first|refine CallK.same (idM_spec e.router) rfl rfl ?_|refine CallQ.same (idM_spec e.router) rfl rfl ?_|refine CallQG.same _ (idM_spec e.router) rfl ?_|refine CallG.same _ (idM_spec e.router) rfl ?_|refine CallK.pv (idM_spec e.router) rfl rfl ?_
 rcases kinds_of e.kind with hk|hk|hk|hk|hk|hk|⟨k1,k2,k3,k4,k5,k6⟩
 ·simp -implicitDefEqProofs [hk]
  refine⟨head_bad hs,fun h1 h2 h3 h4 h5=>?_⟩
  rw[head_good hs h1 h2 h3 h4 h5]
  have ht:tailOk e=(pfx0 e.pfx&&act0 e.act&&e.iface==0&&e.peer==0):=by simp[tailOk,hk]
  rw[ht]
  refine⟨fun h=>?_,fun a b c d f g i j=>?_⟩
  ·unfold pfx0 act0
   grind
  ·simp[pfx0,act0, *]
 ·simp -implicitDefEqProofs [hk]
  refine⟨head_bad hs,fun h1 h2 h3 h4 h5=>?_⟩
  rw[head_good hs h1 h2 h3 h4 h5]
  have ht:tailOk e=(pfx0 e.pfx&&act0 e.act&&e.iface==0&&e.peer==0):=by simp[tailOk,hk]
  rw[ht]
  refine⟨fun h=>?_,fun a b c d f g i j=>?_⟩
  ·unfold pfx0 act0
   grind
  ·simp[pfx0,act0, *]
 ·simp -implicitDefEqProofs [hk]
  refine⟨head_bad hs,fun h1 h2 h3 h4 h5=>?_⟩
  have he:=head_good hs h1 h2 h3 h4 h5
  have ht:tailOk e=(checkP e.pfx==0&&actOk e.act&&e.iface==0&&e.peer==0):=by simp[tailOk,hk]
  rw[ht]at he
  first|refine CallK.same (actOk_spec e.act) rfl rfl ?_|refine CallQ.same (actOk_spec e.act) rfl rfl ?_|refine CallQG.same _ (actOk_spec e.act) rfl ?_|refine CallG.same _ (actOk_spec e.act) rfl ?_|refine CallK.pv (actOk_spec e.act) rfl rfl ?_
  simp -implicitDefEqProofs
  first|refine CallK.same (checkP_spec e.pfx) rfl rfl ?_|refine CallQ.same (checkP_spec e.pfx) rfl rfl ?_|refine CallQG.same _ (checkP_spec e.pfx) rfl ?_|refine CallG.same _ (checkP_spec e.pfx) rfl ?_|refine CallK.pv (checkP_spec e.pfx) rfl rfl ?_
  simp -implicitDefEqProofs [he]
  generalize checkP e.pfx=c
  generalize actOk e.act=ao
  try simp only[pfx0,act0]
  grind
 ·simp -implicitDefEqProofs [hk]
  refine⟨head_bad hs,fun h1 h2 h3 h4 h5=>?_⟩
  have he:=head_good hs h1 h2 h3 h4 h5
  have ht:tailOk e=(checkP e.pfx==0&&act0 e.act&&e.iface==0&&e.peer==0):=by simp[tailOk,hk]
  rw[ht]at he
  first|refine CallK.same (checkP_spec e.pfx) rfl rfl ?_|refine CallQ.same (checkP_spec e.pfx) rfl rfl ?_|refine CallQG.same _ (checkP_spec e.pfx) rfl ?_|refine CallG.same _ (checkP_spec e.pfx) rfl ?_|refine CallK.pv (checkP_spec e.pfx) rfl rfl ?_
  simp -implicitDefEqProofs [he]
  generalize checkP e.pfx=c
  try simp only[pfx0,act0]
  grind
 ·simp -implicitDefEqProofs [hk]
  refine⟨head_bad hs,fun h1 h2 h3 h4 h5=>?_⟩
  have he:=head_good hs h1 h2 h3 h4 h5
  have ht:tailOk e=(ifaceOk e.iface&&idOk e.peer&&pfx0 e.pfx&&act0 e.act):=by simp[tailOk,hk]
  rw[ht]at he
  first|refine CallK.same (idM_spec e.peer) rfl rfl ?_|refine CallQ.same (idM_spec e.peer) rfl rfl ?_|refine CallQG.same _ (idM_spec e.peer) rfl ?_|refine CallG.same _ (idM_spec e.peer) rfl ?_|refine CallK.pv (idM_spec e.peer) rfl rfl ?_
  simp -implicitDefEqProofs
  first|refine CallK.same (ifaceOk_spec e.iface) rfl rfl ?_|refine CallQ.same (ifaceOk_spec e.iface) rfl rfl ?_|refine CallQG.same _ (ifaceOk_spec e.iface) rfl ?_|refine CallG.same _ (ifaceOk_spec e.iface) rfl ?_|refine CallK.pv (ifaceOk_spec e.iface) rfl rfl ?_
  simp -implicitDefEqProofs [he]
  try simp only[pfx0,act0]
  grind
 ·simp -implicitDefEqProofs [hk]
  refine⟨head_bad hs,fun h1 h2 h3 h4 h5=>?_⟩
  have he:=head_good hs h1 h2 h3 h4 h5
  have ht:tailOk e=(ifaceOk e.iface&&e.peer==0&&pfx0 e.pfx&&act0 e.act):=by simp[tailOk,hk]
  rw[ht]at he
  first|refine CallK.same (ifaceOk_spec e.iface) rfl rfl ?_|refine CallQ.same (ifaceOk_spec e.iface) rfl rfl ?_|refine CallQG.same _ (ifaceOk_spec e.iface) rfl ?_|refine CallG.same _ (ifaceOk_spec e.iface) rfl ?_|refine CallK.pv (ifaceOk_spec e.iface) rfl rfl ?_
  simp -implicitDefEqProofs [he]
  try simp only[pfx0,act0]
  grind
 ·simp -implicitDefEqProofs [k1,k2,k3,k4,k5,k6]
  refine⟨head_bad hs,fun h1 h2 h3 h4 h5=>?_⟩
  have ht:tailOk e=false:=by simp[tailOk,k1,k2,k3,k4,k5,k6]
  simp[head_good hs h1 h2 h3 h4 h5,ht]
theorem head_badr {e:Ev} (h:((((e.router<0∨1048576<e.router)∨e.seq<1)∨1099511627776<e.seq)∨e.time<0)∨1099511627776<e.time):evOk e=false:=by
 have:headOk e=false:=by
  cases hh:headOk e with
  |false=>rfl
  |true=>
   unfold headOk idOk at hh
   simp at hh
   omega
 simp[evOk,this]
theorem head_goodr {e:Ev} (h0:0≤e.router) (h1:e.router≤1048576) (h2:1≤e.seq) (h3:e.seq≤1099511627776) (h4:0≤e.time) (h5:e.time≤1099511627776):evOk e=tailOk e:=
 evOk_head (by unfold headOk idOk;simp[h0,h1,h2,h3,h4,h5])
theorem zero_eq (x:Int):(0=x)=(x=0):=propext eq_comm
set_option maxRecDepth 8000 in
set_option maxHeartbeats 2000000 in
theorem evOkr_spec (e:Ev) (hw:e.pfx.addr.wf):FSpec Tryz.prog 347 [e.av] [] (.int .i64 (if evOk e then 0 else 2)) []:=by
 refine FSpec.of_flat (q:=[(10,.m [.p [] [],.p [] [],.p [1] [],.p [1] [],.p [] [],.e [53,50]]),(16,.m [.p [] [],.p [] [],.p [1] [],.p [1] [],.p [] [],.e [79,76]])]) Tryz.func347 (by kernel_rfl) rfl Tryz.ntmps347 Tryz.results347 hP (by kernel_rfl) (by simp) (by first|rfl|simp) ?_
 rcases kinds_of e.kind with hk|hk|hk|hk|hk|hk|⟨k1,k2,k3,k4,k5,k6⟩
 ·simp -implicitDefEqProofs [hk]
  refine⟨head_badr,fun h0 h1 h2 h3 h4 h5=>?_⟩
  have ht:tailOk e=(pfx0 e.pfx&&act0 e.act&&e.iface==0&&e.peer==0):=by simp[tailOk,hk]
  rw[head_goodr h0 h1 h2 h3 h4 h5,ht]
  simp only[pfx0,act0]
  grind
 ·simp -implicitDefEqProofs [hk]
  refine⟨head_badr,fun h0 h1 h2 h3 h4 h5=>?_⟩
  have ht:tailOk e=(pfx0 e.pfx&&act0 e.act&&e.iface==0&&e.peer==0):=by simp[tailOk,hk]
  rw[head_goodr h0 h1 h2 h3 h4 h5,ht]
  simp only[pfx0,act0]
  grind
 ·simp -implicitDefEqProofs [hk]
  refine⟨head_badr,fun h0 h1 h2 h3 h4 h5=>?_⟩
  have he:=head_goodr h0 h1 h2 h3 h4 h5
  have ht:tailOk e=(checkP e.pfx==0&&actOk e.act&&e.iface==0&&e.peer==0):=by simp[tailOk,hk]
  rw[ht]at he
  first|refine CallK.same (checkPr_spec e.pfx hw) rfl rfl ?_|refine CallQ.same (checkPr_spec e.pfx hw) rfl rfl ?_|refine CallQG.same _ (checkPr_spec e.pfx hw) rfl ?_|refine CallG.same _ (checkPr_spec e.pfx hw) rfl ?_|refine CallK.pv (checkPr_spec e.pfx hw) rfl rfl ?_
  simp -implicitDefEqProofs
  first|refine CallK.same (actOkr_spec e.act) rfl rfl ?_|refine CallQ.same (actOkr_spec e.act) rfl rfl ?_|refine CallQG.same _ (actOkr_spec e.act) rfl ?_|refine CallG.same _ (actOkr_spec e.act) rfl ?_|refine CallK.pv (actOkr_spec e.act) rfl rfl ?_
  simp -implicitDefEqProofs [he]
  generalize checkP e.pfx=c
  generalize actOk e.act=ao
  grind
 ·simp -implicitDefEqProofs [hk]
  refine⟨head_badr,fun h0 h1 h2 h3 h4 h5=>?_⟩
  have he:=head_goodr h0 h1 h2 h3 h4 h5
  have ht:tailOk e=(checkP e.pfx==0&&act0 e.act&&e.iface==0&&e.peer==0):=by simp[tailOk,hk]
  rw[ht]at he
  first|refine CallK.same (checkPr_spec e.pfx hw) rfl rfl ?_|refine CallQ.same (checkPr_spec e.pfx hw) rfl rfl ?_|refine CallQG.same _ (checkPr_spec e.pfx hw) rfl ?_|refine CallG.same _ (checkPr_spec e.pfx hw) rfl ?_|refine CallK.pv (checkPr_spec e.pfx hw) rfl rfl ?_
  simp -implicitDefEqProofs [he]
  generalize checkP e.pfx=c
  simp only[act0]
  grind
 ·simp -implicitDefEqProofs [hk]
  refine⟨head_badr,fun h0 h1 h2 h3 h4 h5=>?_⟩
  have ht:tailOk e=(ifaceOk e.iface&&idOk e.peer&&pfx0 e.pfx&&act0 e.act):=by simp[tailOk,hk]
  rw[head_goodr h0 h1 h2 h3 h4 h5,ht]
  simp only[pfx0,act0,ifaceOk,idOk,zero_eq]
  refine⟨fun h=>?_,fun a b c d f g i j k l=>?_⟩
  ·grind
  ·simp[*]
 ·simp -implicitDefEqProofs [hk]
  refine⟨head_badr,fun h0 h1 h2 h3 h4 h5=>?_⟩
  have ht:tailOk e=(ifaceOk e.iface&&e.peer==0&&pfx0 e.pfx&&act0 e.act):=by simp[tailOk,hk]
  rw[head_goodr h0 h1 h2 h3 h4 h5,ht]
  simp only[pfx0,act0,ifaceOk,zero_eq]
  refine⟨fun h=>?_,fun a b c d f g i j k=>?_⟩
  ·grind
  ·simp[*]
 ·simp -implicitDefEqProofs [k1,k2,k3,k4,k5,k6]
  have ht:tailOk e=false:=by simp[tailOk,k1,k2,k3,k4,k5,k6]
  exact⟨head_badr,fun h0 h1 h2 h3 h4 h5=>by rw[head_goodr h0 h1 h2 h3 h4 h5,ht]⟩
end Go.Am
namespace Go.Am
open Go.Proofs
def seatF:List Seat→Int→Option Seat
 |[],_=>none
 |s::l,r=>if s.router=r then some s else seatF l r
def seatI:List Seat→Int→Int→Int
 |[],_,_=> -1
 |s::l,r,k=>if s.router=r then k else seatI l r (k+1)
theorem seatI_F:∀(l:List Seat) (r k:Int),0≤k→(seatF l r=none∧seatI l r k= -1)∨∃(i:Nat) (s:Seat),l[i]? =some s∧seatF l r=some s∧seatI l r k=k+i
 |[],r,k,_=>.inl ⟨rfl,rfl⟩
 |x::l,r,k,hk=>by
  rw[seatF,seatI]
  by_cases h:x.router=r
  ·rw[if_pos h,if_pos h]
   exact .inr ⟨0,x,rfl,rfl,by simp⟩
  ·rw[if_neg h,if_neg h]
   rcases seatI_F l r (k+1) (by omega)with h|⟨i,s,h1,h2,h3⟩
   ·exact .inl h
   ·exact .inr ⟨i+1,s,by simpa using h1,h2,by rw[h3];omega⟩
def seat0:Seat:=⟨0,0,0,false⟩
theorem find1_spec (s:Seat) (r:Int):FSpec Tryz.prog 420 [s.av,.ptr 0 0] [.box 3 [.int .i64 r]] (.bool (s.router==r)) [.box 3 [.int .i64 r]]:=by
 refine FSpec.of_o (q:=[]) Tryz.func420 (by kernel_rfl) rfl Tryz.ntmps420 Tryz.results420 hP (by kernel_rfl) (by simp) (by first|rfl|simp) ?_
 simp
 refine EndO.ret [] [0] _ rfl ?_
 simp
theorem indexF_spec (l:List Seat) (r:Int) (hl:l.length≤9223372036854775807):
  FSpec Tryz.prog 220 [.im (.sl 4 (l.map Seat.iv)),.fn 420 [.ptr 0 0]] [.box 3 [.int .i64 r]] (.int .i64 (seatI l r 0)) [.box 3 [.int .i64 r]]:=by
 refine FSpec.of_o (q:=[]) Tryz.func220 (by kernel_rfl) rfl Tryz.ntmps220 Tryz.results220 hP (by kernel_rfl) (by simp) (by first|rfl|simp) ?_
 simp
 refine LoopK.os (fun k:Nat=>[(0,.im (.sl 4 (l.map Seat.iv))),(1,.fn 420 [.ptr 0 0]),(7,.int .i64 l.length),(8,.int .i64 k)])
  (fun _=>[.box 3 [.int .i64 r]])
  (fun k=>k≤l.length∧seatI (l.drop k) r k=seatI l r 0) (fun k=>l.length-k) 0 [0] ⟨Nat.zero_le _,by simp⟩ (by simp) ?_
 rintro k ⟨hk,hR⟩
 by_cases hlt:k<l.length
 ·have e1:IntKind.i64.wrap (k+1)=(k+1:Nat):=wrap64 (by omega) (by omega)
  rw[List.drop_eq_getElem_cons hlt,seatI]at hR
  simp -implicitDefEqProofs [hlt,e1]
  refine CallO.mk [] [0] (find1_spec l[k] r) (by simp) rfl (by simp) (by simp) (by simp) ?_
  simp -implicitDefEqProofs
  refine⟨fun h=>?_,fun h=>?_⟩
  ·rw[if_pos h]at hR
   refine EndO.ret [] [0] _ rfl ?_
   simp[←hR]
  ·rw[if_neg h]at hR
   refine Again.os (k+1) [0] ⟨hlt,by simpa using hR⟩ (by omega) ?_
   simp[e1]
 ·have hkk:k=l.length:=by omega
  subst hkk
  rw[List.drop_length,seatI]at hR
  simp
  refine EndO.ret [] [0] _ rfl ?_
  simp[←hR]
theorem findO_spec (l:List Seat) (r:Int):FSpec Tryz.prog 393 [.im (.sl 4 (l.map Seat.iv)),.int .i64 r] [] (.tup [((seatF l r).getD seat0).av,.bool (seatF l r).isSome]) []:=by
 refine FSpec.bd (enters_of Tryz.func393 (by kernel_rfl) rfl) fun hbd=>?_
 have hl:l.length≤9223372036854775807:=by simp[maxLen]at hbd;exact hbd
 refine FSpec.of_z (q:=[]) Tryz.func393 (by kernel_rfl) rfl Tryz.ntmps393 Tryz.results393 hP (by kernel_rfl) (by simp) (by first|rfl|simp) ?_
 simp
 refine CallO.mk [] [0] (indexF_spec l r hl) (by simp) rfl (by simp) (by simp) (by simp) ?_
 simp
 rcases seatI_F l r 0 (Int.le_refl _)with⟨h1,h2⟩|⟨i,s,h1,h2,h3⟩
 ·simp[h2]
  refine EndZ.ret [] (.tup [seat0.av,.bool false]) (by simp[seat0]) ?_
  simp[h1]
 ·have hlt:=(List.getElem?_eq_some_iff.1 h1).1
  have hg:=(List.getElem?_eq_some_iff.1 h1).2
  rw[Int.zero_add]at h3
  simp[h3,h1,hlt,hg]
  refine⟨fun h=>by omega,?_⟩
  refine EndZ.ret [] (.tup [s.av,.bool true]) (by simp) ?_
  simp[h2]
theorem findR_spec (l:List Seat) (r:Int):FSpec Tryz.prog 348 [.im (.sl 4 (l.map Seat.iv)),.int .i64 r] [] (.tup [((seatF l r).getD seat0).av,.bool (seatF l r).isSome]) []:=by
 refine FSpec.bd (enters_of Tryz.func348 (by kernel_rfl) rfl) fun hbd=>?_
 have hl:l.length≤9223372036854775807:=by simp[maxLen]at hbd;exact hbd
 refine FSpec.of_z (q:=[]) Tryz.func348 (by kernel_rfl) rfl Tryz.ntmps348 Tryz.results348 hP (by kernel_rfl) (by simp) (by first|rfl|simp) ?_
 simp
 refine LoopK.os (fun k:Nat=>[(1,.int .i64 r),(4,.ptr 0 0),(8,.im (.sl 4 (l.map Seat.iv))),(9,.int .i64 l.length),(10,.int .i64 k)])
  (fun _=>[.box 228 [.int .i64 0,.int .u64 0,.int .i64 0,.bool false]])
  (fun k=>k≤l.length∧seatF (l.drop k) r=seatF l r) (fun k=>l.length-k) 0 [0] ⟨Nat.zero_le _,by simp⟩ (by simp) ?_
 rintro k ⟨hk,hR⟩
 by_cases hlt:k<l.length
 ·have e1:IntKind.i64.wrap (k+1)=(k+1:Nat):=wrap64 (by omega) (by omega)
  rw[List.drop_eq_getElem_cons hlt,seatF]at hR
  simp -implicitDefEqProofs [hlt,e1]
  refine⟨fun h=>?_,fun h=>?_⟩
  ·rw[if_pos h]at hR
   refine EndZ.ret [] (.tup [l[k].av,.bool true]) (by simp) ?_
   simp[←hR]
  ·rw[if_neg h]at hR
   refine Again.os (k+1) [0] ⟨hlt,hR⟩ (by omega) ?_
   simp
 ·have hkk:k=l.length:=by omega
  subst hkk
  rw[List.drop_length,seatF]at hR
  simp
  refine EndZ.ret [] (.tup [seat0.av,.bool false]) (by simp[seat0]) ?_
  simp[←hR]
end Go.Am
namespace Go.Am
open Go.Proofs
def mayS (l:List Seat) (e:Ev) (hz:Int):Int:=
 if ¬checkS l=0∨evOk e=false then 2
 else if hz< -1∨1099511627776<hz then 1
 else if seatF l e.router=none∧¬e.kind=1 then 14
 else if ¬e.seq=((seatF l e.router).getD seat0).seq+1 then 12
 else if e.time<((seatF l e.router).getD seat0).time∨e.time≤hz then 13
 else if((seatF l e.router).getD seat0).up=decide (e.kind=1)then 10
 else if seatF l e.router=none∧l.length=64 then 8
 else 0
def mayT (l:List Seat) (e:Ev) (hz:Int):Int:=
 if seatF l e.router=none∧¬e.kind=1 then 14
 else if ¬e.seq=((seatF l e.router).getD seat0).seq+1 then 12
 else if e.time<((seatF l e.router).getD seat0).time∨e.time≤hz then 13
 else if((seatF l e.router).getD seat0).up=decide (e.kind=1)then 10
 else if seatF l e.router=none∧l.length=64 then 8
 else 0
theorem mayS_T {l:List Seat} {e:Ev} {hz:Int} (a1:checkS l=0) (a2:evOk e=true) (a3: -1≤hz) (a4:hz≤1099511627776):mayS l e hz=mayT l e hz:=by
 unfold mayS
 rw[if_neg (by simp[a1,a2]),if_neg (by omega)]
 rfl
theorem wrapU6 {x:Int} (h0:0≤x) (h1:x≤18446744073709551615):IntKind.u64.wrap x=x:=by
 simp[IntKind.wrap,IntKind.signed,IntKind.bits]
 omega
theorem checkSL_mem:∀{l:List Seat} {a:Int},checkSL l a=0→∀s∈l,rightS s=true
 |[],_,_,s,h=>by cases h
 |x::l,a,hc,s,h=>by
  rw[checkSL]at hc
  split at hc
  ·omega
  ·rename_i hx
   simp at hx
   rcases List.mem_cons.1 h with rfl|h
   ·exact hx.1
   ·exact checkSL_mem hc s h
theorem checkS_mem {l:List Seat} (hc:checkS l=0):∀s∈l,rightS s=true:=by
 unfold checkS at hc
 split at hc
 ·omega
 ·exact checkSL_mem hc
theorem seatF_mem:∀{l:List Seat} {r:Int} {s:Seat},seatF l r=some s→s∈l∧s.router=r
 |[],_,_,h=>by cases h
 |x::l,r,s,h=>by
  rw[seatF]at h
  split at h
  ·cases h;exact⟨List.mem_cons_self,by assumption⟩
  ·have:=seatF_mem h
   exact⟨List.mem_cons_of_mem _ this.1,this.2⟩
theorem seat_seq {l:List Seat} (hc:checkS l=0) (r:Int):0≤((seatF l r).getD seat0).seq∧((seatF l r).getD seat0).seq≤1099511627776:=by
 cases h:seatF l r with
 |none=>simp[seat0]
 |some s=>
  have:=checkS_mem hc s (seatF_mem h).1
  unfold rightS at this
  simp at this
  simp
  omega
theorem evOk_seq {e:Ev} (h:evOk e=true):1≤e.seq∧e.seq≤1099511627776:=by
 unfold evOk headOk at h
 simp at h
 omega
set_option maxRecDepth 8000 in
set_option maxHeartbeats 2000000 in
theorem mayR_spec (l:List Seat) (e:Ev) (hz:Int) (hw:e.pfx.addr.wf):
  FSpec Tryz.prog 281 [.im (.sl 4 (l.map Seat.iv)),e.av,.int .i64 hz] [] (.int .i64 (mayS l e hz)) []:=by
 have hc:=checkSr_spec l
 have he:=evOkr_spec e hw
 have hf:=findR_spec l e.router
 refine FSpec.of_flat (q:=[]) Tryz.func281 (by kernel_rfl) rfl Tryz.ntmps281 Tryz.results281 hP (by kernel_rfl) (by simp) (by first|rfl|simp) ?_
 simp -implicitDefEqProofs
 first|refine CallK.same (hc) rfl rfl ?_|refine CallQ.same (hc) rfl rfl ?_|refine CallQG.same _ (hc) rfl ?_|refine CallG.same _ (hc) rfl ?_|refine CallK.pv (hc) rfl rfl ?_
 simp -implicitDefEqProofs
 first|refine CallK.same (he) rfl rfl ?_|refine CallQ.same (he) rfl rfl ?_|refine CallQG.same _ (he) rfl ?_|refine CallG.same _ (he) rfl ?_|refine CallK.pv (he) rfl rfl ?_
 simp -implicitDefEqProofs
 refine⟨fun h=>?_,fun a1 a2=>⟨fun h=>?_,fun a3 a4=>?_⟩⟩
 ·unfold mayS
  rw[if_pos (by grind)]
 ·unfold mayS
  rw[if_neg (by grind),if_pos (by grind)]
 first|refine CallK.same (hf) rfl rfl ?_|refine CallQ.same (hf) rfl rfl ?_|refine CallQG.same _ (hf) rfl ?_|refine CallG.same _ (hf) rfl ?_|refine CallK.pv (hf) rfl rfl ?_
 simp -implicitDefEqProofs
 rw[mayS_T a1 a2 a3 a4]
 have hq:=seat_seq a1 e.router
 rw[wrapU6 (by omega) (by omega)]
 unfold mayT
 generalize hS:((seatF l e.router).getD seat0)=S at*
 have hl:((l.length:Int)=64)=(l.length=64):=by apply propext;omega
 rw[hl]
 grind
theorem asked_spec (l:List Seat) (e:Ev) (hz:Int) (hsq:0≤e.seq):
  FSpec Tryz.prog 355 [.im (.sl 4 (l.map Seat.iv)),e.av,.int .i64 hz] [] (.int .i64 (if ¬checkS l=0∨evOk e=false then 2 else if hz< -1∨1099511627776<hz then 1 else 0)) []:=by
 have hc:=checkS_spec l
 have he:=evOk_spec e hsq
 refine FSpec.of_flat (q:=[]) Tryz.func355 (by kernel_rfl) rfl Tryz.ntmps355 Tryz.results355 hP (by kernel_rfl) (by simp) (by first|rfl|simp) ?_
 simp -implicitDefEqProofs
 first|refine CallK.same (hc) rfl rfl ?_|refine CallQ.same (hc) rfl rfl ?_|refine CallQG.same _ (hc) rfl ?_|refine CallG.same _ (hc) rfl ?_|refine CallK.pv (hc) rfl rfl ?_
 simp -implicitDefEqProofs
 first|refine CallK.same (he) rfl rfl ?_|refine CallQ.same (he) rfl rfl ?_|refine CallQG.same _ (he) rfl ?_|refine CallG.same _ (he) rfl ?_|refine CallK.pv (he) rfl rfl ?_
 simp -implicitDefEqProofs
 grind
set_option maxRecDepth 8000 in
set_option maxHeartbeats 2000000 in
theorem fits_spec (l:List Seat) (e:Ev) (hz:Int) (a1:checkS l=0) (a2:evOk e=true):
  FSpec Tryz.prog 356 [.im (.sl 4 (l.map Seat.iv)),e.av,.int .i64 hz] [] (.int .i64 (mayT l e hz)) []:=by
 have hf:=findO_spec l e.router
 refine FSpec.of_flat (q:=[]) Tryz.func356 (by kernel_rfl) rfl Tryz.ntmps356 Tryz.results356 hP (by kernel_rfl) (by simp) (by first|rfl|simp) ?_
 simp -implicitDefEqProofs
 first|refine CallK.same (hf) rfl rfl ?_|refine CallQ.same (hf) rfl rfl ?_|refine CallQG.same _ (hf) rfl ?_|refine CallG.same _ (hf) rfl ?_|refine CallK.pv (hf) rfl rfl ?_
 simp -implicitDefEqProofs
 have hq:=seat_seq a1 e.router
 have hes:=evOk_seq a2
 have hlen:=checkS_len a1
 rw[wrapU6 (by omega) (by omega)]
 unfold mayT
 generalize hS:((seatF l e.router).getD seat0)=S at*
 have hl:(64≤(l.length:Int))=(l.length=64):=by apply propext;omega
 have hl2:((l.length:Int)<64)=¬(l.length=64):=by apply propext;omega
 have hsq:(e.seq-1=S.seq)=(e.seq=S.seq+1):=by apply propext;omega
 rw[hl,hl2,hsq]
 grind
theorem mayO_spec (l:List Seat) (e:Ev) (hz:Int) (hsq:0≤e.seq):
  FSpec Tryz.prog 288 [.im (.sl 4 (l.map Seat.iv)),e.av,.int .i64 hz] [] (.int .i64 (mayS l e hz)) []:=by
 have ha:=asked_spec l e hz hsq
 refine FSpec.of_flat (q:=[]) Tryz.func288 (by kernel_rfl) rfl Tryz.ntmps288 Tryz.results288 hP (by kernel_rfl) (by simp) (by first|rfl|simp) ?_
 simp -implicitDefEqProofs
 first|refine CallK.same (ha) rfl rfl ?_|refine CallQ.same (ha) rfl rfl ?_|refine CallQG.same _ (ha) rfl ?_|refine CallG.same _ (ha) rfl ?_|refine CallK.pv (ha) rfl rfl ?_
 simp -implicitDefEqProofs
 by_cases A:¬checkS l=0∨evOk e=false
 ·have hm:mayS l e hz=2:=by unfold mayS;rw[if_pos A]
  simp[A,hm]
 ·by_cases B:hz< -1∨1099511627776<hz
  ·have hm:mayS l e hz=1:=by unfold mayS;rw[if_neg A,if_pos B]
   simp[A,B,hm]
  ·have a1:checkS l=0:=by grind
   have a2:evOk e=true:=by grind
   rw[if_neg A,if_neg B]
   simp -implicitDefEqProofs
   have hfit:=fits_spec l e hz a1 a2
   rw[←mayS_T a1 a2 (by omega) (by omega)]at hfit
   first|refine CallK.same (hfit) rfl rfl ?_|refine CallQ.same (hfit) rfl rfl ?_|refine CallQG.same _ (hfit) rfl ?_|refine CallG.same _ (hfit) rfl ?_|refine CallK.pv (hfit) rfl rfl ?_
   simp -implicitDefEqProofs
end Go.Am
namespace Go.Am
open Go.Proofs
def seatOf (e:Ev):Seat:=⟨e.router,e.seq,e.time,e.kind != 2⟩
def putSeat (l:List Seat) (s:Seat):List Seat:=l.filter (fun x=>decide (x.router<s.router))++[s]++l.filter (fun x=>decide (s.router<x.router))
def nextS (l:List Seat) (e:Ev) (hz:Int):List Seat×Int:=
 if mayS l e hz=2∨mayS l e hz=1 then([],mayS l e hz)else if ¬mayS l e hz=0 then(l,mayS l e hz)else(putSeat l (seatOf e),0)
theorem filter_take {α:Type} (p:α→Bool) (l:List α) (k:Nat) (h:k<l.length):(l.take (k+1)).filter p=if p l[k]then(l.take k).filter p++[l[k]]else(l.take k).filter p:=by
 rw[List.take_add_one,List.getElem?_eq_getElem h,List.filter_append]
 simp only[Option.toList_some]
 cases hp:p l[k]<;>simp[hp]
set_option maxRecDepth 8000 in
set_option maxHeartbeats 2000000 in
theorem nextR_spec (l:List Seat) (e:Ev) (hz:Int) (hw:e.pfx.addr.wf) (hl:l.length≤100000000):
  FSpec Tryz.prog 284 [.im (.sl 4 (l.map Seat.iv)),e.av,.int .i64 hz] [] (.tup [.im (.sl 4 ((nextS l e hz).1.map Seat.iv)),.int .i64 (nextS l e hz).2]) []:=by
 have hm:=mayR_spec l e hz hw
 refine FSpec.of_z (q:=[]) Tryz.func284 (by kernel_rfl) rfl Tryz.ntmps284 Tryz.results284 hP (by kernel_rfl) (by simp) (by first|rfl|simp) ?_
 simp -implicitDefEqProofs
 first|refine CallK.same (hm) rfl rfl ?_|refine CallQ.same (hm) rfl rfl ?_|refine CallQG.same _ (hm) rfl ?_|refine CallG.same _ (hm) rfl ?_|refine CallK.pv (hm) rfl rfl ?_
 simp -implicitDefEqProofs
 unfold nextS
 generalize mayS l e hz=why at*
 refine⟨fun h=>?_,fun b1 b2=>⟨fun h=>?_,fun h0=>?_⟩⟩
 ·refine EndZ.ret [] (.tup [.im (.sc (.slice none 0 0)),.int .i64 why]) (by simp) ?_
  simp[h]
 ·refine⟨⟨by omega,by unfold maxLen;omega⟩,?_⟩
  refine EndZ.ret [2] (.tup [.row 2,.int .i64 why]) (by simp) ?_
  simp[b1,b2,h]
 ·subst h0
  refine LoopK.nil (.sl 10 228 4) ?_
  simp -implicitDefEqProofs
  refine LoopK.os (fun k:Nat=>[(0,.im (.sl 4 (l.map Seat.iv))),(4,.ptr 0 0),(9,.ptr 1 0),(10,.row 2),(42,.im (.sl 4 (l.map Seat.iv))),(43,.int .i64 l.length),(44,.int .i64 k)])
   (fun k=>[.box 79 (e.iv.map .im),.box 228 ((seatOf e).iv.map .im),.row 228 4 (((l.take k).filter (fun x=>decide (x.router<e.router))).map Seat.iv)])
   (fun k=>k≤l.length) (fun k=>l.length-k) 0 [0,1,2] (Nat.zero_le _) (by simp[seatOf]) ?_
  intro k hk
  by_cases hlt:k<l.length
  ·have e1:IntKind.i64.wrap (k+1)=(k+1:Nat):=wrap64 (by omega) (by omega)
   have hft:=filter_take (fun x=>decide (x.router<e.router)) l k hlt
   have hfl:((l.take k).filter (fun x=>decide (x.router<e.router))).length≤k:=by
    have:=List.length_filter_le (fun x=>decide (x.router<e.router)) (l.take k)
    rw[List.length_take]at this
    omega
   simp -implicitDefEqProofs [hlt]
   refine⟨fun h=>?_,fun h=>?_⟩
   ·refine⟨⟨by omega,by unfold maxLen;omega⟩,?_⟩
    rw[if_pos (by simpa using h)]at hft
    refine Again.os (k+1) [0,1,5] hlt (by omega) ?_
    simp -implicitDefEqProofs [e1,hft]
   ·rw[if_neg (by simpa using h)]at hft
    refine Again.os (k+1) [0,1,2] hlt (by omega) ?_
    simp -implicitDefEqProofs [e1,hft]
  ·have hkk:k=l.length:=by omega
   subst hkk
   have hfl:(l.filter (fun x=>decide (x.router<e.router))).length≤l.length:=List.length_filter_le _ _
   simp -implicitDefEqProofs
   refine⟨⟨by omega,by unfold maxLen;omega⟩,?_⟩
   refine LoopK.os (fun k:Nat=>[(4,.ptr 0 0),(10,.row 1),(62,.im (.sl 4 (l.map Seat.iv))),(63,.int .i64 l.length),(64,.int .i64 k)])
    (fun k=>[.box 79 (e.iv.map .im),.row 228 4 ((l.filter (fun x=>decide (x.router<e.router))++[seatOf e]++(l.take k).filter (fun x=>decide (e.router<x.router))).map Seat.iv)])
    (fun k=>k≤l.length) (fun k=>l.length-k) 0 [0,4] (Nat.zero_le _) (by simp) ?_
   clear hk hlt
   intro k hk
   by_cases hlt:k<l.length
   ·have e1:IntKind.i64.wrap (k+1)=(k+1:Nat):=wrap64 (by omega) (by omega)
    have hft:=filter_take (fun x=>decide (e.router<x.router)) l k hlt
    have hf2:((l.take k).filter (fun x=>decide (e.router<x.router))).length≤k:=by
     have:=List.length_filter_le (fun x=>decide (e.router<x.router)) (l.take k)
     rw[List.length_take]at this
     omega
    simp -implicitDefEqProofs [hlt]
    refine⟨fun h=>?_,fun h=>?_⟩
    ·refine⟨⟨by omega,by unfold maxLen;omega⟩,?_⟩
     rw[if_pos (by simpa using h)]at hft
     refine Again.os (k+1) [0,4] hlt (by omega) ?_
     simp -implicitDefEqProofs [e1,hft]
    ·rw[if_neg (by simpa using h)]at hft
     refine Again.os (k+1) [0,1] hlt (by omega) ?_
     simp -implicitDefEqProofs [e1,hft]
   ·have hkk:k=l.length:=by omega
    subst hkk
    simp -implicitDefEqProofs
    refine EndZ.ret [1] (.tup [.row 1,.int .i64 0]) (by simp) ?_
    simp -implicitDefEqProofs [putSeat,seatOf]
    rfl
end Go.Am
namespace Go.Am
open Go.Proofs
def ltL (i:Int) (l:List Link):List Link:=l.filter fun x=>decide (x.iface<i)
def eqL (i:Int) (l:List Link):List Link:=l.filter fun x=>decide (x.iface=i)
def gtL (i:Int) (l:List Link):List Link:=l.filter fun x=>decide (i<x.iface)
theorem ltL_len (i:Int) (l:List Link):(ltL i l).length≤l.length:=List.length_filter_le _ _
theorem eqL_len (i:Int) (l:List Link):(eqL i l).length≤l.length:=List.length_filter_le _ _
theorem gtL_len (i:Int) (l:List Link):(gtL i l).length≤l.length:=List.length_filter_le _ _
theorem ltL_take (i:Int) (l:List Link) (k:Nat) (h:k<l.length):ltL i (l.take (k+1))=if l[k].iface<i then ltL i (l.take k)++[l[k]]else ltL i (l.take k):=by
 unfold ltL;rw[filter_take _ _ _ h];simp
theorem eqL_take (i:Int) (l:List Link) (k:Nat) (h:k<l.length):eqL i (l.take (k+1))=if l[k].iface=i then eqL i (l.take k)++[l[k]]else eqL i (l.take k):=by
 unfold eqL;rw[filter_take _ _ _ h];simp
theorem gtL_take (i:Int) (l:List Link) (k:Nat) (h:k<l.length):gtL i (l.take (k+1))=if i<l[k].iface then gtL i (l.take k)++[l[k]]else gtL i (l.take k):=by
 unfold gtL;rw[filter_take _ _ _ h];simp
theorem ltL_nil (i:Int):ltL i []=[]:=rfl
theorem eqL_nil (i:Int):eqL i []=[]:=rfl
theorem gtL_nil (i:Int):gtL i []=[]:=rfl
set_option maxRecDepth 8000 in
set_option maxHeartbeats 2000000 in
theorem parts_spec (l:List Link) (i:Int) (hl:l.length≤100000000):
  FSpec Tryz.prog 392 [.im (.sl 2 (l.map Link.iv)),.int .i64 i] [] (.tup [.row 0,.row 1,.row 2]) [.row 325 2 ((ltL i l).map Link.iv),.row 325 2 ((eqL i l).map Link.iv),.row 325 2 ((gtL i l).map Link.iv)]:=by
 refine FSpec.of_o (q:=[]) Tryz.func392 (by kernel_rfl) rfl Tryz.ntmps392 Tryz.results392 hP (by kernel_rfl) (by simp) (by first|rfl|simp) ?_
 simp -implicitDefEqProofs
 refine LoopK.nil (.sl 7 325 2) ?_
 refine LoopK.nil (.sl 8 325 2) ?_
 refine LoopK.nil (.sl 9 325 2) ?_
 simp -implicitDefEqProofs
 refine LoopK.os (fun k:Nat=>[(1,.int .i64 i),(7,.row 0),(8,.row 1),(9,.row 2),(12,.im (.sl 2 (l.map Link.iv))),(13,.int .i64 l.length),(14,.int .i64 k)])
  (fun k=>[.row 325 2 ((ltL i (l.take k)).map Link.iv),.row 325 2 ((eqL i (l.take k)).map Link.iv),.row 325 2 ((gtL i (l.take k)).map Link.iv)])
  (fun k=>k≤l.length) (fun k=>l.length-k) 0 [0,1,2] (Nat.zero_le _) (by simp[ltL_nil,eqL_nil,gtL_nil]) ?_
 intro k hk
 by_cases hlt:k<l.length
 ·have e1:IntKind.i64.wrap (k+1)=(k+1:Nat):=wrap64 (by omega) (by omega)
  have g1:=ltL_take i l k hlt
  have g2:=eqL_take i l k hlt
  have g3:=gtL_take i l k hlt
  have b1:=ltL_len i (l.take k)
  have b2:=eqL_len i (l.take k)
  have b3:=gtL_len i (l.take k)
  rw[List.length_take]at b1 b2 b3
  simp -implicitDefEqProofs [hlt]
  refine⟨fun h=>?_,fun h=>⟨fun h2=>?_,fun h2=>?_⟩⟩
  ·refine⟨⟨by omega,by unfold maxLen;omega⟩,?_⟩
   rw[if_pos h]at g1
   rw[if_neg (by omega)]at g2 g3
   refine Again.os (k+1) [5,1,2] hlt (by omega) ?_
   simp -implicitDefEqProofs [e1,g1,g2,g3]
  ·refine⟨⟨by omega,by unfold maxLen;omega⟩,?_⟩
   rw[if_pos h2]at g2
   rw[if_neg (by omega)]at g1 g3
   refine Again.os (k+1) [0,5,2] hlt (by omega) ?_
   simp -implicitDefEqProofs [e1,g1,g2,g3]
  ·refine⟨⟨by omega,by unfold maxLen;omega⟩,?_⟩
   rw[if_pos (by omega)]at g3
   rw[if_neg (by omega)]at g1 g2
   refine Again.os (k+1) [0,1,5] hlt (by omega) ?_
   simp -implicitDefEqProofs [e1,g1,g2,g3]
 ·have hkk:k=l.length:=by omega
  subst hkk
  simp -implicitDefEqProofs
  refine EndO.ret [] [0,1,2] (.tup [.row 0,.row 1,.row 2]) (by simp) ?_
  simp -implicitDefEqProofs
end Go.Am
namespace Go.Am
open Go.Proofs
def putLk (l:List Link) (x:Link):List Link×Int:=
 if ¬checkL l=0∨rightL x=false then([],2)else if eqL x.iface l=[]∧l.length=32 then(l,8)else(ltL x.iface l++[x]++gtL x.iface l,0)
def delLk (l:List Link) (i:Int):List Link×Int:=
 if ¬checkL l=0 then([],2)else(ltL i l++gtL i l,if eqL i l=[]then 3 else 0)
set_option maxRecDepth 8000 in
set_option maxHeartbeats 2000000 in
theorem putLr_spec (l:List Link) (x:Link) (hl:l.length≤100000000):
  FSpec Tryz.prog 351 [.im (.sl 2 (l.map Link.iv)),x.av] [] (.tup [.im (.sl 2 ((putLk l x).1.map Link.iv)),.int .i64 (putLk l x).2]) []:=by
 have hc:=checkLr_spec l
 have ho:=rightLr_spec x
 have hp:=parts_spec l x.iface hl
 have b1:=ltL_len x.iface l
 have b3:=gtL_len x.iface l
 refine FSpec.of_z (q:=[]) Tryz.func351 (by kernel_rfl) rfl Tryz.ntmps351 Tryz.results351 hP (by kernel_rfl) (by simp) (by first|rfl|simp) ?_
 simp -implicitDefEqProofs
 first|refine CallK.same (hc) rfl rfl ?_|refine CallQ.same (hc) rfl rfl ?_|refine CallQG.same _ (hc) rfl ?_|refine CallG.same _ (hc) rfl ?_|refine CallK.pv (hc) rfl rfl ?_
 simp -implicitDefEqProofs
 first|refine CallK.same (ho) rfl rfl ?_|refine CallQ.same (ho) rfl rfl ?_|refine CallQG.same _ (ho) rfl ?_|refine CallG.same _ (ho) rfl ?_|refine CallK.pv (ho) rfl rfl ?_
 simp -implicitDefEqProofs
 refine⟨fun h=>?_,fun a1 a2=>?_⟩
 ·refine EndZ.ret [] (.tup [.im (.sc (.slice none 0 0)),.int .i64 2]) (by simp) ?_
  simp[putLk,h]
 refine CallK.outs [] hp rfl ?_ ?_ ?_
 ·simp
 ·simp[AV.flat]
 simp -implicitDefEqProofs
 refine⟨fun h1 h2=>⟨⟨by omega,by unfold maxLen;omega⟩,?_⟩,fun h=>⟨⟨by omega,by unfold maxLen;omega⟩,⟨by omega,by unfold maxLen;omega⟩,?_⟩⟩
 ·have h3:l.length=32:=by omega
  refine EndZ.ret [5] (.tup [.row 5,.int .i64 8]) (by simp) ?_
  simp -implicitDefEqProofs [putLk,a1,a2,h1,h3]
 ·have h3:¬(eqL x.iface l=[]∧l.length=32):=fun⟨h1,h2⟩=>h h1 (by omega)
  have hx:putLk l x=(ltL x.iface l++[x]++gtL x.iface l,0):=by
   unfold putLk
   rw[if_neg (by simp[a1,a2]),if_neg h3]
  refine EndZ.ret [6] (.tup [.row 6,.int .i64 0]) (by simp) ?_
  simp -implicitDefEqProofs [hx]
  try rfl
set_option maxRecDepth 8000 in
set_option maxHeartbeats 2000000 in
theorem delLr_spec (l:List Link) (i:Int) (hl:l.length≤100000000):
  FSpec Tryz.prog 352 [.im (.sl 2 (l.map Link.iv)),.int .i64 i] [] (.tup [.im (.sl 2 ((delLk l i).1.map Link.iv)),.int .i64 (delLk l i).2]) []:=by
 have hc:=checkLr_spec l
 have hp:=parts_spec l i hl
 have b1:=ltL_len i l
 have b3:=gtL_len i l
 refine FSpec.of_z (q:=[]) Tryz.func352 (by kernel_rfl) rfl Tryz.ntmps352 Tryz.results352 hP (by kernel_rfl) (by simp) (by first|rfl|simp) ?_
 simp -implicitDefEqProofs
 first|refine CallK.same (hc) rfl rfl ?_|refine CallQ.same (hc) rfl rfl ?_|refine CallQG.same _ (hc) rfl ?_|refine CallG.same _ (hc) rfl ?_|refine CallK.pv (hc) rfl rfl ?_
 simp -implicitDefEqProofs
 refine⟨fun h=>?_,fun a1=>?_⟩
 ·refine EndZ.ret [] (.tup [.im (.sc (.slice none 0 0)),.int .i64 2]) (by simp) ?_
  simp[delLk,h]
 refine CallK.outs [] hp rfl ?_ ?_ ?_
 ·simp
 ·simp[AV.flat]
 simp -implicitDefEqProofs
 refine⟨fun h=>⟨⟨by omega,by unfold maxLen;omega⟩,?_⟩,fun h=>⟨⟨by omega,by unfold maxLen;omega⟩,?_⟩⟩
 ·refine EndZ.ret [3] (.tup [.row 3,.int .i64 3]) (by simp) ?_
  simp -implicitDefEqProofs [delLk,a1,h]
 ·refine EndZ.ret [3] (.tup [.row 3,.int .i64 0]) (by simp) ?_
  simp -implicitDefEqProofs [delLk,a1,h]
end Go.Am
namespace Go.Am
open Go.Proofs
def sameP (p q:Pfx):Bool:=(p.six==q.six)&&(p.addr.hi==q.addr.hi)&&(p.addr.lo==q.addr.lo)&&(p.len==q.len)
def woR (p:Pfx) (l:List Route):List Route:=l.filter fun r=>!sameP r.pfx p
def ltR (p:Pfx) (l:List Route):List Route:=l.filter fun r=>decide (cmpP r.pfx p<0)
def gtR (p:Pfx) (l:List Route):List Route:=l.filter fun r=>decide (cmpP p r.pfx<0)
theorem woR_len (p:Pfx) (l:List Route):(woR p l).length≤l.length:=List.length_filter_le _ _
theorem ltR_len (p:Pfx) (l:List Route):(ltR p l).length≤l.length:=List.length_filter_le _ _
theorem gtR_len (p:Pfx) (l:List Route):(gtR p l).length≤l.length:=List.length_filter_le _ _
theorem woR_take (p:Pfx) (l:List Route) (k:Nat) (h:k<l.length):woR p (l.take (k+1))=if sameP l[k].pfx p then woR p (l.take k)else woR p (l.take k)++[l[k]]:=by
 unfold woR;rw[filter_take _ _ _ h];cases sameP l[k].pfx p<;>simp
theorem ltR_take (p:Pfx) (l:List Route) (k:Nat) (h:k<l.length):ltR p (l.take (k+1))=if cmpP l[k].pfx p<0 then ltR p (l.take k)++[l[k]]else ltR p (l.take k):=by
 unfold ltR;rw[filter_take _ _ _ h];simp
theorem gtR_take (p:Pfx) (l:List Route) (k:Nat) (h:k<l.length):gtR p (l.take (k+1))=if cmpP p l[k].pfx<0 then gtR p (l.take k)++[l[k]]else gtR p (l.take k):=by
 unfold gtR;rw[filter_take _ _ _ h];simp
theorem woR_nil (p:Pfx):woR p []=[]:=rfl
theorem ltR_nil (p:Pfx):ltR p []=[]:=rfl
theorem gtR_nil (p:Pfx):gtR p []=[]:=rfl
theorem sameP_iff (p q:Pfx):sameP p q=true↔p.six=q.six∧p.addr.hi=q.addr.hi∧p.addr.lo=q.addr.lo∧p.len=q.len:=by
 unfold sameP;simp[and_assoc]
set_option maxRecDepth 8000 in
set_option maxHeartbeats 2000000 in
theorem without_spec (l:List Route) (p:Pfx) (hl:l.length≤100000000):
  FSpec Tryz.prog 390 [.im (.sl 6 (l.map Route.iv)),p.av] [] (.im (.sl 6 ((woR p l).map Route.iv))) []:=by
 refine FSpec.of_z (q:=[]) Tryz.func390 (by kernel_rfl) rfl Tryz.ntmps390 Tryz.results390 hP (by kernel_rfl) (by simp) (by first|rfl|simp) ?_
 simp -implicitDefEqProofs
 refine LoopK.nil (.sl 5 287 6) ?_
 simp -implicitDefEqProofs
 refine LoopK.os (fun k:Nat=>[(3,.ptr 0 0),(5,.row 1),(8,.im (.sl 6 (l.map Route.iv))),(9,.int .i64 l.length),(10,.int .i64 k)])
  (fun k=>[.box 74 [.bool p.six,.int .u64 p.addr.hi,.int .u64 p.addr.lo,.int .i64 p.len],.row 287 6 ((woR p (l.take k)).map Route.iv)])
  (fun k=>k≤l.length) (fun k=>l.length-k) 0 [0,1] (Nat.zero_le _) (by simp[woR_nil]) ?_
 intro k hk
 by_cases hlt:k<l.length
 ·have e1:IntKind.i64.wrap (k+1)=(k+1:Nat):=wrap64 (by omega) (by omega)
  have g1:=woR_take p l k hlt
  have b1:=woR_len p (l.take k)
  rw[List.length_take]at b1
  have hi:=sameP_iff l[k].pfx p
  simp -implicitDefEqProofs [hlt]
  refine⟨fun h=>⟨⟨by omega,by unfold maxLen;omega⟩,?_⟩,fun h1 h2 h3 h4=>?_⟩
  ·rw[if_neg (fun hs=>by obtain⟨h1,h2,h3,h4⟩:=hi.1 hs;rcases h with h|(h|h)|h<;>contradiction)]at g1
   refine Again.os (k+1) [0,4] hlt (by omega) ?_
   simp -implicitDefEqProofs [e1,g1]
  ·rw[if_pos (hi.2 ⟨h1,h2,h3,h4⟩)]at g1
   refine Again.os (k+1) [0,1] hlt (by omega) ?_
   simp -implicitDefEqProofs [e1,g1]
 ·have hkk:k=l.length:=by omega
  subst hkk
  simp -implicitDefEqProofs
  refine EndZ.ret [1] (.row 1) (by simp) ?_
  simp -implicitDefEqProofs
def putRt (l:List Route) (x:Route):List Route×Int:=
 if ¬checkR l=0∨routeOk x=false then([],2)
 else if(woR x.pfx l).length=256 then(l,8)
 else(ltR x.pfx (woR x.pfx l)++[x]++gtR x.pfx (woR x.pfx l),0)
set_option maxRecDepth 8000 in
set_option maxHeartbeats 4000000 in
theorem putRtr_spec (l:List Route) (x:Route) (hl:l.length≤100000000) (hwf:∀r∈l,r.pfx.addr.wf) (hxw:x.pfx.addr.wf):
  FSpec Tryz.prog 349 [.im (.sl 6 (l.map Route.iv)),x.av] [] (.tup [.im (.sl 6 ((putRt l x).1.map Route.iv)),.int .i64 (putRt l x).2]) []:=by
 have hc:=checkRr_spec l hwf
 have ho:=routeOkr_spec x hxw
 have hwo:=without_spec l x.pfx hl
 have bw:=woR_len x.pfx l
 refine FSpec.of_z (q:=[]) Tryz.func349 (by kernel_rfl) rfl Tryz.ntmps349 Tryz.results349 hP (by kernel_rfl) (by simp) (by first|rfl|simp) ?_
 simp -implicitDefEqProofs
 first|refine CallK.same (hc) rfl rfl ?_|refine CallQ.same (hc) rfl rfl ?_|refine CallQG.same _ (hc) rfl ?_|refine CallG.same _ (hc) rfl ?_|refine CallK.pv (hc) rfl rfl ?_
 simp -implicitDefEqProofs
 first|refine CallK.same (ho) rfl rfl ?_|refine CallQ.same (ho) rfl rfl ?_|refine CallQG.same _ (ho) rfl ?_|refine CallG.same _ (ho) rfl ?_|refine CallK.pv (ho) rfl rfl ?_
 simp -implicitDefEqProofs
 refine⟨fun h=>?_,fun a1 a2=>?_⟩
 ·refine EndZ.ret [] (.tup [.im (.sc (.slice none 0 0)),.int .i64 2]) (by simp) ?_
  simp[putRt,h]
 first|refine CallK.same (hwo) rfl rfl ?_|refine CallQ.same (hwo) rfl rfl ?_|refine CallQG.same _ (hwo) rfl ?_|refine CallG.same _ (hwo) rfl ?_|refine CallK.pv (hwo) rfl rfl ?_
 simp -implicitDefEqProofs
 have hx:putRt l x=if(woR x.pfx l).length=256 then(l,8)else(ltR x.pfx (woR x.pfx l)++[x]++gtR x.pfx (woR x.pfx l),0):=by
  unfold putRt
  rw[if_neg (by simp[a1,a2])]
 rw[hx]
 generalize woR x.pfx l=W at*
 refine⟨fun h1=>⟨⟨by omega,by unfold maxLen;omega⟩,?_⟩,fun h1=>?_⟩
 ·rw[if_pos (by omega)]
  refine EndZ.ret [2] (.tup [.row 2,.int .i64 8]) (by simp) ?_
  simp -implicitDefEqProofs
 rw[if_neg (by omega)]
 refine LoopK.nil (.sl 7 287 6) ?_
 simp -implicitDefEqProofs
 refine LoopK.os (fun k:Nat=>[(3,.ptr 0 0),(6,.im (.sl 6 (W.map Route.iv))),(7,.row 1),(30,.im (.sl 6 (W.map Route.iv))),(31,.int .i64 W.length),(32,.int .i64 k)])
  (fun k=>[.box 287 (x.iv.map .im),.row 287 6 ((ltR x.pfx (W.take k)).map Route.iv)])
  (fun k=>k≤W.length) (fun k=>W.length-k) 0 [0,1] (Nat.zero_le _) (by simp[ltR_nil]) ?_
 intro k hk
 by_cases hlt:k<W.length
 ·have e1:IntKind.i64.wrap (k+1)=(k+1:Nat):=wrap64 (by omega) (by omega)
  have g1:=ltR_take x.pfx W k hlt
  have b1:=ltR_len x.pfx (W.take k)
  rw[List.length_take]at b1
  have hls:=lessP_spec W[k].pfx x.pfx
  simp -implicitDefEqProofs [hlt]
  first|refine CallK.same (hls) rfl rfl ?_|refine CallQ.same (hls) rfl rfl ?_|refine CallQG.same _ (hls) rfl ?_|refine CallG.same _ (hls) rfl ?_|refine CallK.pv (hls) rfl rfl ?_
  simp -implicitDefEqProofs
  refine⟨fun h=>⟨⟨by omega,by unfold maxLen;omega⟩,?_⟩,fun h=>?_⟩
  ·rw[if_pos h]at g1
   refine Again.os (k+1) [0,4] hlt (by omega) ?_
   simp -implicitDefEqProofs [e1,g1]
  ·rw[if_neg (by omega)]at g1
   refine Again.os (k+1) [0,1] hlt (by omega) ?_
   simp -implicitDefEqProofs [e1,g1]
 ·have hkk:k=W.length:=by omega
  subst hkk
  have b1:=ltR_len x.pfx W
  simp -implicitDefEqProofs
  refine⟨⟨by omega,by unfold maxLen;omega⟩,?_⟩
  refine LoopK.os (fun k:Nat=>[(3,.ptr 0 0),(7,.row 1),(50,.im (.sl 6 (W.map Route.iv))),(51,.int .i64 W.length),(52,.int .i64 k)])
   (fun k=>[.box 287 (x.iv.map .im),.row 287 6 ((ltR x.pfx W++[x]++gtR x.pfx (W.take k)).map Route.iv)])
   (fun k=>k≤W.length) (fun k=>W.length-k) 0 [0,3] (Nat.zero_le _) (by simp[gtR_nil]) ?_
  clear hk hlt
  intro k hk
  by_cases hlt:k<W.length
  ·have e1:IntKind.i64.wrap (k+1)=(k+1:Nat):=wrap64 (by omega) (by omega)
   have g1:=gtR_take x.pfx W k hlt
   have b2:=gtR_len x.pfx (W.take k)
   rw[List.length_take]at b2
   have hls:=lessP_spec x.pfx W[k].pfx
   simp -implicitDefEqProofs [hlt]
   first|refine CallK.same (hls) rfl rfl ?_|refine CallQ.same (hls) rfl rfl ?_|refine CallQG.same _ (hls) rfl ?_|refine CallG.same _ (hls) rfl ?_|refine CallK.pv (hls) rfl rfl ?_
   simp -implicitDefEqProofs
   refine⟨fun h=>⟨⟨by omega,by unfold maxLen;omega⟩,?_⟩,fun h=>?_⟩
   ·rw[if_pos h]at g1
    refine Again.os (k+1) [0,4] hlt (by omega) ?_
    simp -implicitDefEqProofs [e1,g1]
   ·rw[if_neg (by omega)]at g1
    refine Again.os (k+1) [0,1] hlt (by omega) ?_
    simp -implicitDefEqProofs [e1,g1]
  ·have hkk:k=W.length:=by omega
   subst hkk
   simp -implicitDefEqProofs
   refine EndZ.ret [1] (.tup [.row 1,.int .i64 0]) (by simp) ?_
   simp -implicitDefEqProofs
def findW (p:Pfx):List Route→Option Route
 |[]=>none
 |r::l=>if sameP r.pfx p then some r else findW p l
def findRt (l:List Route) (p:Pfx):Int:=if ¬checkR l=0∨¬checkP p=0 then 2 else if(findW p l).isSome then 0 else 3
end Go.Am
namespace Go.Am
open Go.Proofs
def route0:Route:=⟨⟨false,⟨0,0⟩,0⟩,⟨0,0⟩⟩
def findR0 (l:List Route) (p:Pfx):Route:=if ¬checkR l=0∨¬checkP p=0 then route0 else(findW p l).getD route0
set_option maxRecDepth 8000 in
set_option maxHeartbeats 4000000 in
theorem findRtr_spec (l:List Route) (p:Pfx) (hl:l.length≤100000000) (hwf:∀r∈l,r.pfx.addr.wf) (hpw:p.addr.wf):
  FSpec Tryz.prog 391 [.im (.sl 6 (l.map Route.iv)),p.av] [] (.tup [(findR0 l p).av,.int .i64 (findRt l p)]) []:=by
 have hc:=checkRr_spec l hwf
 have ho:=checkPr_spec p hpw
 refine FSpec.of_z (q:=[]) Tryz.func391 (by kernel_rfl) rfl Tryz.ntmps391 Tryz.results391 hP (by kernel_rfl) (by simp) (by first|rfl|simp) ?_
 simp -implicitDefEqProofs
 first|refine CallK.same (hc) rfl rfl ?_|refine CallQ.same (hc) rfl rfl ?_|refine CallQG.same _ (hc) rfl ?_|refine CallG.same _ (hc) rfl ?_|refine CallK.pv (hc) rfl rfl ?_
 simp -implicitDefEqProofs
 first|refine CallK.same (ho) rfl rfl ?_|refine CallQ.same (ho) rfl rfl ?_|refine CallQG.same _ (ho) rfl ?_|refine CallG.same _ (ho) rfl ?_|refine CallK.pv (ho) rfl rfl ?_
 simp -implicitDefEqProofs
 refine⟨fun h=>?_,fun a1 a2=>?_⟩
 ·refine EndZ.ret [] (.tup [route0.av,.int .i64 2]) (by simp[route0]) ?_
  simp[findR0,findRt,h]
 have hx:findR0 l p=(findW p l).getD route0:=by unfold findR0;rw[if_neg (by simp[a1,a2])]
 have hy:findRt l p=if(findW p l).isSome then 0 else 3:=by unfold findRt;rw[if_neg (by simp[a1,a2])]
 rw[hx,hy]
 refine LoopK.os (fun k:Nat=>[(3,.ptr 0 0),(4,.ptr 1 0),(17,.im (.sl 6 (l.map Route.iv))),(18,.int .i64 l.length),(19,.int .i64 k)])
  (fun _=>[.box 74 [.bool p.six,.int .u64 p.addr.hi,.int .u64 p.addr.lo,.int .i64 p.len],.box 287 (route0.iv.map .im)])
  (fun k=>k≤l.length∧findW p (l.drop k)=findW p l) (fun k=>l.length-k) 0 [0,1] ⟨Nat.zero_le _,by simp⟩ (by simp[route0]) ?_
 rintro k ⟨hk,hR⟩
 by_cases hlt:k<l.length
 ·have e1:IntKind.i64.wrap (k+1)=(k+1:Nat):=wrap64 (by omega) (by omega)
  have hi:=sameP_iff l[k].pfx p
  rw[List.drop_eq_getElem_cons hlt,findW]at hR
  simp -implicitDefEqProofs [hlt]
  refine⟨fun h1 h2 h3 h4=>?_,fun h=>?_⟩
  ·rw[if_pos (hi.2 ⟨h1,h2,h3,h4⟩)]at hR
   refine EndZ.ret [] (.tup [l[k].av,.int .i64 0]) (by simp) ?_
   simp[←hR]
  ·rw[if_neg (fun hs=>by obtain⟨h1,h2,h3,h4⟩:=hi.1 hs;exact h h1 h2 h3 h4)]at hR
   refine Again.os (k+1) [0,1] ⟨hlt,hR⟩ (by omega) ?_
   simp -implicitDefEqProofs [e1]
 ·have hkk:k=l.length:=by omega
  subst hkk
  rw[List.drop_length,findW]at hR
  simp -implicitDefEqProofs
  refine EndZ.ret [] (.tup [route0.av,.int .i64 3]) (by simp[route0]) ?_
  simp[←hR]
def delRt (l:List Route) (p:Pfx):List Route×Int:=if findRt l p=2 then([],2)else(woR p l,findRt l p)
theorem delRtr_spec (l:List Route) (p:Pfx) (hl:l.length≤100000000) (hwf:∀r∈l,r.pfx.addr.wf) (hpw:p.addr.wf):
  FSpec Tryz.prog 350 [.im (.sl 6 (l.map Route.iv)),p.av] [] (.tup [.im (.sl 6 ((delRt l p).1.map Route.iv)),.int .i64 (delRt l p).2]) []:=by
 have hf:=findRtr_spec l p hl hwf hpw
 have hw:=without_spec l p hl
 refine FSpec.of_z (q:=[]) Tryz.func350 (by kernel_rfl) rfl Tryz.ntmps350 Tryz.results350 hP (by kernel_rfl) (by simp) (by first|rfl|simp) ?_
 simp -implicitDefEqProofs
 first|refine CallK.same (hf) rfl rfl ?_|refine CallQ.same (hf) rfl rfl ?_|refine CallQG.same _ (hf) rfl ?_|refine CallG.same _ (hf) rfl ?_|refine CallK.pv (hf) rfl rfl ?_
 simp -implicitDefEqProofs
 unfold delRt
 generalize findRt l p=w at*
 refine⟨fun h=>?_,fun h=>?_⟩
 ·refine EndZ.ret [] (.tup [.im (.sc (.slice none 0 0)),.int .i64 w]) (by simp) ?_
  simp[h]
 ·first|refine CallK.same (hw) rfl rfl ?_|refine CallQ.same (hw) rfl rfl ?_|refine CallQG.same _ (hw) rfl ?_|refine CallG.same _ (hw) rfl ?_|refine CallK.pv (hw) rfl rfl ?_
  simp -implicitDefEqProofs
  refine EndZ.ret [] (.tup [.im (.sl 6 ((woR p l).map Route.iv)),.int .i64 w]) (by simp) ?_
  simp[h]
end Go.Am
namespace Go.Am
open Go.Proofs
def router0:Router:=⟨0,false,[],[]⟩
theorem copyR_spec (r:Router) (h1:r.routes.length≤100000000) (h2:r.links.length≤100000000):FSpec Tryz.prog 280 [r.av] [] r.av []:=by
 refine FSpec.of_z (q:=[]) Tryz.func280 (by kernel_rfl) rfl Tryz.ntmps280 Tryz.results280 hP (by kernel_rfl) (by simp) (by first|rfl|simp) ?_
 simp -implicitDefEqProofs
 refine⟨⟨by omega,by unfold maxLen;omega⟩,⟨by omega,by unfold maxLen;omega⟩,?_⟩
 refine EndZ.ret [3,5] (.agg [.int .i64 r.id,.bool r.up,.row 3,.row 5]) (by simp) ?_
 simp -implicitDefEqProofs
def applyR (r:Router) (e:Ev):Router×Int:=
 if routerOk r=false∨evOk e=false then(router0,2)
 else if ¬e.router=r.id then(r,14)
 else if r.up=(e.kind==1)then(r,10)
 else if e.kind=1 then(⟨r.id,true,r.routes,r.links⟩,0)
 else if e.kind=2 then(⟨r.id,false,[],[]⟩,0)
 else if e.kind=3 then(if(putRt r.routes ⟨e.pfx,e.act⟩).2=0 then(⟨r.id,r.up,(putRt r.routes ⟨e.pfx,e.act⟩).1,r.links⟩,0)else(r,(putRt r.routes ⟨e.pfx,e.act⟩).2))
 else if e.kind=4 then(⟨r.id,r.up,(delRt r.routes e.pfx).1,r.links⟩,0)
 else if e.kind=5 then(if(putLk r.links ⟨e.iface,e.peer⟩).2=0 then(⟨r.id,r.up,r.routes,(putLk r.links ⟨e.iface,e.peer⟩).1⟩,0)else(r,(putLk r.links ⟨e.iface,e.peer⟩).2))
 else(⟨r.id,r.up,r.routes,(delLk r.links e.iface).1⟩,0)
theorem evOk_kind {e:Ev} (h:evOk e=true):e.kind=1∨e.kind=2∨e.kind=3∨e.kind=4∨e.kind=5∨e.kind=6:=by
 rcases kinds_of e.kind with h1|h1|h1|h1|h1|h1|⟨k1,k2,k3,k4,k5,k6⟩
 all_goals first|(simp[h1];done)|skip
 have:tailOk e=false:=by simp[tailOk,k1,k2,k3,k4,k5,k6]
 simp[evOk,this]at h
theorem routerOk_len {r:Router} (h:routerOk r=true):r.routes.length≤256∧r.links.length≤32:=by
 unfold routerOk at h
 simp only[Bool.and_eq_true,beq_iff_eq]at h
 exact⟨checkR_len h.1.2,checkL_len h.2⟩
set_option maxRecDepth 8000 in
set_option maxHeartbeats 4000000 in
theorem applyRr_spec (r:Router) (e:Ev) (hw:r.wf) (hew:e.pfx.addr.wf):
  FSpec Tryz.prog 283 [r.av,e.av] [] (.tup [(applyR r e).1.av,.int .i64 (applyR r e).2]) []:=by
 have hc:=checkFr_spec r hw
 have he:=evOkr_spec e hew
 have hx1:routerOk r=false∨evOk e=false→applyR r e=(router0,2):=fun h=>by unfold applyR;rw[if_pos h]
 have hx2:routerOk r=true→evOk e=true→¬e.router=r.id→applyR r e=(r,14):=fun h1 h2 h=>by unfold applyR;rw[if_neg (by simp[h1,h2]),if_pos h]
 have hx3:routerOk r=true→evOk e=true→e.router=r.id→r.up=(e.kind==1)→applyR r e=(r,10):=fun h1 h2 h3 h=>by unfold applyR;rw[if_neg (by simp[h1,h2]),if_neg (by simp[h3]),if_pos h]
 have hx4:routerOk r=true→evOk e=true→e.router=r.id→¬r.up=(e.kind==1)→applyR r e=
  (if e.kind=1 then(⟨r.id,true,r.routes,r.links⟩,0)
  else if e.kind=2 then(⟨r.id,false,[],[]⟩,0)
  else if e.kind=3 then(if(putRt r.routes ⟨e.pfx,e.act⟩).2=0 then(⟨r.id,r.up,(putRt r.routes ⟨e.pfx,e.act⟩).1,r.links⟩,0)else(r,(putRt r.routes ⟨e.pfx,e.act⟩).2))
  else if e.kind=4 then(⟨r.id,r.up,(delRt r.routes e.pfx).1,r.links⟩,0)
  else if e.kind=5 then(if(putLk r.links ⟨e.iface,e.peer⟩).2=0 then(⟨r.id,r.up,r.routes,(putLk r.links ⟨e.iface,e.peer⟩).1⟩,0)else(r,(putLk r.links ⟨e.iface,e.peer⟩).2))
  else(⟨r.id,r.up,r.routes,(delLk r.links e.iface).1⟩,0)):=fun h1 h2 h3 h=>by unfold applyR;rw[if_neg (by simp[h1,h2]),if_neg (by simp[h3]),if_neg h]
 generalize applyR r e=RES at*
 refine FSpec.of_z (q:=[]) Tryz.func283 (by kernel_rfl) rfl Tryz.ntmps283 Tryz.results283 hP (by kernel_rfl) (by simp) (by first|rfl|simp) ?_
 simp -implicitDefEqProofs
 first|refine CallK.same (hc) rfl rfl ?_|refine CallQ.same (hc) rfl rfl ?_|refine CallQG.same _ (hc) rfl ?_|refine CallG.same _ (hc) rfl ?_|refine CallK.pv (hc) rfl rfl ?_
 simp -implicitDefEqProofs
 first|refine CallK.same (he) rfl rfl ?_|refine CallQ.same (he) rfl rfl ?_|refine CallQG.same _ (he) rfl ?_|refine CallG.same _ (he) rfl ?_|refine CallK.pv (he) rfl rfl ?_
 simp -implicitDefEqProofs
 refine⟨fun h=>?_,fun a1 a2=>?_⟩
 ·refine EndZ.ret [] (.tup [.agg [.int .i64 0,.bool false,.im (.sc (.slice none 0 0)),.im (.sc (.slice none 0 0))],.int .i64 2]) (by simp) ?_
  simp[hx1 h,router0]
 obtain⟨l1,l2⟩:=routerOk_len a1
 have hcp:=copyR_spec r (by omega) (by omega)
 first|refine CallK.same (hcp) rfl rfl ?_|refine CallQ.same (hcp) rfl rfl ?_|refine CallQG.same _ (hcp) rfl ?_|refine CallG.same _ (hcp) rfl ?_|refine CallK.pv (hcp) rfl rfl ?_
 simp -implicitDefEqProofs
 refine⟨fun h=>?_,fun a3=>⟨fun h=>?_,fun a4=>?_⟩⟩
 ·refine EndZ.ret [] (.tup [r.av,.int .i64 14]) (by simp) ?_
  simp[hx2 a1 a2 h]
 ·refine EndZ.ret [] (.tup [r.av,.int .i64 10]) (by simp) ?_
  simp[hx3 a1 a2 a3 h]
 have hR:=hx4 a1 a2 a3 a4
 clear hx1 hx2 hx3 hx4
 rcases evOk_kind a2 with hk|hk|hk|hk|hk|hk
 ·simp only[hk]at hR
  simp -implicitDefEqProofs [hk]
  refine EndZ.ret [] (.tup [(⟨r.id,true,r.routes,r.links⟩:Router).av,.int .i64 0]) (by simp) ?_
  simp[hR]
 ·simp only[hk]at hR
  simp -implicitDefEqProofs [hk]
  refine EndZ.ret [] (.tup [.agg [.int .i64 r.id,.bool false,.im (.sc (.slice none 0 0)),.im (.sc (.slice none 0 0))],.int .i64 0]) (by simp) ?_
  simp[hR]
 ·simp only[hk]at hR
  have hp:=putRtr_spec r.routes ⟨e.pfx,e.act⟩ (by omega) hw hew
  simp -implicitDefEqProofs [hk]
  generalize putRt r.routes ⟨e.pfx,e.act⟩=RS at*
  first|refine CallK.same (hp) rfl rfl ?_|refine CallQ.same (hp) rfl rfl ?_|refine CallQG.same _ (hp) rfl ?_|refine CallG.same _ (hp) rfl ?_|refine CallK.pv (hp) rfl rfl ?_
  simp -implicitDefEqProofs
  refine⟨fun h=>?_,fun h=>?_⟩
  ·refine EndZ.ret [] (.tup [r.av,.int .i64 RS.2]) (by simp) ?_
   simp[hR,h]
  ·refine EndZ.ret [] (.tup [(⟨r.id,r.up,RS.1,r.links⟩:Router).av,.int .i64 0]) (by simp) ?_
   simp[hR,h]
 ·simp only[hk]at hR
  have hp:=delRtr_spec r.routes e.pfx (by omega) hw hew
  simp -implicitDefEqProofs [hk]
  generalize delRt r.routes e.pfx=RS at*
  first|refine CallK.same (hp) rfl rfl ?_|refine CallQ.same (hp) rfl rfl ?_|refine CallQG.same _ (hp) rfl ?_|refine CallG.same _ (hp) rfl ?_|refine CallK.pv (hp) rfl rfl ?_
  simp -implicitDefEqProofs
  refine EndZ.ret [] (.tup [(⟨r.id,r.up,RS.1,r.links⟩:Router).av,.int .i64 0]) (by simp) ?_
  simp[hR]
 ·simp only[hk]at hR
  have hp:=putLr_spec r.links ⟨e.iface,e.peer⟩ (by omega)
  simp -implicitDefEqProofs [hk]
  generalize putLk r.links ⟨e.iface,e.peer⟩=RS at*
  first|refine CallK.same (hp) rfl rfl ?_|refine CallQ.same (hp) rfl rfl ?_|refine CallQG.same _ (hp) rfl ?_|refine CallG.same _ (hp) rfl ?_|refine CallK.pv (hp) rfl rfl ?_
  simp -implicitDefEqProofs
  refine⟨fun h=>?_,fun h=>?_⟩
  ·refine EndZ.ret [] (.tup [r.av,.int .i64 RS.2]) (by simp) ?_
   simp[hR,h]
  ·refine EndZ.ret [] (.tup [(⟨r.id,r.up,r.routes,RS.1⟩:Router).av,.int .i64 0]) (by simp) ?_
   simp[hR,h]
 ·simp only[hk]at hR
  have hp:=delLr_spec r.links e.iface (by omega)
  simp -implicitDefEqProofs [hk]
  generalize delLk r.links e.iface=RS at*
  first|refine CallK.same (hp) rfl rfl ?_|refine CallQ.same (hp) rfl rfl ?_|refine CallQG.same _ (hp) rfl ?_|refine CallG.same _ (hp) rfl ?_|refine CallK.pv (hp) rfl rfl ?_
  simp -implicitDefEqProofs
  refine EndZ.ret [] (.tup [(⟨r.id,r.up,r.routes,RS.1⟩:Router).av,.int .i64 0]) (by simp) ?_
  simp[hR]
end Go.Am
namespace Go.Am
open Go.Proofs
theorem makeRr_spec (i:Int):FSpec Tryz.prog 282 [.int .i64 i] [] (.tup [.agg [.int .i64 (if idOk i then i else 0),.bool false,.im (.sl 6 []),.im (.sl 2 [])],.int .i64 (if idOk i then 0 else 1)]) []:=by
 refine FSpec.of_z (q:=[]) Tryz.func282 (by kernel_rfl) rfl Tryz.ntmps282 Tryz.results282 hP (by kernel_rfl) (by simp) (by first|rfl|simp) ?_
 simp -implicitDefEqProofs
 refine⟨fun h=>?_,fun h1 h2=>?_⟩
 ·have:idOk i=false:=by unfold idOk;grind
  refine EndZ.ret [] (.tup [.agg [.int .i64 0,.bool false,.im (.sc (.slice none 0 0)),.im (.sc (.slice none 0 0))],.int .i64 1]) (by simp) ?_
  simp[this]
 ·have:idOk i=true:=by unfold idOk;grind
  refine EndZ.ret [] (.tup [.agg [.int .i64 i,.bool false,.im (.sc (.slice none 0 0)),.im (.sc (.slice none 0 0))],.int .i64 0]) (by simp) ?_
  simp[this]
set_option maxRecDepth 8000 in
set_option maxHeartbeats 2000000 in
theorem copyN_spec (n:Net) (h1:n.seats.length≤100000000) (h2:n.routers.length≤100000000) (h3:∀r∈n.routers,r.routes.length≤100000000∧r.links.length≤100000000):
  FSpec Tryz.prog 217 [n.av] [] n.av []:=by
 refine FSpec.of_z (q:=[(5,.m [.p [1,2] [],.p [1,2] [],.p [] [],.e [20],.e [21]])]) Tryz.func217 (by kernel_rfl) rfl Tryz.ntmps217 Tryz.results217 hP (by kernel_rfl) (by simp) (by first|rfl|simp) ?_
 simp -implicitDefEqProofs
 refine⟨⟨by omega,by unfold maxLen;omega⟩,?_⟩
 refine LoopK.nil (.cl 4 1 100 4) ?_
 simp -implicitDefEqProofs
 refine LoopK.os (fun k:Nat=>[(2,.ptr 0 0),(3,.ptr 1 0),(12,.im (.sl 4 (n.routers.map Router.iv))),(13,.int .i64 n.routers.length),(14,.int .i64 k)])
  (fun k=>[.box 25 [.im (.sc (.slice none 0 0)),.im (.sc (.slice none 0 0))],.box 25 [.row 2,.row 3],.row 228 4 (n.seats.map Seat.iv),.row 100 4 ((n.routers.take k).map Router.iv)])
  (fun k=>k≤n.routers.length) (fun k=>n.routers.length-k) 0 [1,4,3,5] (Nat.zero_le _) (by simp) ?_
 intro k hk
 by_cases hlt:k<n.routers.length
 ·have e1:IntKind.i64.wrap (k+1)=(k+1:Nat):=wrap64 (by omega) (by omega)
  obtain⟨r,hr⟩:∃r,n.routers[k]=r:=⟨_,rfl⟩
  have hm:r∈n.routers:=by rw[←hr];exact List.getElem_mem _
  obtain⟨g1,g2⟩:=h3 r hm
  have hcp:=copyR_spec r g1 g2
  have htk:n.routers.take (k+1)=n.routers.take k++[r]:=by
   rw[List.take_add_one,List.getElem?_eq_getElem hlt,hr];rfl
  simp -implicitDefEqProofs [hlt,hr]
  first|refine CallK.same (hcp) rfl rfl ?_|refine CallQ.same (hcp) rfl rfl ?_|refine CallQG.same _ (hcp) rfl ?_|refine CallG.same _ (hcp) rfl ?_|refine CallK.pv (hcp) rfl rfl ?_
  simp -implicitDefEqProofs
  have htk':List.take (k+1) (n.routers.map Router.iv)=List.take k (n.routers.map Router.iv)++[r.iv]:=by rw[←List.map_take,htk,List.map_append,List.map_take];rfl
  refine⟨⟨by omega,by unfold maxLen;omega⟩,?_⟩
  refine Again.os (k+1) [0,1,2,6] hlt (by omega) ?_
  simp -implicitDefEqProofs [e1,htk']
 ·have hkk:k=n.routers.length:=by omega
  subst hkk
  simp -implicitDefEqProofs
  refine EndZ.ret [2,3] (.agg [.row 2,.row 3]) (by simp) ?_
  simp -implicitDefEqProofs
end Go.Am
namespace Go.Am
open Go.Proofs
def mineN (n:Net) (e:Ev):Router:=match routerF n.routers e.router with
 |some r=>r
 |none=>⟨if idOk e.router then e.router else 0,false,[],[]⟩
def afterN (n:Net) (e:Ev) (hz:Int) (mine:Router) (s:Seat):Router:=if s.router=e.router then mine else(routerF n.routers s.router).getD ⟨0,false,[],[]⟩
def netAfter (n:Net) (e:Ev) (hz:Int):Net:=⟨(nextS n.seats e hz).1,(nextS n.seats e hz).1.map (afterN n e hz (applyR (mineN n e) e).1)⟩
def happensF (n:Net) (e:Ev) (hz:Int):Net×Int:=
 if ¬mayS n.seats e hz=0 then(n,mayS n.seats e hz)
 else if ¬(applyR (mineN n e) e).2=0 then(n,(applyR (mineN n e) e).2)
 else if 1024<many (netAfter n e hz).routers 0 then(n,8)
 else(netAfter n e hz,0)
theorem mineN_wf {n:Net} {e:Ev} (hw:n.wf):(mineN n e).wf:=by
 unfold mineN
 split
 ·rename_i r h;exact hw r (List.mem_of_find?_eq_some h)
 ·intro x hx;cases hx
def rowsA (n:Net) (e:Ev) (hz:Int) (mine:Router) (l:List Seat):List (List IV):=(l.map (afterN n e hz mine)).map Router.iv
theorem rowsA_nil (n:Net) (e:Ev) (hz:Int) (mine:Router):rowsA n e hz mine []=[]:=rfl
@[simp] theorem rowsA_len (n:Net) (e:Ev) (hz:Int) (mine:Router) (l:List Seat):(rowsA n e hz mine l).length=l.length:=by simp[rowsA]
theorem rowsA_take (n:Net) (e:Ev) (hz:Int) (mine:Router) (l:List Seat) (k:Nat) (h:k<l.length):rowsA n e hz mine (l.take (k+1))=rowsA n e hz mine (l.take k)++[(afterN n e hz mine l[k]).iv]:=by
 unfold rowsA
 rw[List.take_add_one,List.getElem?_eq_getElem h]
 simp only[List.map_append,Option.toList_some,List.map_cons,List.map_nil]
theorem putSeat_len (l:List Seat) (s:Seat):(putSeat l s).length≤2*l.length+1:=by
 have h1:=List.length_filter_le (fun x:Seat=>decide (x.router<s.router)) l
 have h2:=List.length_filter_le (fun x:Seat=>decide (s.router<x.router)) l
 unfold putSeat
 simp
 omega
theorem nextS_len (l:List Seat) (e:Ev) (hz:Int):(nextS l e hz).1.length≤2*l.length+1:=by
 unfold nextS
 repeat' split
 ·simp
 ·simp;omega
 ·exact putSeat_len _ _
set_option maxRecDepth 8000 in
set_option maxHeartbeats 2000000 in
theorem happens_spec (n:Net) (e:Ev) (hz:Int) (hw:n.wf) (hew:e.pfx.addr.wf) (hl:n.seats.length≤100000):
  FSpec Tryz.prog 218 [n.av,e.av,.int .i64 hz] [] (.tup [(happensF n e hz).1.av,.int .i64 (happensF n e hz).2]) []:=by
 have h1:=mayR_spec n.seats e hz hew
 have h2:=findr_spec n e.router
 have h3:=makeRr_spec e.router
 have h4:=applyRr_spec (mineN n e) e (mineN_wf hw) hew
 have h5:=nextR_spec n.seats e hz hew (by omega)
 have hnl:=nextS_len n.seats e hz
 have hx:happensF n e hz=(if ¬mayS n.seats e hz=0 then(n,mayS n.seats e hz)
 else if ¬(applyR (mineN n e) e).2=0 then(n,(applyR (mineN n e) e).2)
 else if 1024<many ((nextS n.seats e hz).1.map (afterN n e hz (applyR (mineN n e) e).1)) 0 then(n,8)
 else(⟨(nextS n.seats e hz).1,(nextS n.seats e hz).1.map (afterN n e hz (applyR (mineN n e) e).1)⟩,0)):=rfl
 generalize happensF n e hz=RES at*
 generalize applyR (mineN n e) e=AR at*
 generalize nextS n.seats e hz=NX at*
 refine FSpec.of_z (q:=[]) Tryz.func218 (by kernel_rfl) rfl Tryz.ntmps218 Tryz.results218 hP (by kernel_rfl) (by simp) (by first|rfl|simp) ?_
 simp -implicitDefEqProofs
 first|refine CallK.same (h1) rfl rfl ?_|refine CallQ.same (h1) rfl rfl ?_|refine CallQG.same _ (h1) rfl ?_|refine CallG.same _ (h1) rfl ?_|refine CallK.pv (h1) rfl rfl ?_
 simp -implicitDefEqProofs
 refine⟨fun h=>?_,fun a1=>?_⟩
 ·rw[if_pos h]at hx
  refine EndZ.ret [] (.tup [n.av,.int .i64 (mayS n.seats e hz)]) (by simp) ?_
  simp[hx]
 rw[if_neg (by simp[a1])]at hx
 first|refine CallK.same (h2) rfl rfl ?_|refine CallQ.same (h2) rfl rfl ?_|refine CallQG.same _ (h2) rfl ?_|refine CallG.same _ (h2) rfl ?_|refine CallK.pv (h2) rfl rfl ?_
 simp -implicitDefEqProofs
 unfold mineN at h4
 cases hr:routerF n.routers e.router with
 |none=>
  simp only[hr]at h4
  simp -implicitDefEqProofs
  first|refine CallK.same (h3) rfl rfl ?_|refine CallQ.same (h3) rfl rfl ?_|refine CallQG.same _ (h3) rfl ?_|refine CallG.same _ (h3) rfl ?_|refine CallK.pv (h3) rfl rfl ?_
  simp -implicitDefEqProofs
  first|refine CallK.same (h4) rfl rfl ?_|refine CallQ.same (h4) rfl rfl ?_|refine CallQG.same _ (h4) rfl ?_|refine CallG.same _ (h4) rfl ?_|refine CallK.pv (h4) rfl rfl ?_
  simp -implicitDefEqProofs
  refine⟨fun h=>?_,fun b1=>?_⟩
  ·rw[if_pos h]at hx
   refine EndZ.ret [] (.tup [n.av,.int .i64 AR.2]) (by simp) ?_
   simp[hx]
  rw[if_neg (by simp[b1])]at hx
  first|refine CallK.same (h5) rfl rfl ?_|refine CallQ.same (h5) rfl rfl ?_|refine CallQG.same _ (h5) rfl ?_|refine CallG.same _ (h5) rfl ?_|refine CallK.pv (h5) rfl rfl ?_
  simp -implicitDefEqProofs
  refine LoopK.nil (.cl 4 1 100 4) ?_
  simp -implicitDefEqProofs
  refine LoopK.os (fun k:Nat=>[(3,.ptr 0 0),(4,.ptr 1 0),(6,.ptr 2 0),(9,.ptr 3 0),(14,.ptr 4 0),(63,.im (.sl 4 (NX.1.map Seat.iv))),(64,.int .i64 NX.1.length),(65,.int .i64 k)])
   (fun k=>[.box 25 [.im (.sl 4 (n.seats.map Seat.iv)),.im (.sl 4 (n.routers.map Router.iv))],.box 79 (e.iv.map .im),.box 25 [.im (.sc (.slice none 0 0)),.im (.sc (.slice none 0 0))],
    .box 100 [.int .i64 AR.1.id,.bool AR.1.up,.im (.sl 6 (AR.1.routes.map Route.iv)),.im (.sl 2 (AR.1.links.map Link.iv))],.box 25 [.im (.sl 4 (NX.1.map Seat.iv)),.row 5],.row 100 4 (rowsA n e hz AR.1 (NX.1.take k))])
   (fun k=>k≤NX.1.length) (fun k=>NX.1.length-k) 0 [0,1,2,3,4,5] (Nat.zero_le _) (by simp[rowsA_nil]) ?_
  intro k hk
  by_cases hlt:k<NX.1.length
  ·have e1:IntKind.i64.wrap (k+1)=(k+1:Nat):=wrap64 (by omega) (by omega)
   obtain⟨t,ht⟩:∃t,NX.1[k]=t:=⟨_,rfl⟩
   have h6:=findr_spec n t.router
   have htk:=rowsA_take n e hz AR.1 NX.1 k hlt
   rw[ht]at htk
   simp -implicitDefEqProofs [hlt,ht]
   first|refine CallK.same (h6) rfl rfl ?_|refine CallQ.same (h6) rfl rfl ?_|refine CallQG.same _ (h6) rfl ?_|refine CallG.same _ (h6) rfl ?_|refine CallK.pv (h6) rfl rfl ?_
   simp -implicitDefEqProofs
   refine⟨fun h=>⟨⟨by omega,by unfold maxLen;omega⟩,?_⟩,fun h=>⟨⟨by omega,by unfold maxLen;omega⟩,?_⟩⟩
   ·have hat:afterN n e hz AR.1 t=AR.1:=by unfold afterN;rw[if_pos h]
    rw[hat]at htk
    refine Again.os (k+1) [0,1,2,3,4,9] hlt (by omega) ?_
    simp -implicitDefEqProofs [e1,htk]
   ·have hat:afterN n e hz AR.1 t=(routerF n.routers t.router).getD ⟨0,false,[],[]⟩:=by unfold afterN;rw[if_neg h]
    rw[hat]at htk
    refine Again.os (k+1) [0,1,2,3,4,9] hlt (by omega) ?_
    simp -implicitDefEqProofs [e1,htk]
  ·have hkk:k=NX.1.length:=by omega
   subst hkk
   have hmany:FSpec Tryz.prog 207 [.im (.sl 4 (rowsA n e hz AR.1 NX.1))] [] (.int .i64 (many (NX.1.map (afterN n e hz AR.1)) 0)) []:=manyr_spec _
   generalize many (NX.1.map (afterN n e hz AR.1)) 0=mm at*
   simp -implicitDefEqProofs
   refine CallX.pre (.fz [5]) ?_
   simp -implicitDefEqProofs
   refine CallK.v0 hmany rfl (by simp) rfl ?_
   simp -implicitDefEqProofs
   refine⟨fun h=>?_,fun h=>?_⟩
   ·rw[if_pos h]at hx
    refine EndZ.ret [] (.tup [n.av,.int .i64 8]) (by simp) ?_
    simp -implicitDefEqProofs [hx]
   ·rw[if_neg (by omega)]at hx
    refine EndZ.ret [5] (.tup [.agg [.im (.sl 4 (NX.1.map Seat.iv)),.row 5],.int .i64 0]) (by simp) ?_
    simp -implicitDefEqProofs [hx,rowsA]
 |some r=>
  simp only[hr]at h4
  simp -implicitDefEqProofs
  first|refine CallK.same (h4) rfl rfl ?_|refine CallQ.same (h4) rfl rfl ?_|refine CallQG.same _ (h4) rfl ?_|refine CallG.same _ (h4) rfl ?_|refine CallK.pv (h4) rfl rfl ?_
  simp -implicitDefEqProofs
  refine⟨fun h=>?_,fun b1=>?_⟩
  ·rw[if_pos h]at hx
   refine EndZ.ret [] (.tup [n.av,.int .i64 AR.2]) (by simp) ?_
   simp[hx]
  rw[if_neg (by simp[b1])]at hx
  first|refine CallK.same (h5) rfl rfl ?_|refine CallQ.same (h5) rfl rfl ?_|refine CallQG.same _ (h5) rfl ?_|refine CallG.same _ (h5) rfl ?_|refine CallK.pv (h5) rfl rfl ?_
  simp -implicitDefEqProofs
  refine LoopK.nil (.cl 4 1 100 4) ?_
  simp -implicitDefEqProofs
  refine LoopK.os (fun k:Nat=>[(3,.ptr 0 0),(4,.ptr 1 0),(6,.ptr 2 0),(9,.ptr 3 0),(14,.ptr 4 0),(63,.im (.sl 4 (NX.1.map Seat.iv))),(64,.int .i64 NX.1.length),(65,.int .i64 k)])
   (fun k=>[.box 25 [.im (.sl 4 (n.seats.map Seat.iv)),.im (.sl 4 (n.routers.map Router.iv))],.box 79 (e.iv.map .im),.box 25 [.im (.sc (.slice none 0 0)),.im (.sc (.slice none 0 0))],
    .box 100 [.int .i64 AR.1.id,.bool AR.1.up,.im (.sl 6 (AR.1.routes.map Route.iv)),.im (.sl 2 (AR.1.links.map Link.iv))],.box 25 [.im (.sl 4 (NX.1.map Seat.iv)),.row 5],.row 100 4 (rowsA n e hz AR.1 (NX.1.take k))])
   (fun k=>k≤NX.1.length) (fun k=>NX.1.length-k) 0 [0,1,2,3,4,5] (Nat.zero_le _) (by simp[rowsA_nil]) ?_
  intro k hk
  by_cases hlt:k<NX.1.length
  ·have e1:IntKind.i64.wrap (k+1)=(k+1:Nat):=wrap64 (by omega) (by omega)
   obtain⟨t,ht⟩:∃t,NX.1[k]=t:=⟨_,rfl⟩
   have h6:=findr_spec n t.router
   have htk:=rowsA_take n e hz AR.1 NX.1 k hlt
   rw[ht]at htk
   simp -implicitDefEqProofs [hlt,ht]
   first|refine CallK.same (h6) rfl rfl ?_|refine CallQ.same (h6) rfl rfl ?_|refine CallQG.same _ (h6) rfl ?_|refine CallG.same _ (h6) rfl ?_|refine CallK.pv (h6) rfl rfl ?_
   simp -implicitDefEqProofs
   refine⟨fun h=>⟨⟨by omega,by unfold maxLen;omega⟩,?_⟩,fun h=>⟨⟨by omega,by unfold maxLen;omega⟩,?_⟩⟩
   ·have hat:afterN n e hz AR.1 t=AR.1:=by unfold afterN;rw[if_pos h]
    rw[hat]at htk
    refine Again.os (k+1) [0,1,2,3,4,9] hlt (by omega) ?_
    simp -implicitDefEqProofs [e1,htk]
   ·have hat:afterN n e hz AR.1 t=(routerF n.routers t.router).getD ⟨0,false,[],[]⟩:=by unfold afterN;rw[if_neg h]
    rw[hat]at htk
    refine Again.os (k+1) [0,1,2,3,4,9] hlt (by omega) ?_
    simp -implicitDefEqProofs [e1,htk]
  ·have hkk:k=NX.1.length:=by omega
   subst hkk
   have hmany:FSpec Tryz.prog 207 [.im (.sl 4 (rowsA n e hz AR.1 NX.1))] [] (.int .i64 (many (NX.1.map (afterN n e hz AR.1)) 0)) []:=manyr_spec _
   generalize many (NX.1.map (afterN n e hz AR.1)) 0=mm at*
   simp -implicitDefEqProofs
   refine CallX.pre (.fz [5]) ?_
   simp -implicitDefEqProofs
   refine CallK.v0 hmany rfl (by simp) rfl ?_
   simp -implicitDefEqProofs
   refine⟨fun h=>?_,fun h=>?_⟩
   ·rw[if_pos h]at hx
    refine EndZ.ret [] (.tup [n.av,.int .i64 8]) (by simp) ?_
    simp -implicitDefEqProofs [hx]
   ·rw[if_neg (by omega)]at hx
    refine EndZ.ret [5] (.tup [.agg [.im (.sl 4 (NX.1.map Seat.iv)),.row 5],.int .i64 0]) (by simp) ?_
    simp -implicitDefEqProofs [hx,rowsA]
end Go.Am
namespace Go.Am
open Go.Proofs
def applyN (n:Net) (e:Ev) (hz:Int):Net×Int:=
 if netOk n=false then(⟨[],[]⟩,2)
 else if(happensF n e hz).2=2∨(happensF n e hz).2=1 then(⟨[],[]⟩,(happensF n e hz).2)
 else happensF n e hz
theorem netOk_seats {n:Net} (h:netOk n=true):n.seats.length≤64:=by
 unfold netOk at h
 simp only[Bool.and_eq_true,beq_iff_eq]at h
 exact checkS_len h.1.1.1
theorem copyOk_spec (n:Net) (h:netOk n=true):FSpec Tryz.prog 217 [n.av] [] n.av []:=by
 have h1:=netOk_seats h
 have h2:=netOk_len h
 have h3:=(netOk_routers h).2
 refine copyN_spec n (by omega) (by omega) fun r hr=>?_
 have:=routerOk_len (h3 r hr)
 omega
end Go.Am
