import Derived.Test.YtcognmloglhpcaaGreatDoorWD1
import Derived.Test.YtcognmloglhpcaaGreatDoorWD3
import Derived.Test.YtcognmloglhpcaaGreatDoorWD4
import Derived.Test.YtcognmloglhpcaaGreatDoorWD6
set_option linter.unusedVariables false
set_option linter.unusedSimpArgs false
set_option linter.unusedSectionVars false
namespace Go.Am
open Go.Proofs
theorem putRt_wf {l:List Route} {x:Route} (hl:∀r∈l,r.pfx.addr.wf) (hx:x.pfx.addr.wf):∀r∈(putRt l x).1,r.pfx.addr.wf:=by
 unfold putRt
 intro r hr
 split at hr
 ·cases hr
 ·split at hr
  ·exact hl r hr
  ·simp only[List.mem_append,List.mem_singleton,ltR,gtR,woR,List.mem_filter]at hr
   rcases hr with(hr|rfl)|hr
   ·exact hl r hr.1.1
   ·exact hx
   ·exact hl r hr.1.1
theorem delRt_wf {l:List Route} {p:Pfx} (hl:∀r∈l,r.pfx.addr.wf):∀r∈(delRt l p).1,r.pfx.addr.wf:=by
 unfold delRt
 intro r hr
 split at hr
 ·cases hr
 ·simp only[woR,List.mem_filter]at hr
  exact hl r hr.1
theorem applyR_wf {r:Router} {e:Ev} (hw:r.wf) (he:e.pfx.addr.wf):(applyR r e).1.wf:=by
 unfold applyR Router.wf
 repeat' split
 all_goals first
  |exact hw
  |(intro x hx;cases hx;done)
  |exact putRt_wf hw he
  |exact delRt_wf hw
theorem happensF_wf {n:Net} {e:Ev} {hz:Int} (hw:n.wf) (he:e.pfx.addr.wf):(happensF n e hz).1.wf:=by
 unfold happensF
 repeat' split
 all_goals first
  |exact hw
  |skip
 intro r hr
 simp only[netAfter,List.mem_map]at hr
 obtain⟨s,_,rfl⟩:=hr
 unfold afterN
 split
 ·exact applyR_wf (mineN_wf hw) he
 ·cases h:routerF n.routers s.router with
  |none=>intro x hx;cases hx
  |some r=>exact hw r (List.mem_of_find?_eq_some h)
theorem happensF_len {n:Net} {e:Ev} {hz:Int} (h:n.seats.length≤129):(happensF n e hz).1.seats.length≤129:=by
 unfold happensF
 repeat' split
 all_goals first
  |exact h
  |skip
 rename_i h0 _ _
 have hc:checkS n.seats=0:=by
  apply Classical.byContradiction
  intro hn
  apply h0
  intro hm
  unfold mayS at hm
  rw[if_pos (.inl hn)]at hm
  cases hm
 have:=checkS_len hc
 have:=nextS_len n.seats e hz
 show(nextS n.seats e hz).1.length≤129
 omega
def allGo (hz:Int):List Ev→Net→Int→Net×Int×Int
 |[],n,i=>(n,i,0)
 |e::l,n,i=>if(happensF n e hz).2=0 then allGo hz l (happensF n e hz).1 (i+1)else(n,i,(happensF n e hz).2)
def allN (n:Net) (l:List Ev) (hz:Int):Net×Int×Int:=if netOk n=false then(⟨[],[]⟩,0,2)else allGo hz l n 0
set_option maxRecDepth 8000 in
set_option maxHeartbeats 2000000 in
theorem allNr_spec (n:Net) (l:List Ev) (hz:Int) (hw:n.wf) (hew:∀e∈l,e.pfx.addr.wf):
  FSpec Tryz.prog 151 [n.av,.im (.sl 12 (l.map Ev.iv)),.int .i64 hz] [] (.tup [(allN n l hz).1.av,.int .i64 (allN n l hz).2.1,.int .i64 (allN n l hz).2.2]) []:=by
 refine FSpec.bd (enters_of Tryz.func151 (by kernel_rfl) rfl) fun hbd=>?_
 have hl:l.length≤9223372036854775807:=by simp[maxLen]at hbd;exact hbd.2
 clear hbd
 have h1:=checkNr_spec n hw
 refine FSpec.of_z (q:=[]) Tryz.func151 (by kernel_rfl) rfl Tryz.ntmps151 Tryz.results151 hP (by kernel_rfl) (by simp) (by first|rfl|simp) ?_
 simp -implicitDefEqProofs
 first|refine CallK.same (h1) rfl rfl ?_|refine CallQ.same (h1) rfl rfl ?_|refine CallQG.same _ (h1) rfl ?_|refine CallG.same _ (h1) rfl ?_|refine CallK.pv (h1) rfl rfl ?_
 simp -implicitDefEqProofs
 unfold allN
 cases hn:netOk n with
 |false=>
  simp -implicitDefEqProofs
  refine EndZ.ret [] (.tup [.agg [.im (.sc (.slice none 0 0)),.im (.sc (.slice none 0 0))],.int .i64 0,.int .i64 2]) (by simp) ?_
  simp -implicitDefEqProofs
 |true=>
  have h2:=copyOk_spec n hn
  have hs:=netOk_seats hn
  simp -implicitDefEqProofs
  first|refine CallK.same (h2) rfl rfl ?_|refine CallQ.same (h2) rfl rfl ?_|refine CallQG.same _ (h2) rfl ?_|refine CallG.same _ (h2) rfl ?_|refine CallK.pv (h2) rfl rfl ?_
  simp -implicitDefEqProofs
  generalize hRES:allGo hz l n 0=RES at*
  refine LoopK.os (fun g:Nat×Net=>[(1,.im (.sl 12 (l.map Ev.iv))),(2,.int .i64 hz),(3,.ptr 0 0),(6,.ptr 1 0),(19,.im (.sl 12 (l.map Ev.iv))),(20,.int .i64 l.length),(21,.int .i64 g.1)])
   (fun g=>[.box 25 [.im (.sl 4 (g.2.seats.map Seat.iv)),.im (.sl 4 (g.2.routers.map Router.iv))],.box 25 [.im (.sc (.slice none 0 0)),.im (.sc (.slice none 0 0))]])
   (fun g=>g.1≤l.length∧g.2.wf∧g.2.seats.length≤129∧allGo hz (l.drop g.1) g.2 g.1=RES) (fun g=>l.length-g.1) (0,n) [0,1] ⟨Nat.zero_le _,hw,by show n.seats.length≤129;omega,by simpa using hRES⟩ (by simp) ?_
  rintro⟨k,N⟩ ⟨hk,hNw,hNl,hR⟩
  simp only at hk hNw hNl hR
  by_cases hlt:k<l.length
  ·have e1:IntKind.i64.wrap (k+1)=(k+1:Nat):=wrap64 (by omega) (by omega)
   rw[List.drop_eq_getElem_cons hlt,allGo]at hR
   have hem:=hew l[k] (List.getElem_mem _)
   generalize hE:l[k]=E at*
   have h3:=happens_spec N E hz hNw hem (by omega)
   have hw2:=happensF_wf (hz:=hz) hNw hem
   have hl2:=happensF_len (e:=E) (hz:=hz) hNl
   generalize happensF N E hz=HS at*
   simp -implicitDefEqProofs [hlt,hE]
   first|refine CallK.same (h3) rfl rfl ?_|refine CallQ.same (h3) rfl rfl ?_|refine CallQG.same _ (h3) rfl ?_|refine CallG.same _ (h3) rfl ?_|refine CallK.pv (h3) rfl rfl ?_
   simp -implicitDefEqProofs
   refine⟨fun h=>?_,fun h=>?_⟩
   ·rw[if_neg h]at hR
    refine EndZ.ret [] (.tup [N.av,.int .i64 k,.int .i64 HS.2]) (by simp) ?_
    simp -implicitDefEqProofs [←hR]
   ·rw[if_pos h]at hR
    refine Again.os (k+1,HS.1) [0,1] ⟨hlt,hw2,hl2,by simpa using hR⟩ (by show l.length-(k+1)<l.length-k;omega) ?_
    simp -implicitDefEqProofs [e1]
  ·have hkk:k=l.length:=by omega
   subst hkk
   rw[List.drop_length,allGo]at hR
   simp -implicitDefEqProofs
   refine EndZ.ret [] (.tup [N.av,.int .i64 l.length,.int .i64 0]) (by simp) ?_
   simp -implicitDefEqProofs [←hR]
end Go.Am
namespace Go.Am
open Go.Proofs
structure Past where
 base:Net
 hz:Int
 evs:List Ev
@[simp] def Past.av (p:Past):AV:=.agg [.im (.sl 4 (p.base.seats.map Seat.iv)),.im (.sl 4 (p.base.routers.map Router.iv)),.int .i64 p.hz,.im (.sl 12 (p.evs.map Ev.iv))]
theorem many_bd:∀(l:List Router) (n:Int),(∀r∈l,routerOk r=true)→0≤n→n+288*l.length≤1000000000→n≤many l n∧many l n≤n+288*l.length
 |[],n,_,_,_=>by simp[many]
 |r::l,n,h,h0,hb=>by
  obtain⟨h1,h2⟩:=routerOk_len (h r List.mem_cons_self)
  simp only[List.length_cons]at hb
  have e1:IntKind.i64.wrap ((r.routes.length:Int)+r.links.length)=(r.routes.length:Int)+r.links.length:=wrap64 (by omega) (by omega)
  have e2:IntKind.i64.wrap (n+((r.routes.length:Int)+r.links.length))=n+((r.routes.length:Int)+r.links.length):=wrap64 (by omega) (by omega)
  rw[many,e1,e2]
  have:=many_bd l (n+((r.routes.length:Int)+r.links.length)) (fun x hx=>h x (List.mem_cons_of_mem _ hx)) (by omega) (by omega)
  simp only[List.length_cons]
  omega
def sizeN (n:Net):Int:=if netOk n then many n.routers 0 else 0
theorem sizeN_bd (n:Net):0≤sizeN n∧sizeN n≤1000000:=by
 unfold sizeN
 split
 ·rename_i h
  have h1:=netOk_len h
  have:=many_bd n.routers 0 (netOk_routers h).2 (Int.le_refl _) (by omega)
  omega
 ·omega
theorem sizeNr_spec (n:Net) (hw:n.wf):FSpec Tryz.prog 270 [n.av] [] (.tup [.int .i64 (sizeN n),.int .i64 (if netOk n then 0 else 2)]) []:=by
 have h1:=checkNr_spec n hw
 have h2:=manyr_spec n.routers
 refine FSpec.of_z (q:=[]) Tryz.func270 (by kernel_rfl) rfl Tryz.ntmps270 Tryz.results270 hP (by kernel_rfl) (by simp) (by first|rfl|simp) ?_
 simp -implicitDefEqProofs
 first|refine CallK.same (h1) rfl rfl ?_|refine CallQ.same (h1) rfl rfl ?_|refine CallQG.same _ (h1) rfl ?_|refine CallG.same _ (h1) rfl ?_|refine CallK.pv (h1) rfl rfl ?_
 simp -implicitDefEqProofs
 unfold sizeN
 cases hn:netOk n with
 |false=>
  simp -implicitDefEqProofs
  refine EndZ.ret [] (.tup [.int .i64 0,.int .i64 2]) (by simp) ?_
  simp
 |true=>
  simp -implicitDefEqProofs
  first|refine CallK.same (h2) rfl rfl ?_|refine CallQ.same (h2) rfl rfl ?_|refine CallQG.same _ (h2) rfl ?_|refine CallG.same _ (h2) rfl ?_|refine CallK.pv (h2) rfl rfl ?_
  simp -implicitDefEqProofs
  refine EndZ.ret [] (.tup [.int .i64 (many n.routers 0),.int .i64 0]) (by simp) ?_
  simp
def addsE (l:List Ev):Nat:=l.countP fun e=>e.kind==3||e.kind==5
theorem addsE_take (l:List Ev) (k:Nat) (h:k<l.length):addsE (l.take (k+1))=addsE (l.take k)+if l[k].kind=3∨l[k].kind=5 then 1 else 0:=by
 unfold addsE
 rw[List.take_add_one,List.getElem?_eq_getElem h,List.countP_append]
 simp only[Option.toList_some,List.countP_cons,List.countP_nil,Bool.or_eq_true,beq_iff_eq]
 omega
theorem addsE_len (l:List Ev):addsE l≤l.length:=List.countP_le_length
def weightF (p:Past):Int:=sizeN p.base+addsE p.evs
set_option maxRecDepth 8000 in
theorem weightr_spec (p:Past) (hw:p.base.wf) (hl:p.evs.length≤100000000):FSpec Tryz.prog 210 [p.av] [] (.int .i64 (weightF p)) []:=by
 have h1:=sizeNr_spec p.base hw
 have hb:=sizeN_bd p.base
 refine FSpec.of_flat (q:=[]) Tryz.func210 (by kernel_rfl) rfl Tryz.ntmps210 Tryz.results210 hP (by kernel_rfl) (by simp) (by first|rfl|simp) ?_
 simp -implicitDefEqProofs
 first|refine CallK.same (h1) rfl rfl ?_|refine CallQ.same (h1) rfl rfl ?_|refine CallQG.same _ (h1) rfl ?_|refine CallG.same _ (h1) rfl ?_|refine CallK.pv (h1) rfl rfl ?_
 simp -implicitDefEqProofs
 unfold weightF
 generalize sizeN p.base=z at*
 generalize p.evs=l at*
 refine LoopK.plain (fun k:Nat=>[(3,.int .i64 (z+addsE (l.take k))),(14,.im (.sl 12 (l.map Ev.iv))),(15,.int .i64 l.length),(16,.int .i64 k)])
  (fun k=>k≤l.length) (fun k=>l.length-k) 0 (Nat.zero_le _) (by simp[addsE]) ?_
 intro k hk
 by_cases hlt:k<l.length
 ·have e1:IntKind.i64.wrap (k+1)=(k+1:Nat):=wrap64 (by omega) (by omega)
  have ht:=addsE_take l k hlt
  have hn:=addsE_len (l.take k)
  rw[List.length_take]at hn
  have e2:IntKind.i64.wrap (z+(addsE (l.take k):Int)+1)=z+(addsE (l.take k):Int)+1:=wrap64 (by omega) (by omega)
  simp -implicitDefEqProofs [hlt]
  refine⟨fun h=>?_,fun h1 h2=>?_⟩
  ·rw[if_pos h]at ht
   refine Again.plain (k+1) hlt (by omega) ?_
   simp -implicitDefEqProofs [e1,e2,ht]
   omega
  ·rw[if_neg (by simp[h1,h2])]at ht
   refine Again.plain (k+1) hlt (by omega) ?_
   simp -implicitDefEqProofs [e1,ht]
 ·have hkk:k=l.length:=by omega
  subst hkk
  simp -implicitDefEqProofs
end Go.Am
namespace Go.Am
open Go.Proofs
def upto (t:Int) (l:List Ev):List Ev:=l.filter fun e=>decide (e.time≤t)
theorem upto_len (t:Int) (l:List Ev):(upto t l).length≤l.length:=List.length_filter_le _ _
theorem upto_take (t:Int) (l:List Ev) (k:Nat) (h:k<l.length):upto t (l.take (k+1))=if l[k].time≤t then upto t (l.take k)++[l[k]]else upto t (l.take k):=by
 unfold upto;rw[filter_take _ _ _ h];simp
theorem upto_nil (t:Int):upto t []=[]:=rfl
def thenF (p:Past) (t:Int):Net:=(allN p.base (upto t p.evs) p.hz).1
set_option maxRecDepth 8000 in
set_option maxHeartbeats 2000000 in
theorem thenr_spec (p:Past) (t:Int) (hw:p.base.wf) (hew:∀e∈p.evs,e.pfx.addr.wf) (hl:p.evs.length≤100000000):
  FSpec Tryz.prog 77 [p.av,.int .i64 t] [] (thenF p t).av []:=by
 have hal:=allNr_spec p.base (upto t p.evs) p.hz hw (fun e he=>hew e (List.mem_filter.1 he).1)
 refine FSpec.of_z (q:=[]) Tryz.func77 (by kernel_rfl) rfl Tryz.ntmps77 Tryz.results77 hP (by kernel_rfl) (by simp) (by first|rfl|simp) ?_
 simp -implicitDefEqProofs
 unfold thenF
 generalize allN p.base (upto t p.evs) p.hz=RES at*
 refine LoopK.nil (.sl 5 79 12) ?_
 simp -implicitDefEqProofs
 refine LoopK.os (fun k:Nat=>[(1,.int .i64 t),(2,.ptr 0 0),(4,.ptr 1 0),(5,.row 2),(12,.im (.sl 12 (p.evs.map Ev.iv))),(13,.int .i64 p.evs.length),(14,.int .i64 k)])
  (fun k=>[.box 28 [.im (.sl 4 (p.base.seats.map Seat.iv)),.im (.sl 4 (p.base.routers.map Router.iv)),.int .i64 p.hz,.im (.sl 12 (p.evs.map Ev.iv))],.box 25 [.im (.sc (.slice none 0 0)),.im (.sc (.slice none 0 0))],.row 79 12 ((upto t (p.evs.take k)).map Ev.iv)])
  (fun k=>k≤p.evs.length) (fun k=>p.evs.length-k) 0 [0,1,2] (Nat.zero_le _) (by simp[upto_nil]) ?_
 intro k hk
 by_cases hlt:k<p.evs.length
 ·have e1:IntKind.i64.wrap (k+1)=(k+1:Nat):=wrap64 (by omega) (by omega)
  have g1:=upto_take t p.evs k hlt
  have b1:=upto_len t (p.evs.take k)
  rw[List.length_take]at b1
  simp -implicitDefEqProofs [hlt]
  refine⟨fun h=>⟨⟨by omega,by unfold maxLen;omega⟩,?_⟩,fun h=>?_⟩
  ·rw[if_pos h]at g1
   refine Again.os (k+1) [0,1,5] hlt (by omega) ?_
   simp -implicitDefEqProofs [e1,g1]
  ·rw[if_neg (by omega)]at g1
   refine Again.os (k+1) [0,1,2] hlt (by omega) ?_
   simp -implicitDefEqProofs [e1,g1]
 ·have hkk:k=p.evs.length:=by omega
  subst hkk
  simp -implicitDefEqProofs
  refine CallX.pre (.fz [2]) ?_
  simp -implicitDefEqProofs
  refine CallK.v0 hal rfl (by simp) rfl ?_
  simp -implicitDefEqProofs
  refine EndZ.ret [] RES.1.av (by simp) ?_
  simp -implicitDefEqProofs
end Go.Am
namespace Go.Am
open Go.Proofs
theorem CallX.ov {P:Go.Program} {f:FuncId} {fn:Go.Func} {tS tR e0:TypeId} {size:Nat} (F:OvF P f fn tS tR e0 size) {d:Option Nat} {k:St→Prop} {fr:List (Nat×AV)} {o:List (Nat×AObj)} {nx s:Nat} {g:Option Bool} {m1 n k0 lo len:Nat} {e1:TypeId} {k1:Nat} {ys:List (List IV)} {e:TypeId} {l c:Nat} {xs:List (List IV)}
  (h1:look o m1=some (.row e1 k1 ys)) (h2:look o n=some (.rowP e k0 l c xs)) (h3:m1≠n) (h4:ys≠[]) (h5:xs≠[]) (h6:0<k0) (h7:lo<c) (hk:k (St.put ⟨fr,o,nx,s,g⟩ d (.bool false))):CallX P f [.row m1,.sub n k0 lo len] d k ⟨fr,o,nx,s,g⟩:=
 ⟨[],.inr (.inr (.inr (.inl ⟨m1,n,k0,lo,len,e1,k1,ys,e,l,c,xs,rfl,h1,h2,h3,h4,h5,h6,h7,⟨_,_,_,_,_,F⟩,hk⟩)))⟩
theorem FSpec.nilArg {P:Go.Program} {f:FuncId} {k:Nat} {r:AV} {outs:List AObj} (h:∀A c,FSpec P f [.im (.sc (.slice A 0 c))] [] r outs):FSpec P f [.im (.sl k [])] [] r outs:=by
 refine⟨(h none 0).1,fun m w Y vs hO hY hsz hvs=>?_⟩
 obtain⟨l⟩:=vs
 match l,hsz with
 |[v],_=>
  have hv:=hvs 0 _ v rfl rfl
  cases hv with|im hv=>
  generalize hx:([]:List (List IV))=xs at hv
  cases hv with|@sl _ _ A cap u ad hcap hmax hA hk hc h1c hr=>
  subst hx
  refine(h A cap).2 m w Y _ hO hY rfl fun j y u' hy hu=>?_
  match j with
  |0=>cases hy;cases hu;exact .im .sc
  |j+1=>simp at hy
theorem del_eq {α:Type} (xs:List α) (i r:Nat) (h:i+1+r=xs.length) (Z D:List α):((xs.take i++(xs.drop (i+1)++D)).take (i+r)++Z).take (i+r)=xs.take i++xs.drop (i+1)∧i+r≤((xs.take i++(xs.drop (i+1)++D)).take (i+r)++Z).length:=by
 have h1:(xs.take i).length=i:=by simp;omega
 have h2:(xs.drop (i+1)).length=r:=by simp;omega
 have e1:(xs.take i++(xs.drop (i+1)++D)).take (i+r)=xs.take i++xs.drop (i+1):=by
  rw[←List.append_assoc,List.take_left' (by simp;omega)]
 rw[e1]
 refine⟨List.take_left' (by simp;omega),by simp;omega⟩
theorem ins_eq {α:Type} (xs D:List α) (x:α) (i r:Nat) (hi:i+r=xs.length) (hD:D.length≤r):(xs.take i++x::D).take (i+1)++((xs.drop i).take r++(xs.take i++x::D).drop (i+1+r))=xs.take i++x::xs.drop i:=by
 have h1:(xs.take i).length=i:=by simp;omega
 have e1:(xs.take i++x::D).take (i+1)=xs.take i++[x]:=by
  rw[List.take_append,h1,List.take_of_length_le (by omega)]
  simp
 have e2:(xs.take i++x::D).drop (i+1+r)=[]:=List.drop_eq_nil_of_le (by simp;omega)
 have e3:(xs.drop i).take r=xs.drop i:=List.take_of_length_le (by simp;omega)
 rw[e1,e2,e3]
 simp
theorem ovSeat:OvF Tryz.prog 429 Tryz.f429 22 4 228 4:=
 ⟨Tryz.func429,by kernel_rfl,by kernel_rfl,by kernel_rfl,by kernel_rfl,Tryz.underlying22,by kernel_rfl⟩
set_option maxRecDepth 8000 in
set_option maxHeartbeats 1000000 in
theorem insSeat_spec (xs:List (List IV)) (x:List IV) (i:Nat) (hi:i≤xs.length) (hl:xs.length≤4096):
  FSpec Tryz.prog 406 [.row 0,.int .i64 i,.row 1] [.row 228 4 xs,.row 228 4 [x]] (.row 2) [.gone,.row 228 4 [x],.row 228 4 (xs.take i++x::xs.drop i)]:=by
 have e1:IntKind.i64.wrap ((xs.length:Int)+1)=(xs.length+1:Nat):=wrap64 (by omega) (by omega)
 have e2:IntKind.i64.wrap ((i:Int)+1)=(i+1:Nat):=wrap64 (by omega) (by omega)
 have e3:IntKind.i64.wrap (((xs.length+1:Nat):Int)-(i:Int))=(xs.length+1-i:Nat):=by rw[wrap64 (by omega) (by omega)];omega
 by_cases h:i=xs.length
 ·subst h
  refine FSpec.of_o (q:=[(11,.n 8),(15,.n 8)]) Tryz.func406 (by kernel_rfl) rfl Tryz.ntmps406 Tryz.results406 hP (by kernel_rfl) (by simp) (by first|rfl|simp) ?_
  simp -implicitDefEqProofs
  refine⟨⟨by omega,by unfold maxLen;omega⟩,?_⟩
  refine EndO.ret [] [0,1,2] (.row 2) (by simp) (by simp)
 ·have hlt:i<xs.length:=by omega
  refine FSpec.openP (i:=0) (enters_of Tryz.func406 (by kernel_rfl) rfl) rfl fun c hc hcm=>?_
  simp only[List.set_cons_zero]
  have hne:xs≠[]:=by intro e;subst e;simp at hlt
  refine FSpec.of_o (q:=[(11,.n 8),(15,.n 8)]) Tryz.func406 (by kernel_rfl) rfl Tryz.ntmps406 Tryz.results406 hP (by kernel_rfl) (by simp) (by first|rfl|simp) ?_
  have e1':IntKind.i64.wrap ((xs.length:Int)+1)=(xs.length:Int)+1:=wrap64 (by omega) (by omega)
  have e2':IntKind.i64.wrap ((i:Int)+1)=(i:Int)+1:=wrap64 (by omega) (by omega)
  have hii:¬(i:Int)=xs.length:=by omega
  obtain⟨q,hq⟩:∃q,q=xs.length+1-i:=⟨_,rfl⟩
  have e3':IntKind.i64.wrap ((xs.length:Int)+1-i)=(q:Int):=by rw[wrap64 (by omega) (by omega)];omega
  have hmx:max (q:Int) 0=q:=by omega
  have hq2:((i:Int)+(q:Int)).toNat=i+q:=by omega
  have hmin:min 1 q=1:=by omega
  have hq0:0<q:=by omega
  have hmaxl:i+q≤maxLen:=by unfold maxLen;omega
  have hby:(i+q)*32≤140737488355328:=by omega
  rcases Nat.lt_or_ge c (xs.length+1)with hcc|hcc
  ·have hcc1:(c:Int)<(xs.length:Int)+1:=by omega
   have hcc2:c<i+q:=by omega
   simp -implicitDefEqProofs [h,hi,e1',e2',e3',hmx,hq2,hmin,hq0,hmaxl,hby,hc,hcc1,hcc2,hii]
   repeat refine⟨by omega,?_⟩
   have hA:((i:Int)+(((i+q-(i+1):Nat):Int)+1)).toNat-(i+1)=xs.length-i:=by omega
   have hC:i+1+(xs.length-i)≤i+(i+q-(i+1)+1):=by omega
   simp -implicitDefEqProofs only[hA,hC,if_true]
   simp -implicitDefEqProofs
   refine EndO.ret [] [0,1,2] (.row 2) (by simp) ?_
   have hI:=fun Z:List IV=>ins_eq xs ((xs.take i++List.replicate q Z).drop (i+1)) x i (xs.length-i) (by omega) (by simp;omega)
   simp -implicitDefEqProofs [List.take_take]
   exact hI _
  ·have hcc1:¬(c:Int)<(xs.length:Int)+1:=by omega
   simp -implicitDefEqProofs [h,hi,e1',e2',e3',hmx,hq2,hmin,hq0,hmaxl,hby,hc,hcc,hcc1,hii]
   refine .inr ⟨⟨by omega,by omega⟩,by omega,?_⟩
   refine CallX.ov ovSeat rfl rfl (by omega) (by simp) hne (by omega) (by omega) ?_
   have hF:¬i+(xs.length+1-i)≤xs.length:=by omega
   have hG:min (xs.length+1-i) (xs.length-i)=xs.length-i:=by omega
   have hG2:i+(xs.length-i)≤xs.length:=by omega
   have hT:(xs.drop i).take (xs.length-i)=xs.drop i:=List.take_of_length_le (by simp)
   have hlt':i+1≤xs.length:=hlt
   simp -implicitDefEqProofs [h,hi,e1',e2',e3',hmx,hq2,hmin,hq0,hmaxl,hby,hc,hcc,hcc1,hii,hF,hG,hG2,hT,hlt']
   repeat refine⟨by omega,?_⟩
   have hm1:min 1 (xs.length+1-i)=1:=by omega
   have hd:xs.drop (i+1+(xs.length-i))=[]:=List.drop_eq_nil_of_le (by omega)
   have k1:(xs.take (i+1)++xs.drop i).take i=xs.take i:=by
    rw[List.take_append_of_le_length (by simp;omega),List.take_take,Nat.min_eq_left (by omega)]
   have k2:(xs.take (i+1)++xs.drop i).drop (i+1)=xs.drop i:=List.drop_left' (by simp;omega)
   have k3:(xs.take i++x::xs.drop i).length=xs.length+1:=by simp;omega
   refine EndO.ret [] [0,1,2] (.row 2) (by simp) ?_
   simp -implicitDefEqProofs only[hm1,hd,List.append_nil,List.take_succ_cons,List.take_zero,k1,k2,List.cons_append,List.nil_append]
   have k4:xs.length+1≤(xs.take i++x::xs.drop i).length:=by omega
   have k5:(xs.take i++x::xs.drop i).take (xs.length+1)=xs.take i++x::xs.drop i:=List.take_of_length_le (by omega)
   generalize xs.take i++x::xs.drop i=R at*
   simp -implicitDefEqProofs [k4,k5]
theorem ovRouter:OvF Tryz.prog 359 Tryz.f359 23 4 100 4:=
 ⟨Tryz.func359,by kernel_rfl,by kernel_rfl,by kernel_rfl,by kernel_rfl,Tryz.underlying23,by kernel_rfl⟩
set_option maxRecDepth 8000 in
set_option maxHeartbeats 1000000 in
theorem insRouter_spec (xs:List (List IV)) (x:List IV) (i:Nat) (hi:i≤xs.length) (hl:xs.length≤4096):
  FSpec Tryz.prog 290 [.row 0,.int .i64 i,.row 1] [.row 100 4 xs,.row 100 4 [x]] (.row 2) [.gone,.row 100 4 [x],.row 100 4 (xs.take i++x::xs.drop i)]:=by
 have e1:IntKind.i64.wrap ((xs.length:Int)+1)=(xs.length+1:Nat):=wrap64 (by omega) (by omega)
 have e2:IntKind.i64.wrap ((i:Int)+1)=(i+1:Nat):=wrap64 (by omega) (by omega)
 have e3:IntKind.i64.wrap (((xs.length+1:Nat):Int)-(i:Int))=(xs.length+1-i:Nat):=by rw[wrap64 (by omega) (by omega)];omega
 by_cases h:i=xs.length
 ·subst h
  refine FSpec.of_o (q:=[(11,.n 8),(15,.n 8)]) Tryz.func290 (by kernel_rfl) rfl Tryz.ntmps290 Tryz.results290 hP (by kernel_rfl) (by simp) (by first|rfl|simp) ?_
  simp -implicitDefEqProofs
  refine⟨⟨by omega,by unfold maxLen;omega⟩,?_⟩
  refine EndO.ret [] [0,1,2] (.row 2) (by simp) (by simp)
 ·have hlt:i<xs.length:=by omega
  refine FSpec.openP (i:=0) (enters_of Tryz.func290 (by kernel_rfl) rfl) rfl fun c hc hcm=>?_
  simp only[List.set_cons_zero]
  have hne:xs≠[]:=by intro e;subst e;simp at hlt
  refine FSpec.of_o (q:=[(11,.n 8),(15,.n 8)]) Tryz.func290 (by kernel_rfl) rfl Tryz.ntmps290 Tryz.results290 hP (by kernel_rfl) (by simp) (by first|rfl|simp) ?_
  have e1':IntKind.i64.wrap ((xs.length:Int)+1)=(xs.length:Int)+1:=wrap64 (by omega) (by omega)
  have e2':IntKind.i64.wrap ((i:Int)+1)=(i:Int)+1:=wrap64 (by omega) (by omega)
  have hii:¬(i:Int)=xs.length:=by omega
  obtain⟨q,hq⟩:∃q,q=xs.length+1-i:=⟨_,rfl⟩
  have e3':IntKind.i64.wrap ((xs.length:Int)+1-i)=(q:Int):=by rw[wrap64 (by omega) (by omega)];omega
  have hmx:max (q:Int) 0=q:=by omega
  have hq2:((i:Int)+(q:Int)).toNat=i+q:=by omega
  have hmin:min 1 q=1:=by omega
  have hq0:0<q:=by omega
  have hmaxl:i+q≤maxLen:=by unfold maxLen;omega
  have hby:(i+q)*64≤140737488355328:=by omega
  rcases Nat.lt_or_ge c (xs.length+1)with hcc|hcc
  ·have hcc1:(c:Int)<(xs.length:Int)+1:=by omega
   have hcc2:c<i+q:=by omega
   simp -implicitDefEqProofs [h,hi,e1',e2',e3',hmx,hq2,hmin,hq0,hmaxl,hby,hc,hcc1,hcc2,hii]
   repeat refine⟨by omega,?_⟩
   have hA:((i:Int)+(((i+q-(i+1):Nat):Int)+1)).toNat-(i+1)=xs.length-i:=by omega
   have hC:i+1+(xs.length-i)≤i+(i+q-(i+1)+1):=by omega
   simp -implicitDefEqProofs only[hA,hC,if_true]
   simp -implicitDefEqProofs
   refine EndO.ret [] [0,1,2] (.row 2) (by simp) ?_
   have hI:=fun Z:List IV=>ins_eq xs ((xs.take i++List.replicate q Z).drop (i+1)) x i (xs.length-i) (by omega) (by simp;omega)
   simp -implicitDefEqProofs [List.take_take]
   exact hI _
  ·have hcc1:¬(c:Int)<(xs.length:Int)+1:=by omega
   simp -implicitDefEqProofs [h,hi,e1',e2',e3',hmx,hq2,hmin,hq0,hmaxl,hby,hc,hcc,hcc1,hii]
   refine .inr ⟨⟨by omega,by omega⟩,by omega,?_⟩
   refine CallX.ov ovRouter rfl rfl (by omega) (by simp) hne (by omega) (by omega) ?_
   have hF:¬i+(xs.length+1-i)≤xs.length:=by omega
   have hG:min (xs.length+1-i) (xs.length-i)=xs.length-i:=by omega
   have hG2:i+(xs.length-i)≤xs.length:=by omega
   have hT:(xs.drop i).take (xs.length-i)=xs.drop i:=List.take_of_length_le (by simp)
   have hlt':i+1≤xs.length:=hlt
   simp -implicitDefEqProofs [h,hi,e1',e2',e3',hmx,hq2,hmin,hq0,hmaxl,hby,hc,hcc,hcc1,hii,hF,hG,hG2,hT,hlt']
   repeat refine⟨by omega,?_⟩
   have hm1:min 1 (xs.length+1-i)=1:=by omega
   have hd:xs.drop (i+1+(xs.length-i))=[]:=List.drop_eq_nil_of_le (by omega)
   have k1:(xs.take (i+1)++xs.drop i).take i=xs.take i:=by
    rw[List.take_append_of_le_length (by simp;omega),List.take_take,Nat.min_eq_left (by omega)]
   have k2:(xs.take (i+1)++xs.drop i).drop (i+1)=xs.drop i:=List.drop_left' (by simp;omega)
   have k3:(xs.take i++x::xs.drop i).length=xs.length+1:=by simp;omega
   refine EndO.ret [] [0,1,2] (.row 2) (by simp) ?_
   simp -implicitDefEqProofs only[hm1,hd,List.append_nil,List.take_succ_cons,List.take_zero,k1,k2,List.cons_append,List.nil_append]
   have k4:xs.length+1≤(xs.take i++x::xs.drop i).length:=by omega
   have k5:(xs.take i++x::xs.drop i).take (xs.length+1)=xs.take i++x::xs.drop i:=List.take_of_length_le (by omega)
   generalize xs.take i++x::xs.drop i=R at*
   simp -implicitDefEqProofs [k4,k5]
theorem ovRoute:OvF Tryz.prog 433 Tryz.f433 97 4 287 6:=
 ⟨Tryz.func433,by kernel_rfl,by kernel_rfl,by kernel_rfl,by kernel_rfl,Tryz.underlying97,by kernel_rfl⟩
set_option maxRecDepth 8000 in
set_option maxHeartbeats 1000000 in
theorem insRoute_spec (xs:List (List IV)) (x:List IV) (i:Nat) (hi:i≤xs.length) (hl:xs.length≤4096):
  FSpec Tryz.prog 423 [.row 0,.int .i64 i,.row 1] [.row 287 6 xs,.row 287 6 [x]] (.row 2) [.gone,.row 287 6 [x],.row 287 6 (xs.take i++x::xs.drop i)]:=by
 have e1:IntKind.i64.wrap ((xs.length:Int)+1)=(xs.length+1:Nat):=wrap64 (by omega) (by omega)
 have e2:IntKind.i64.wrap ((i:Int)+1)=(i+1:Nat):=wrap64 (by omega) (by omega)
 have e3:IntKind.i64.wrap (((xs.length+1:Nat):Int)-(i:Int))=(xs.length+1-i:Nat):=by rw[wrap64 (by omega) (by omega)];omega
 by_cases h:i=xs.length
 ·subst h
  refine FSpec.of_o (q:=[(11,.n 8),(15,.n 8)]) Tryz.func423 (by kernel_rfl) rfl Tryz.ntmps423 Tryz.results423 hP (by kernel_rfl) (by simp) (by first|rfl|simp) ?_
  simp -implicitDefEqProofs
  refine⟨⟨by omega,by unfold maxLen;omega⟩,?_⟩
  refine EndO.ret [] [0,1,2] (.row 2) (by simp) (by simp)
 ·have hlt:i<xs.length:=by omega
  refine FSpec.openP (i:=0) (enters_of Tryz.func423 (by kernel_rfl) rfl) rfl fun c hc hcm=>?_
  simp only[List.set_cons_zero]
  have hne:xs≠[]:=by intro e;subst e;simp at hlt
  refine FSpec.of_o (q:=[(11,.n 8),(15,.n 8)]) Tryz.func423 (by kernel_rfl) rfl Tryz.ntmps423 Tryz.results423 hP (by kernel_rfl) (by simp) (by first|rfl|simp) ?_
  have e1':IntKind.i64.wrap ((xs.length:Int)+1)=(xs.length:Int)+1:=wrap64 (by omega) (by omega)
  have e2':IntKind.i64.wrap ((i:Int)+1)=(i:Int)+1:=wrap64 (by omega) (by omega)
  have hii:¬(i:Int)=xs.length:=by omega
  obtain⟨q,hq⟩:∃q,q=xs.length+1-i:=⟨_,rfl⟩
  have e3':IntKind.i64.wrap ((xs.length:Int)+1-i)=(q:Int):=by rw[wrap64 (by omega) (by omega)];omega
  have hmx:max (q:Int) 0=q:=by omega
  have hq2:((i:Int)+(q:Int)).toNat=i+q:=by omega
  have hmin:min 1 q=1:=by omega
  have hq0:0<q:=by omega
  have hmaxl:i+q≤maxLen:=by unfold maxLen;omega
  have hby:(i+q)*64≤140737488355328:=by omega
  rcases Nat.lt_or_ge c (xs.length+1)with hcc|hcc
  ·have hcc1:(c:Int)<(xs.length:Int)+1:=by omega
   have hcc2:c<i+q:=by omega
   simp -implicitDefEqProofs [h,hi,e1',e2',e3',hmx,hq2,hmin,hq0,hmaxl,hby,hc,hcc1,hcc2,hii]
   repeat refine⟨by omega,?_⟩
   have hA:((i:Int)+(((i+q-(i+1):Nat):Int)+1)).toNat-(i+1)=xs.length-i:=by omega
   have hC:i+1+(xs.length-i)≤i+(i+q-(i+1)+1):=by omega
   simp -implicitDefEqProofs only[hA,hC,if_true]
   simp -implicitDefEqProofs
   refine EndO.ret [] [0,1,2] (.row 2) (by simp) ?_
   have hI:=fun Z:List IV=>ins_eq xs ((xs.take i++List.replicate q Z).drop (i+1)) x i (xs.length-i) (by omega) (by simp;omega)
   simp -implicitDefEqProofs [List.take_take]
   exact hI _
  ·have hcc1:¬(c:Int)<(xs.length:Int)+1:=by omega
   simp -implicitDefEqProofs [h,hi,e1',e2',e3',hmx,hq2,hmin,hq0,hmaxl,hby,hc,hcc,hcc1,hii]
   refine .inr ⟨⟨by omega,by omega⟩,by omega,?_⟩
   refine CallX.ov ovRoute rfl rfl (by omega) (by simp) hne (by omega) (by omega) ?_
   have hF:¬i+(xs.length+1-i)≤xs.length:=by omega
   have hG:min (xs.length+1-i) (xs.length-i)=xs.length-i:=by omega
   have hG2:i+(xs.length-i)≤xs.length:=by omega
   have hT:(xs.drop i).take (xs.length-i)=xs.drop i:=List.take_of_length_le (by simp)
   have hlt':i+1≤xs.length:=hlt
   simp -implicitDefEqProofs [h,hi,e1',e2',e3',hmx,hq2,hmin,hq0,hmaxl,hby,hc,hcc,hcc1,hii,hF,hG,hG2,hT,hlt']
   repeat refine⟨by omega,?_⟩
   have hm1:min 1 (xs.length+1-i)=1:=by omega
   have hd:xs.drop (i+1+(xs.length-i))=[]:=List.drop_eq_nil_of_le (by omega)
   have k1:(xs.take (i+1)++xs.drop i).take i=xs.take i:=by
    rw[List.take_append_of_le_length (by simp;omega),List.take_take,Nat.min_eq_left (by omega)]
   have k2:(xs.take (i+1)++xs.drop i).drop (i+1)=xs.drop i:=List.drop_left' (by simp;omega)
   have k3:(xs.take i++x::xs.drop i).length=xs.length+1:=by simp;omega
   refine EndO.ret [] [0,1,2] (.row 2) (by simp) ?_
   simp -implicitDefEqProofs only[hm1,hd,List.append_nil,List.take_succ_cons,List.take_zero,k1,k2,List.cons_append,List.nil_append]
   have k4:xs.length+1≤(xs.take i++x::xs.drop i).length:=by omega
   have k5:(xs.take i++x::xs.drop i).take (xs.length+1)=xs.take i++x::xs.drop i:=List.take_of_length_le (by omega)
   generalize xs.take i++x::xs.drop i=R at*
   simp -implicitDefEqProofs [k4,k5]
theorem ovLink:OvF Tryz.prog 435 Tryz.f435 98 4 325 2:=
 ⟨Tryz.func435,by kernel_rfl,by kernel_rfl,by kernel_rfl,by kernel_rfl,Tryz.underlying98,by kernel_rfl⟩
set_option maxRecDepth 8000 in
set_option maxHeartbeats 1000000 in
theorem insLink_spec (xs:List (List IV)) (x:List IV) (i:Nat) (hi:i≤xs.length) (hl:xs.length≤4096):
  FSpec Tryz.prog 426 [.row 0,.int .i64 i,.row 1] [.row 325 2 xs,.row 325 2 [x]] (.row 2) [.gone,.row 325 2 [x],.row 325 2 (xs.take i++x::xs.drop i)]:=by
 have e1:IntKind.i64.wrap ((xs.length:Int)+1)=(xs.length+1:Nat):=wrap64 (by omega) (by omega)
 have e2:IntKind.i64.wrap ((i:Int)+1)=(i+1:Nat):=wrap64 (by omega) (by omega)
 have e3:IntKind.i64.wrap (((xs.length+1:Nat):Int)-(i:Int))=(xs.length+1-i:Nat):=by rw[wrap64 (by omega) (by omega)];omega
 by_cases h:i=xs.length
 ·subst h
  refine FSpec.of_o (q:=[(11,.n 8),(15,.n 8)]) Tryz.func426 (by kernel_rfl) rfl Tryz.ntmps426 Tryz.results426 hP (by kernel_rfl) (by simp) (by first|rfl|simp) ?_
  simp -implicitDefEqProofs
  refine⟨⟨by omega,by unfold maxLen;omega⟩,?_⟩
  refine EndO.ret [] [0,1,2] (.row 2) (by simp) (by simp)
 ·have hlt:i<xs.length:=by omega
  refine FSpec.openP (i:=0) (enters_of Tryz.func426 (by kernel_rfl) rfl) rfl fun c hc hcm=>?_
  simp only[List.set_cons_zero]
  have hne:xs≠[]:=by intro e;subst e;simp at hlt
  refine FSpec.of_o (q:=[(11,.n 8),(15,.n 8)]) Tryz.func426 (by kernel_rfl) rfl Tryz.ntmps426 Tryz.results426 hP (by kernel_rfl) (by simp) (by first|rfl|simp) ?_
  have e1':IntKind.i64.wrap ((xs.length:Int)+1)=(xs.length:Int)+1:=wrap64 (by omega) (by omega)
  have e2':IntKind.i64.wrap ((i:Int)+1)=(i:Int)+1:=wrap64 (by omega) (by omega)
  have hii:¬(i:Int)=xs.length:=by omega
  obtain⟨q,hq⟩:∃q,q=xs.length+1-i:=⟨_,rfl⟩
  have e3':IntKind.i64.wrap ((xs.length:Int)+1-i)=(q:Int):=by rw[wrap64 (by omega) (by omega)];omega
  have hmx:max (q:Int) 0=q:=by omega
  have hq2:((i:Int)+(q:Int)).toNat=i+q:=by omega
  have hmin:min 1 q=1:=by omega
  have hq0:0<q:=by omega
  have hmaxl:i+q≤maxLen:=by unfold maxLen;omega
  have hby:(i+q)*16≤140737488355328:=by omega
  rcases Nat.lt_or_ge c (xs.length+1)with hcc|hcc
  ·have hcc1:(c:Int)<(xs.length:Int)+1:=by omega
   have hcc2:c<i+q:=by omega
   simp -implicitDefEqProofs [h,hi,e1',e2',e3',hmx,hq2,hmin,hq0,hmaxl,hby,hc,hcc1,hcc2,hii]
   repeat refine⟨by omega,?_⟩
   have hA:((i:Int)+(((i+q-(i+1):Nat):Int)+1)).toNat-(i+1)=xs.length-i:=by omega
   have hC:i+1+(xs.length-i)≤i+(i+q-(i+1)+1):=by omega
   simp -implicitDefEqProofs only[hA,hC,if_true]
   simp -implicitDefEqProofs
   refine EndO.ret [] [0,1,2] (.row 2) (by simp) ?_
   have hI:=fun Z:List IV=>ins_eq xs ((xs.take i++List.replicate q Z).drop (i+1)) x i (xs.length-i) (by omega) (by simp;omega)
   simp -implicitDefEqProofs [List.take_take]
   exact hI _
  ·have hcc1:¬(c:Int)<(xs.length:Int)+1:=by omega
   simp -implicitDefEqProofs [h,hi,e1',e2',e3',hmx,hq2,hmin,hq0,hmaxl,hby,hc,hcc,hcc1,hii]
   refine .inr ⟨⟨by omega,by omega⟩,by omega,?_⟩
   refine CallX.ov ovLink rfl rfl (by omega) (by simp) hne (by omega) (by omega) ?_
   have hF:¬i+(xs.length+1-i)≤xs.length:=by omega
   have hG:min (xs.length+1-i) (xs.length-i)=xs.length-i:=by omega
   have hG2:i+(xs.length-i)≤xs.length:=by omega
   have hT:(xs.drop i).take (xs.length-i)=xs.drop i:=List.take_of_length_le (by simp)
   have hlt':i+1≤xs.length:=hlt
   simp -implicitDefEqProofs [h,hi,e1',e2',e3',hmx,hq2,hmin,hq0,hmaxl,hby,hc,hcc,hcc1,hii,hF,hG,hG2,hT,hlt']
   repeat refine⟨by omega,?_⟩
   have hm1:min 1 (xs.length+1-i)=1:=by omega
   have hd:xs.drop (i+1+(xs.length-i))=[]:=List.drop_eq_nil_of_le (by omega)
   have k1:(xs.take (i+1)++xs.drop i).take i=xs.take i:=by
    rw[List.take_append_of_le_length (by simp;omega),List.take_take,Nat.min_eq_left (by omega)]
   have k2:(xs.take (i+1)++xs.drop i).drop (i+1)=xs.drop i:=List.drop_left' (by simp;omega)
   have k3:(xs.take i++x::xs.drop i).length=xs.length+1:=by simp;omega
   refine EndO.ret [] [0,1,2] (.row 2) (by simp) ?_
   simp -implicitDefEqProofs only[hm1,hd,List.append_nil,List.take_succ_cons,List.take_zero,k1,k2,List.cons_append,List.nil_append]
   have k4:xs.length+1≤(xs.take i++x::xs.drop i).length:=by omega
   have k5:(xs.take i++x::xs.drop i).take (xs.length+1)=xs.take i++x::xs.drop i:=List.take_of_length_le (by omega)
   generalize xs.take i++x::xs.drop i=R at*
   simp -implicitDefEqProofs [k4,k5]
set_option maxRecDepth 8000 in
set_option maxHeartbeats 1000000 in
theorem delRoute_spec (xs:List (List IV)) (i:Nat) (hi:i<xs.length) (hl:xs.length≤4096):
  FSpec Tryz.prog 425 [.row 0,.int .i64 i,.int .i64 (i+1:Nat)] [.row 287 6 xs] (.row 1) [.gone,.row 287 6 (xs.take i++xs.drop (i+1))]:=by
 refine FSpec.openP (i:=0) (enters_of Tryz.func425 (by kernel_rfl) rfl) rfl fun c hc hcm=>?_
 simp only[List.set_cons_zero]
 have hne:xs≠[]:=by intro e;subst e;simp at hi
 have h0:(i:Int)≤(i:Int)+1:=by omega
 have h1:(i:Int)+1≤xs.length:=by omega
 have h2:¬(i:Int)=(i:Int)+1:=by omega
 have h3:i+1≤xs.length:=hi
 have hc0:0<c:=by omega
 have h4:i≤xs.length:=by omega
 have h5:i≤c:=by omega
 have h6:i+(xs.length-(i+1))≤c:=by omega
 have h7:i+1+(xs.length-(i+1))≤xs.length:=by omega
 refine FSpec.of_o (q:=[(5,.n 6)]) Tryz.func425 (by kernel_rfl) rfl Tryz.ntmps425 Tryz.results425 hP (by kernel_rfl) (by simp) (by first|rfl|simp) ?_
 simp -implicitDefEqProofs [hc,h0,h1,h2,h3,hc0,h4,h5,h6,h7]
 repeat refine⟨by omega,?_⟩
 have hL:((i:Int)+((xs.length-(i+1):Nat):Int)).toNat=i+(xs.length-(i+1)):=by omega
 have hT:(xs.drop (i+1)).take (xs.length-(i+1))=xs.drop (i+1):=List.take_of_length_le (by simp)
 have hD:=fun Z D:List (List IV)=>del_eq xs i (xs.length-(i+1)) (by omega) Z D
 refine EndO.ret [] [0,1] (.row 1) (by simp) ?_
 simp -implicitDefEqProofs only[hL,hT]
 generalize List.replicate (xs.length-(i+(xs.length-(i+1)))) _++_=Z
 obtain⟨k1,k2⟩:=hD Z (xs.drop (i+(xs.length-(i+1))))
 generalize List.take (i+(xs.length-(i+1))) _++Z=R at*
 simp -implicitDefEqProofs [k1,k2]
set_option maxRecDepth 8000 in
set_option maxHeartbeats 1000000 in
theorem delLink_spec (xs:List (List IV)) (i:Nat) (hi:i<xs.length) (hl:xs.length≤4096):
  FSpec Tryz.prog 427 [.row 0,.int .i64 i,.int .i64 (i+1:Nat)] [.row 325 2 xs] (.row 1) [.gone,.row 325 2 (xs.take i++xs.drop (i+1))]:=by
 refine FSpec.openP (i:=0) (enters_of Tryz.func427 (by kernel_rfl) rfl) rfl fun c hc hcm=>?_
 simp only[List.set_cons_zero]
 have hne:xs≠[]:=by intro e;subst e;simp at hi
 have h0:(i:Int)≤(i:Int)+1:=by omega
 have h1:(i:Int)+1≤xs.length:=by omega
 have h2:¬(i:Int)=(i:Int)+1:=by omega
 have h3:i+1≤xs.length:=hi
 have hc0:0<c:=by omega
 have h4:i≤xs.length:=by omega
 have h5:i≤c:=by omega
 have h6:i+(xs.length-(i+1))≤c:=by omega
 have h7:i+1+(xs.length-(i+1))≤xs.length:=by omega
 refine FSpec.of_o (q:=[(5,.n 6)]) Tryz.func427 (by kernel_rfl) rfl Tryz.ntmps427 Tryz.results427 hP (by kernel_rfl) (by simp) (by first|rfl|simp) ?_
 simp -implicitDefEqProofs [hc,h0,h1,h2,h3,hc0,h4,h5,h6,h7]
 repeat refine⟨by omega,?_⟩
 have hL:((i:Int)+((xs.length-(i+1):Nat):Int)).toNat=i+(xs.length-(i+1)):=by omega
 have hT:(xs.drop (i+1)).take (xs.length-(i+1))=xs.drop (i+1):=List.take_of_length_le (by simp)
 have hD:=fun Z D:List (List IV)=>del_eq xs i (xs.length-(i+1)) (by omega) Z D
 refine EndO.ret [] [0,1] (.row 1) (by simp) ?_
 simp -implicitDefEqProofs only[hL,hT]
 generalize List.replicate (xs.length-(i+(xs.length-(i+1)))) _++_=Z
 obtain⟨k1,k2⟩:=hD Z (xs.drop (i+(xs.length-(i+1))))
 generalize List.take (i+(xs.length-(i+1))) _++Z=R at*
 simp -implicitDefEqProofs [k1,k2]
theorem cloNSeat_spec (A:Option Addr) (c:Nat):FSpec Tryz.prog 285 [.im (.sc (.slice A 0 c))] [] (.row 0) [.row 228 4 []]:=by
 refine FSpec.of_o (q:=[]) Tryz.func285 (by kernel_rfl) rfl Tryz.ntmps285 Tryz.results285 hP (by kernel_rfl) (by simp) (by first|rfl|simp) ?_
 cases A with
 |none=>
  cases c with
  |zero=>
   simp -implicitDefEqProofs
   refine⟨[.sl 2 228 4],[],[0],.row 0,by simp[St.nils],by simp[St.nils]⟩
  |succ c=>
   simp -implicitDefEqProofs
   refine⟨[.sl 2 228 4],[],[0],.row 0,by simp[St.nils],by simp[St.nils]⟩
 |some ad=>
  simp -implicitDefEqProofs
  refine EndO.ret [] [1] (.row 1) (by simp) (by simp)
theorem cloSeat_spec (xs:List (List IV)) (hl:xs.length≤4096):FSpec Tryz.prog 285 [.im (.sl 4 xs)] [] (.row 0) [.row 228 4 xs]:=by
 cases xs with
 |nil=>exact FSpec.nilArg cloNSeat_spec
 |cons x xs=>
  refine FSpec.of_o (q:=[]) Tryz.func285 (by kernel_rfl) rfl Tryz.ntmps285 Tryz.results285 hP (by kernel_rfl) (by simp) (by first|rfl|simp) ?_
  simp -implicitDefEqProofs
  simp at hl
  refine⟨⟨by omega,by unfold maxLen;omega⟩,?_⟩
  refine EndO.ret [] [1] (.row 1) (by simp) (by simp)
theorem cloNRouter_spec (A:Option Addr) (c:Nat):FSpec Tryz.prog 286 [.im (.sc (.slice A 0 c))] [] (.row 0) [.row 100 4 []]:=by
 refine FSpec.of_o (q:=[]) Tryz.func286 (by kernel_rfl) rfl Tryz.ntmps286 Tryz.results286 hP (by kernel_rfl) (by simp) (by first|rfl|simp) ?_
 cases A with
 |none=>
  cases c with
  |zero=>
   simp -implicitDefEqProofs
   refine⟨[.sl 2 100 4],[],[0],.row 0,by simp[St.nils],by simp[St.nils]⟩
  |succ c=>
   simp -implicitDefEqProofs
   refine⟨[.sl 2 100 4],[],[0],.row 0,by simp[St.nils],by simp[St.nils]⟩
 |some ad=>
  simp -implicitDefEqProofs
  refine EndO.ret [] [1] (.row 1) (by simp) (by simp)
theorem cloRouter_spec (xs:List (List IV)) (hl:xs.length≤4096):FSpec Tryz.prog 286 [.im (.sl 4 xs)] [] (.row 0) [.row 100 4 xs]:=by
 cases xs with
 |nil=>exact FSpec.nilArg cloNRouter_spec
 |cons x xs=>
  refine FSpec.of_o (q:=[]) Tryz.func286 (by kernel_rfl) rfl Tryz.ntmps286 Tryz.results286 hP (by kernel_rfl) (by simp) (by first|rfl|simp) ?_
  simp -implicitDefEqProofs
  simp at hl
  refine⟨⟨by omega,by unfold maxLen;omega⟩,?_⟩
  refine EndO.ret [] [1] (.row 1) (by simp) (by simp)
theorem cloNRoute_spec (A:Option Addr) (c:Nat):FSpec Tryz.prog 353 [.im (.sc (.slice A 0 c))] [] (.row 0) [.row 287 6 []]:=by
 refine FSpec.of_o (q:=[]) Tryz.func353 (by kernel_rfl) rfl Tryz.ntmps353 Tryz.results353 hP (by kernel_rfl) (by simp) (by first|rfl|simp) ?_
 cases A with
 |none=>
  cases c with
  |zero=>
   simp -implicitDefEqProofs
   refine⟨[.sl 2 287 6],[],[0],.row 0,by simp[St.nils],by simp[St.nils]⟩
  |succ c=>
   simp -implicitDefEqProofs
   refine⟨[.sl 2 287 6],[],[0],.row 0,by simp[St.nils],by simp[St.nils]⟩
 |some ad=>
  simp -implicitDefEqProofs
  refine EndO.ret [] [1] (.row 1) (by simp) (by simp)
theorem cloRoute_spec (xs:List (List IV)) (hl:xs.length≤4096):FSpec Tryz.prog 353 [.im (.sl 6 xs)] [] (.row 0) [.row 287 6 xs]:=by
 cases xs with
 |nil=>exact FSpec.nilArg cloNRoute_spec
 |cons x xs=>
  refine FSpec.of_o (q:=[]) Tryz.func353 (by kernel_rfl) rfl Tryz.ntmps353 Tryz.results353 hP (by kernel_rfl) (by simp) (by first|rfl|simp) ?_
  simp -implicitDefEqProofs
  simp at hl
  refine⟨⟨by omega,by unfold maxLen;omega⟩,?_⟩
  refine EndO.ret [] [1] (.row 1) (by simp) (by simp)
theorem cloNLink_spec (A:Option Addr) (c:Nat):FSpec Tryz.prog 354 [.im (.sc (.slice A 0 c))] [] (.row 0) [.row 325 2 []]:=by
 refine FSpec.of_o (q:=[]) Tryz.func354 (by kernel_rfl) rfl Tryz.ntmps354 Tryz.results354 hP (by kernel_rfl) (by simp) (by first|rfl|simp) ?_
 cases A with
 |none=>
  cases c with
  |zero=>
   simp -implicitDefEqProofs
   refine⟨[.sl 2 325 2],[],[0],.row 0,by simp[St.nils],by simp[St.nils]⟩
  |succ c=>
   simp -implicitDefEqProofs
   refine⟨[.sl 2 325 2],[],[0],.row 0,by simp[St.nils],by simp[St.nils]⟩
 |some ad=>
  simp -implicitDefEqProofs
  refine EndO.ret [] [1] (.row 1) (by simp) (by simp)
theorem cloLink_spec (xs:List (List IV)) (hl:xs.length≤4096):FSpec Tryz.prog 354 [.im (.sl 2 xs)] [] (.row 0) [.row 325 2 xs]:=by
 cases xs with
 |nil=>exact FSpec.nilArg cloNLink_spec
 |cons x xs=>
  refine FSpec.of_o (q:=[]) Tryz.func354 (by kernel_rfl) rfl Tryz.ntmps354 Tryz.results354 hP (by kernel_rfl) (by simp) (by first|rfl|simp) ?_
  simp -implicitDefEqProofs
  simp at hl
  refine⟨⟨by omega,by unfold maxLen;omega⟩,?_⟩
  refine EndO.ret [] [1] (.row 1) (by simp) (by simp)
theorem cloNEvent_spec (A:Option Addr) (c:Nat):FSpec Tryz.prog 223 [.im (.sc (.slice A 0 c))] [] (.row 0) [.row 79 12 []]:=by
 refine FSpec.of_o (q:=[]) Tryz.func223 (by kernel_rfl) rfl Tryz.ntmps223 Tryz.results223 hP (by kernel_rfl) (by simp) (by first|rfl|simp) ?_
 cases A with
 |none=>
  cases c with
  |zero=>
   simp -implicitDefEqProofs
   refine⟨[.sl 2 79 12],[],[0],.row 0,by simp[St.nils],by simp[St.nils]⟩
  |succ c=>
   simp -implicitDefEqProofs
   refine⟨[.sl 2 79 12],[],[0],.row 0,by simp[St.nils],by simp[St.nils]⟩
 |some ad=>
  simp -implicitDefEqProofs
  refine EndO.ret [] [1] (.row 1) (by simp) (by simp)
theorem cloEvent_spec (xs:List (List IV)) (hl:xs.length≤4096):FSpec Tryz.prog 223 [.im (.sl 12 xs)] [] (.row 0) [.row 79 12 xs]:=by
 cases xs with
 |nil=>exact FSpec.nilArg cloNEvent_spec
 |cons x xs=>
  refine FSpec.of_o (q:=[]) Tryz.func223 (by kernel_rfl) rfl Tryz.ntmps223 Tryz.results223 hP (by kernel_rfl) (by simp) (by first|rfl|simp) ?_
  simp -implicitDefEqProofs
  simp at hl
  refine⟨⟨by omega,by unfold maxLen;omega⟩,?_⟩
  refine EndO.ret [] [1] (.row 1) (by simp) (by simp)
end Go.Am
namespace Go.Am
open Go.Proofs
def strictC {α:Type} (c:α→Int) (l:List α):Prop:=l.Pairwise fun x y=>0≤c x→0<c y
theorem strict_up {α:Type} {c:α→Int} {l:List α} (h:strictC c l) (i j:Nat) (x y:α) (hij:i≤j) (hx:l[i]? =some x) (hy:l[j]? =some y) (hc:c y<0):c x<0:=by
 rcases Nat.eq_or_lt_of_le hij with e|hlt
 ·subst e;rw[hx]at hy;cases hy;exact hc
 ·obtain⟨hi,e1⟩:=List.getElem?_eq_some_iff.1 hx
  obtain⟨hj,e2⟩:=List.getElem?_eq_some_iff.1 hy
  have:=List.pairwise_iff_getElem.1 h i j hi hj hlt
  rw[e1,e2]at this
  omega
theorem bs_lt {α:Type} {c:α→Int}:∀{l:List α},strictC c l→l.take (bsI c l)=l.filter fun x=>decide (c x<0)
 |[],_=>rfl
 |x::l,h=>by
  have h1:=List.pairwise_cons.1 h
  rw[bsI,List.filter_cons]
  by_cases hx:c x<0
  ·rw[if_pos hx,if_pos (by simpa using hx),List.take_succ_cons,bs_lt h1.2]
  ·rw[if_neg hx,if_neg (by simpa using hx),List.take_zero]
   symm
   rw[List.filter_eq_nil_iff]
   intro y hy
   have:=h1.1 y hy (by omega)
   simp;omega
theorem bs_gt {α:Type} {c:α→Int}:∀{l:List α},strictC c l→(if bsF c l then l.drop (bsI c l+1)else l.drop (bsI c l))=l.filter fun x=>decide (0<c x)
 |[],_=>by simp
 |x::l,h=>by
  have h1:=List.pairwise_cons.1 h
  have ih:=bs_gt h1.2
  rw[List.filter_cons]
  unfold bsF at*
  rw[bsI]
  by_cases hx:c x<0
  ·have h0:¬0<c x:=by omega
   simp only[if_pos hx,h0,decide_false,List.getElem?_cons_succ,List.drop_succ_cons]
   exact ih
  ·have hf:l.filter (fun x=>decide (0<c x))=l:=by
    rw[List.filter_eq_self]
    intro y hy
    have:=h1.1 y hy (by omega)
    simpa using this
   rw[hf]
   simp only[if_neg hx,List.getElem?_cons_zero,Option.map_some,Option.getD_some,List.drop_zero,Nat.zero_add,List.drop_succ_cons,decide_eq_true_eq]
   by_cases h2:c x=0
   ·have h3:¬0<c x:=by omega
    rw[if_pos h2,if_neg h3]
   ·have h3:0<c x:=by omega
    rw[if_neg h2,if_pos h3]
theorem bsF_ltn {α:Type} {c:α→Int} {l:List α} (h:bsF c l=true):bsI c l<l.length:=by
 unfold bsF at h
 cases hg:l[bsI c l]? with
 |none=>rw[hg]at h;cases h
 |some x=>exact(List.getElem?_eq_some_iff.1 hg).1
theorem bs_set {α:Type} {c:α→Int} {l:List α} (hs:strictC c l) (s:α) (h:bsF c l=true):l.set (bsI c l) s=l.filter (fun x=>decide (c x<0))++[s]++l.filter fun x=>decide (0<c x):=by
 have h1:=bs_lt hs
 have h2:=bs_gt hs
 rw[if_pos h]at h2
 rw[List.set_eq_take_append_cons_drop,if_pos (bsF_ltn h),h1,h2]
 simp
theorem bs_ins {α:Type} {c:α→Int} {l:List α} (hs:strictC c l) (s:α) (h:bsF c l=false):l.take (bsI c l)++s::l.drop (bsI c l)=l.filter (fun x=>decide (c x<0))++[s]++l.filter fun x=>decide (0<c x):=by
 have h1:=bs_lt hs
 have h2:=bs_gt hs
 rw[if_neg (by simp[h])]at h2
 rw[h1,h2]
 simp
theorem bs_del {α:Type} {c:α→Int} {l:List α} (hs:strictC c l) (h:bsF c l=true):l.take (bsI c l)++l.drop (bsI c l+1)=l.filter (fun x=>decide (c x<0))++l.filter fun x=>decide (0<c x):=by
 have h1:=bs_lt hs
 have h2:=bs_gt hs
 rw[if_pos h]at h2
 rw[h1,h2]
theorem bs_none {α:Type} {c:α→Int} {l:List α} (hs:strictC c l) (h:bsF c l=false):l=l.filter (fun x=>decide (c x<0))++l.filter fun x=>decide (0<c x):=by
 have h1:=bs_lt hs
 have h2:=bs_gt hs
 rw[if_neg (by simp[h])]at h2
 rw[←h1,←h2,List.take_append_drop]
theorem bs_mem {α:Type} {c:α→Int}:∀{l:List α},strictC c l→(bsF c l=true↔∃x∈l,c x=0)
 |[],_=>by simp[bsF]
 |x::l,h=>by
  have h1:=List.pairwise_cons.1 h
  have ih:=bs_mem h1.2
  unfold bsF at*
  rw[bsI]
  by_cases hx:c x<0
  ·simp only[if_pos hx,List.getElem?_cons_succ,List.mem_cons]
   rw[ih]
   constructor
   ·rintro⟨y,hy,h0⟩;exact⟨y,.inr hy,h0⟩
   ·rintro⟨y,rfl|hy,h0⟩
    ·omega
    ·exact⟨y,hy,h0⟩
  ·simp only[if_neg hx,List.getElem?_cons_zero,Option.map_some,Option.getD_some,decide_eq_true_eq,List.mem_cons]
   constructor
   ·intro h0;exact⟨x,.inl rfl,h0⟩
   ·rintro⟨y,rfl|hy,h0⟩
    ·exact h0
    ·have:=h1.1 y hy (by omega)
     omega
theorem CallQG.off {P:Program} {f:FuncId} {args:List AV} {d:Option Nat} {k:St→Prop} {st:St} (v:Value) (hk:k (st.put d (.cond false (.im (.sc v))))):CallQG P false f args d k st:=⟨[],v,fun h=>(by cases h),rfl,hk⟩
def cmpS (n:Int) (x:Seat):Int:=cmpI x.router n
theorem cmpS_spec (x:Seat) (n:Int):FSpec Tryz.prog 405 [x.av,.int .i64 n] [] (.int .i64 (cmpS n x)) []:=by
 refine FSpec.of_flat (q:=[]) Tryz.func405 (by kernel_rfl) rfl Tryz.ntmps405 Tryz.results405 hP (by kernel_rfl) (by simp) (by first|rfl|simp) ?_
 simp
 first|refine CallK.same (cmpI_spec x.router n) rfl rfl ?_|refine CallQ.same (cmpI_spec x.router n) rfl rfl ?_|refine CallQG.same _ (cmpI_spec x.router n) rfl ?_|refine CallG.same _ (cmpI_spec x.router n) rfl ?_|refine CallK.pv (cmpI_spec x.router n) rfl rfl ?_
 simp[cmpS]
def cmpQ (p:Pfx) (x:Route):Int:=cmpP x.pfx p
theorem cmpQ_spec (x:Route) (p:Pfx):FSpec Tryz.prog 422 [x.av,p.av] [] (.int .i64 (cmpQ p x)) []:=by
 refine FSpec.of_flat (q:=[]) Tryz.func422 (by kernel_rfl) rfl Tryz.ntmps422 Tryz.results422 hP (by kernel_rfl) (by simp) (by first|rfl|simp) ?_
 simp
 first|refine CallK.same (cmpP_spec x.pfx p) rfl rfl ?_|refine CallQ.same (cmpP_spec x.pfx p) rfl rfl ?_|refine CallQG.same _ (cmpP_spec x.pfx p) rfl ?_|refine CallG.same _ (cmpP_spec x.pfx p) rfl ?_|refine CallK.pv (cmpP_spec x.pfx p) rfl rfl ?_
 simp[cmpQ]
theorem bsS_spec (l:List Seat) (n:Int) (hst:strictC (cmpS n) l):
  FSpec Tryz.prog 404 [.im (.sl 4 (l.map Seat.iv)),.int .i64 n,.fn 405 []] [] (.tup [.int .i64 (bsI (cmpS n) l),.bool (bsF (cmpS n) l)]) []:=by
 have hs:=fun(i j:Nat) (x y:Seat)=>@strict_up Seat (cmpS n) l hst i j x y
 refine FSpec.bd (enters_of Tryz.func404 (by kernel_rfl) rfl) fun hbd=>?_
 have hl:l.length≤9223372036854775807:=by simp[maxLen]at hbd;omega
 refine FSpec.of_flat (q:=[]) Tryz.func404 (by kernel_rfl) rfl Tryz.ntmps404 Tryz.results404 hP (by kernel_rfl) (by simp) (by first|rfl|simp) ?_
 simp
 refine LoopK.plain (fun g:Nat×Nat=>[(0,.im (.sl 4 (l.map Seat.iv))),(1,.int .i64 n),(2,.fn 405 []),(8,.int .i64 l.length),(9,.int .i64 g.1),(10,.int .i64 g.2)])
  (fun g=>g.1≤g.2∧g.2≤l.length∧(∀i x,i<g.1→l[i]? =some x→cmpS n x<0)∧(∀i x,g.2≤i→l[i]? =some x→0≤cmpS n x)) (fun g=>g.2-g.1) (0,l.length) ?_ ?_ ?_
 ·exact⟨Nat.zero_le _,Nat.le_refl _,fun i x hi=>by omega,fun i x hi hx=>by rw[List.getElem?_eq_none hi]at hx;cases hx⟩
 ·simp
 rintro⟨lo,hi⟩ ⟨h1,h2,h3,h4⟩
 simp only at h1 h2 h3 h4
 by_cases hlt:lo<hi
 ·have hm:=half_eq lo hi (by omega) (by omega)
  have hml:(lo+hi) / 2<l.length:=by omega
  obtain⟨m,hmm⟩:∃m,m=(lo+hi) / 2:=⟨_,rfl⟩
  rw[←hmm]at hm hml
  have hg:=List.getElem?_eq_getElem hml
  have hw1:IntKind.i64.wrap (m+1)=(m+1:Nat):=wrap64 (by omega) (by omega)
  simp[hlt,hm,hml,hg]
  generalize l[m]=x at*
  first|refine CallK.same (cmpS_spec x n) rfl rfl ?_|refine CallQ.same (cmpS_spec x n) rfl rfl ?_|refine CallQG.same _ (cmpS_spec x n) rfl ?_|refine CallG.same _ (cmpS_spec x n) rfl ?_|refine CallK.pv (cmpS_spec x n) rfl rfl ?_
  simp[hw1]
  refine⟨fun hc=>?_,fun hc=>?_⟩
  ·refine Again.plain (m+1,hi) ⟨by omega,h2,fun i y hi' hy=>?_,h4⟩ (by simp only;omega) (by simp)
   exact hs i m y x (by omega) hy hg hc
  ·refine Again.plain (lo,m) ⟨by omega,by omega,h3,fun i y hi' hy=>?_⟩ (by simp only;omega) (by simp)
   apply Classical.byContradiction
   intro hc'
   have:=hs m i x y hi' hg hy (by omega)
   omega
 ·have:lo=hi:=by omega
  subst this
  have hb:=bsI_eq (cmpS n) l lo h2 h3 (fun i x h5 h6=>by have:=h4 i x h5 h6;omega)
  by_cases hll:lo<l.length
  ·have hg:=List.getElem?_eq_getElem hll
   simp[hll]
   generalize l[lo]=x at*
   first|refine CallK.same (cmpS_spec x n) rfl rfl ?_|refine CallQ.same (cmpS_spec x n) rfl rfl ?_|refine CallQG.same _ (cmpS_spec x n) rfl ?_|refine CallG.same _ (cmpS_spec x n) rfl ?_|refine CallK.pv (cmpS_spec x n) rfl rfl ?_
   simp[bsF,hb,hg]
   rfl
  ·simp[hll,List.getElem?_eq_none (show l.length≤lo by omega)]
   refine CallG.off (.int .i64 0) ?_
   simp[bsF,hb,List.getElem?_eq_none (show l.length≤lo by omega)]
theorem bsR_spec (l:List Route) (n:Pfx) (hst:strictC (cmpQ n) l):
  FSpec Tryz.prog 421 [.im (.sl 6 (l.map Route.iv)),n.av,.fn 422 []] [] (.tup [.int .i64 (bsI (cmpQ n) l),.bool (bsF (cmpQ n) l)]) []:=by
 have hs:=fun(i j:Nat) (x y:Route)=>@strict_up Route (cmpQ n) l hst i j x y
 refine FSpec.bd (enters_of Tryz.func421 (by kernel_rfl) rfl) fun hbd=>?_
 have hl:l.length≤9223372036854775807:=by simp[maxLen]at hbd;omega
 refine FSpec.of_flat (q:=[(5,.n 6),(8,.n 15)]) Tryz.func421 (by kernel_rfl) rfl Tryz.ntmps421 Tryz.results421 hP (by kernel_rfl) (by simp) (by first|rfl|simp) ?_
 simp
 refine LoopK.os (fun g:Nat×Nat=>[(0,.im (.sl 6 (l.map Route.iv))),(2,.fn 422 []),(4,.ptr 0 0),(8,.int .i64 l.length),(9,.int .i64 g.1),(10,.int .i64 g.2)])
  (fun _=>[.box 74 [.bool n.six,.int .u64 n.addr.hi,.int .u64 n.addr.lo,.int .i64 n.len]])
  (fun g=>g.1≤g.2∧g.2≤l.length∧(∀i x,i<g.1→l[i]? =some x→cmpQ n x<0)∧(∀i x,g.2≤i→l[i]? =some x→0≤cmpQ n x)) (fun g=>g.2-g.1) (0,l.length) [0] ?_ ?_ ?_
 ·exact⟨Nat.zero_le _,Nat.le_refl _,fun i x hi=>by omega,fun i x hi hx=>by rw[List.getElem?_eq_none hi]at hx;cases hx⟩
 ·simp
 rintro⟨lo,hi⟩ ⟨h1,h2,h3,h4⟩
 simp only at h1 h2 h3 h4
 by_cases hlt:lo<hi
 ·have hm:=half_eq lo hi (by omega) (by omega)
  have hml:(lo+hi) / 2<l.length:=by omega
  obtain⟨m,hmm⟩:∃m,m=(lo+hi) / 2:=⟨_,rfl⟩
  rw[←hmm]at hm hml
  have hg:=List.getElem?_eq_getElem hml
  have hw1:IntKind.i64.wrap (m+1)=(m+1:Nat):=wrap64 (by omega) (by omega)
  simp[hlt,hm,hml,hg]
  generalize l[m]=x at*
  first|refine CallK.same (cmpQ_spec x n) rfl rfl ?_|refine CallQ.same (cmpQ_spec x n) rfl rfl ?_|refine CallQG.same _ (cmpQ_spec x n) rfl ?_|refine CallG.same _ (cmpQ_spec x n) rfl ?_|refine CallK.pv (cmpQ_spec x n) rfl rfl ?_
  simp[hw1]
  refine⟨fun hc=>?_,fun hc=>?_⟩
  ·refine Again.os (m+1,hi) [0] ⟨by omega,h2,fun i y hi' hy=>?_,h4⟩ (by simp only;omega) (by simp)
   exact hs i m y x (by omega) hy hg hc
  ·refine Again.os (lo,m) [0] ⟨by omega,by omega,h3,fun i y hi' hy=>?_⟩ (by simp only;omega) (by simp)
   apply Classical.byContradiction
   intro hc'
   have:=hs m i x y hi' hg hy (by omega)
   omega
 ·have:lo=hi:=by omega
  subst this
  have hb:=bsI_eq (cmpQ n) l lo h2 h3 (fun i x h5 h6=>by have:=h4 i x h5 h6;omega)
  by_cases hll:lo<l.length
  ·have hg:=List.getElem?_eq_getElem hll
   simp[hll]
   generalize l[lo]=x at*
   first|refine CallK.same (cmpQ_spec x n) rfl rfl ?_|refine CallQ.same (cmpQ_spec x n) rfl rfl ?_|refine CallQG.same _ (cmpQ_spec x n) rfl ?_|refine CallG.same _ (cmpQ_spec x n) rfl ?_|refine CallK.pv (cmpQ_spec x n) rfl rfl ?_
   simp[bsF,hb,hg]
   rfl
  ·simp[hll,List.getElem?_eq_none (show l.length≤lo by omega)]
   refine CallQG.off (.int .i64 0) ?_
   simp[bsF,hb,List.getElem?_eq_none (show l.length≤lo by omega)]
end Go.Am
namespace Go.Am
open Go.Proofs
theorem mod_set {α:Type} (f:α→List IV) (l:List α) (s:α) (i:Nat) (g:List IV→List IV) (hg:∀x,g (f x)=f s):(l.map f).modify i g=(l.set i s).map f:=by
 apply List.ext_getElem?
 intro j
 rw[List.getElem?_modify,List.getElem?_map,List.getElem?_map,List.getElem?_set]
 by_cases h:i=j
 ·subst h
  cases hx:l[i]? with
  |none=>simp[List.getElem?_eq_none_iff.1 hx]
  |some x=>simp[(List.getElem?_eq_some_iff.1 hx).1,hg]
 ·simp[h]
theorem cmpS_lt (n:Int) (x:Seat):cmpS n x<0↔x.router<n:=by
 unfold cmpS cmpI
 repeat' split
 all_goals omega
theorem cmpS_gt (n:Int) (x:Seat):0<cmpS n x↔n<x.router:=by
 unfold cmpS cmpI
 repeat' split
 all_goals omega
theorem strictS {l:List Seat} (h:checkS l=0) (n:Int):strictC (cmpS n) l:=by
 unfold checkS at h
 split at h
 ·cases h
 ·refine(checkSL_sorted h).2.imp fun{x y} hxy h0=>?_
  rw[cmpS_gt]
  have:=cmpS_lt n x
  omega
theorem putSeat_cmp (l:List Seat) (e:Ev):putSeat l (seatOf e)=l.filter (fun x=>decide (cmpS e.router x<0))++[seatOf e]++l.filter (fun x=>decide (0<cmpS e.router x)):=by
 unfold putSeat
 simp only[cmpS_lt,cmpS_gt,seatOf]
 congr
theorem seatOf_iv (e:Ev):(seatOf e).iv=[.sc (.int .i64 e.router),.sc (.int .u64 e.seq),.sc (.int .i64 e.time),.sc (.bool (e.kind != 2))]:=rfl
set_option maxRecDepth 8000 in
set_option maxHeartbeats 1000000 in
theorem takeS_spec (l:List Seat) (e:Ev) (h:checkS l=0) (hf:bsF (cmpS e.router) l=true):
  FSpec Tryz.prog 361 [.row 0,e.av] [.row 228 4 (l.map Seat.iv)] (.row 0) [.row 228 4 ((putSeat l (seatOf e)).map Seat.iv)]:=by
 have hb:=bsS_spec l e.router (strictS h _)
 have hlt:=bsF_ltn hf
 have hset:=bs_set (strictS h e.router) (seatOf e) hf
 rw[←putSeat_cmp]at hset
 rw[hf]at hb
 generalize bsI (cmpS e.router) l=i at*
 refine FSpec.of_o (q:=[]) Tryz.func361 (by kernel_rfl) rfl Tryz.ntmps361 Tryz.results361 hP (by kernel_rfl) (by simp) (by first|rfl|simp) ?_
 simp -implicitDefEqProofs
 refine CallK.fz [0] hb rfl (by simp) rfl ?_
 simp -implicitDefEqProofs [hlt]
 refine EndO.ret [] [0] (.row 0) (by simp) ?_
 rw[←hset,←mod_set Seat.iv l (seatOf e) i (fun x=>[.sc (.int .i64 e.router),.sc (.int .u64 e.seq),.sc (.int .i64 e.time),.sc (.bool (e.kind != 2))]++x.drop 4) (fun x=>by simp[seatOf])]
 simp -implicitDefEqProofs
set_option maxRecDepth 8000 in
set_option maxHeartbeats 1000000 in
theorem takeN_spec (l:List Seat) (e:Ev) (h:checkS l=0) (hf:bsF (cmpS e.router) l=false):
  FSpec Tryz.prog 361 [.row 0,e.av] [.row 228 4 (l.map Seat.iv)] (.row 1) [.gone,.row 228 4 ((putSeat l (seatOf e)).map Seat.iv)]:=by
 have hb:=bsS_spec l e.router (strictS h _)
 have hlt:=bsI_le (cmpS e.router) l
 have hset:=bs_ins (strictS h e.router) (seatOf e) hf
 have hlen:=checkS_len h
 rw[←putSeat_cmp]at hset
 rw[hf]at hb
 generalize bsI (cmpS e.router) l=i at*
 have hi:=insSeat_spec (l.map Seat.iv) (seatOf e).iv i (by simpa using hlt) (by simp;omega)
 have hset':(putSeat l (seatOf e)).map Seat.iv=(l.map Seat.iv).take i++(seatOf e).iv::(l.map Seat.iv).drop i:=by
  rw[←hset,List.map_append,List.map_cons,List.map_take,List.map_drop]
 rw[←hset']at hi
 rw[seatOf_iv]at hi
 refine FSpec.of_o (q:=[]) Tryz.func361 (by kernel_rfl) rfl Tryz.ntmps361 Tryz.results361 hP (by kernel_rfl) (by simp) (by first|rfl|simp) ?_
 simp -implicitDefEqProofs
 refine CallK.fz [0] hb rfl (by simp) rfl ?_
 simp -implicitDefEqProofs
 refine CallO.mk [] [0,3] hi (by simp) rfl (by simp) (by simp) (by simp) ?_
 simp -implicitDefEqProofs
 refine EndO.ret [] [0,4] (.row 4) (by simp) ?_
 simp -implicitDefEqProofs
set_option maxRecDepth 8000 in
set_option maxHeartbeats 1000000 in
theorem nextO_spec (l : List Seat) (e : Ev) (hz : Int) (hsq : 0 ≤ e.seq) :
    FSpec Tryz.prog 291 [.im (.sl 4 (l.map Seat.iv)), e.av, .int .i64 hz] [] (.tup [.im (.sl 4 ((nextS l e hz).1.map Seat.iv)), .int .i64 (nextS l e hz).2]) [] := by
  have ha := asked_spec l e hz hsq
  refine FSpec.of_z (q := []) Tryz.func291 (by kernel_rfl) rfl Tryz.ntmps291 Tryz.results291 hP (by kernel_rfl) (by simp) (by first | rfl | simp) ?_
  simp -implicitDefEqProofs
  first | refine CallK.same (ha) rfl rfl ?_ | refine CallQ.same (ha) rfl rfl ?_ | refine CallQG.same _ (ha) rfl ?_ | refine CallG.same _ (ha) rfl ?_ | refine CallK.pv (ha) rfl rfl ?_
  simp -implicitDefEqProofs
  by_cases A : ¬ checkS l = 0 ∨ evOk e = false
  · have hm : mayS l e hz = 2 := by unfold mayS; rw [if_pos A]
    simp -implicitDefEqProofs [A]
    refine EndZ.ret [] (.tup [.im (.sc (.slice none 0 0)), .int .i64 2]) (by simp) ?_
    simp -implicitDefEqProofs [nextS, hm]
  by_cases B : hz < -1 ∨ 1099511627776 < hz
  · have hm : mayS l e hz = 1 := by unfold mayS; rw [if_neg A, if_pos B]
    simp -implicitDefEqProofs [A, B]
    refine EndZ.ret [] (.tup [.im (.sc (.slice none 0 0)), .int .i64 1]) (by simp) ?_
    simp -implicitDefEqProofs [nextS, hm]
  have A1 : checkS l = 0 := by apply Classical.byContradiction; intro h; exact A (.inl h)
  have A2 : evOk e = true := by cases h : evOk e with | true => rfl | false => exact absurd (.inr h) A
  have hm : mayS l e hz = mayT l e hz := mayS_T A1 A2 (by omega) (by omega)
  have hc := cloSeat_spec (l.map Seat.iv) (by have := checkS_len A1; simp; omega)
  have hfit := fits_spec l e hz A1 A2
  have hx : nextS l e hz = if mayS l e hz = 2 ∨ mayS l e hz = 1 then ([], mayS l e hz) else if ¬ mayS l e hz = 0 then (l, mayS l e hz) else (putSeat l (seatOf e), 0) := rfl
  have h12 : ¬ (mayT l e hz = 2 ∨ mayT l e hz = 1) := by unfold mayT; repeat' split
                                                         all_goals omega
  rw [hm, if_neg h12] at hx
  generalize nextS l e hz = NX at *
  generalize mayT l e hz = M at *
  simp -implicitDefEqProofs [A, B]
  refine CallK.outs [] hc rfl (by simp) (by simp [AV.flat]) ?_
  simp -implicitDefEqProofs
  first | refine CallK.same (hfit) rfl rfl ?_ | refine CallQ.same (hfit) rfl rfl ?_ | refine CallQG.same _ (hfit) rfl ?_ | refine CallG.same _ (hfit) rfl ?_ | refine CallK.pv (hfit) rfl rfl ?_
  simp -implicitDefEqProofs
  refine ⟨fun h => ?_, fun h => ?_⟩
  · subst h
    simp at hx
    subst hx
    cases hf : bsF (cmpS e.router) l with
    | true =>
      refine CallO.mk [] [1] (takeS_spec l e A1 hf) (by simp) rfl (by simp) (by simp) (by simp) ?_
      simp -implicitDefEqProofs
      refine EndZ.ret [1] (.tup [.row 1, .int .i64 0]) (by simp) ?_
      simp -implicitDefEqProofs
    | false =>
      refine CallO.mk [] [1] (takeN_spec l e A1 hf) (by simp) rfl (by simp) (by simp) (by simp) ?_
      simp -implicitDefEqProofs
      refine EndZ.ret [2] (.tup [.row 2, .int .i64 0]) (by simp) ?_
      simp -implicitDefEqProofs
  · rw [if_pos h] at hx
    subst hx
    refine EndZ.ret [1] (.tup [.row 1, .int .i64 M]) (by simp) ?_
    simp -implicitDefEqProofs
end Go.Am
namespace Go.Am
open Go.Proofs
theorem cmpL_pos (n:Int) (x:Link):0<cmpL n x↔n<x.iface:=by
 unfold cmpL cmpI
 repeat' split
 all_goals omega
theorem strictL {l:List Link} (h:checkL l=0) (n:Int):strictC (cmpL n) l:=by
 refine(checkL_sorted h).imp fun{x y} hxy h0=>?_
 rw[cmpL_pos]
 have:=cmpL_neg n x
 omega
theorem ltL_cmp (i:Int) (l:List Link):ltL i l=l.filter fun x=>decide (cmpL i x<0):=by
 unfold ltL
 simp only[cmpL_neg]
theorem gtL_cmp (i:Int) (l:List Link):gtL i l=l.filter fun x=>decide (0<cmpL i x):=by
 unfold gtL
 simp only[cmpL_pos]
theorem eqL_bs {l:List Link} (h:checkL l=0) (i:Int):eqL i l=[]↔bsF (cmpL i) l=false:=by
 have hm:=bs_mem (strictL h i)
 unfold eqL
 rw[List.filter_eq_nil_iff]
 constructor
 ·intro h1
  cases hf:bsF (cmpL i) l with
  |false=>rfl
  |true=>
   obtain⟨x,hx,h0⟩:=hm.1 hf
   have:=h1 x hx
   rw[cmpL_zero]at h0
   simp[h0]at this
 ·intro h1 x hx
  have:¬∃x∈l,cmpL i x=0:=fun h2=>by rw[hm.2 h2]at h1;cases h1
  simp only[decide_eq_true_eq]
  intro h2
  exact this ⟨x,hx,(cmpL_zero i x).2 h2⟩
theorem checkLL_02:∀(l:List Link) (a:Int),checkLL l a=0∨checkLL l a=2
 |[],_=>.inl rfl
 |s::t,a=>by
  rw[checkLL]
  split
  ·exact .inr rfl
  ·exact checkLL_02 t _
theorem checkL_32 {l:List Link} (h:checkL l=0):l.length≤32:=by
 unfold checkL at h
 split at h
 ·cases h
 ·omega
set_option maxRecDepth 8000 in
set_option maxHeartbeats 2000000 in
theorem putLo_spec (l:List Link) (x:Link):
  FSpec Tryz.prog 401 [.im (.sl 2 (l.map Link.iv)),x.av] [] (.tup [.im (.sl 2 ((putLk l x).1.map Link.iv)),.int .i64 (putLk l x).2]) []:=by
 have hc:=checkL_spec l
 have ho:=rightL_spec x
 refine FSpec.of_z (q:=[]) Tryz.func401 (by kernel_rfl) rfl Tryz.ntmps401 Tryz.results401 hP (by kernel_rfl) (by simp) (by first|rfl|simp) ?_
 simp -implicitDefEqProofs
 first|refine CallK.same (hc) rfl rfl ?_|refine CallQ.same (hc) rfl rfl ?_|refine CallQG.same _ (hc) rfl ?_|refine CallG.same _ (hc) rfl ?_|refine CallK.pv (hc) rfl rfl ?_
 simp -implicitDefEqProofs
 first|refine CallK.same (ho) rfl rfl ?_|refine CallQ.same (ho) rfl rfl ?_|refine CallQG.same _ (ho) rfl ?_|refine CallG.same _ (ho) rfl ?_|refine CallK.pv (ho) rfl rfl ?_
 simp -implicitDefEqProofs
 refine⟨fun h=>?_,fun a1 a2=>?_⟩
 ·refine EndZ.ret [] (.tup [.im (.sc (.slice none 0 0)),.int .i64 2]) (by simp) ?_
  simp[putLk,h]
 have hlen:=checkL_32 a1
 have hcl:=cloLink_spec (l.map Link.iv) (by simp;omega)
 have hf:=findL_spec l x.iface (fun i j x y=>strict_up (strictL a1 _) i j x y)
 have hP:putLk l x=if bsF (cmpL x.iface) l=false∧l.length=32 then(l,8)else(l.filter (fun y=>decide (cmpL x.iface y<0))++[x]++l.filter (fun y=>decide (0<cmpL x.iface y)),0):=by
  unfold putLk
  rw[if_neg (by simp[a1,a2]),ltL_cmp,gtL_cmp]
  simp only[eqL_bs a1]
 have hs1:=bs_set (strictL a1 x.iface) x
 have hs2:=bs_ins (strictL a1 x.iface) x
 have hlt1:=fun hh=>bsF_ltn (c:=cmpL x.iface) (l:=l) hh
 have hle:=bsI_le (cmpL x.iface) l
 generalize putLk l x=RES at*
 generalize bsI (cmpL x.iface) l=i at*
 have hi:=insLink_spec (l.map Link.iv) x.iv i (by simpa using hle) (by simp;omega)
 refine CallK.outs [] hcl rfl (by simp) (by simp[AV.flat]) ?_
 simp -implicitDefEqProofs
 refine CallK.fz [1] hf rfl (by simp) rfl ?_
 simp -implicitDefEqProofs
 cases hfb:bsF (cmpL x.iface) l with
 |true=>
  have hlt:=hlt1 hfb
  have hset:=hs1 hfb
  have hmod:=mod_set Link.iv l x i (fun y=>[.sc (.int .i64 x.iface),.sc (.int .i64 x.peer)]++y.drop 2) (fun y=>by simp)
  obtain⟨Y,hY⟩:∃Y,l.set i x=Y:=⟨_,rfl⟩
  rw[if_neg (by simp[hfb]),←hset,hY]at hP
  rw[hY]at hmod
  subst hP
  simp -implicitDefEqProofs [hlt]
  refine EndZ.ret [1] (.tup [.row 1,.int .i64 0]) (by simp) ?_
  rw[←hmod]
  simp -implicitDefEqProofs
 |false=>
  have hset:=hs2 hfb
  simp -implicitDefEqProofs
  refine⟨fun h32=>?_,fun h32=>?_⟩
  ·rw[if_pos ⟨hfb,by omega⟩]at hP
   subst hP
   refine EndZ.ret [1] (.tup [.row 1,.int .i64 8]) (by simp) ?_
   simp -implicitDefEqProofs
  ·rw[if_neg (fun hh=>h32 (by omega)),←hset]at hP
   subst hP
   refine CallO.mk [] [1,2] hi (by simp) rfl (by simp) (by simp) (by simp) ?_
   simp -implicitDefEqProofs
   refine EndZ.ret [3] (.tup [.row 3,.int .i64 0]) (by simp) ?_
   simp -implicitDefEqProofs
set_option maxRecDepth 8000 in
set_option maxHeartbeats 2000000 in
theorem delLo_spec (l:List Link) (i:Int):
  FSpec Tryz.prog 402 [.im (.sl 2 (l.map Link.iv)),.int .i64 i] [] (.tup [.im (.sl 2 ((delLk l i).1.map Link.iv)),.int .i64 (delLk l i).2]) []:=by
 have hc:=checkL_spec l
 refine FSpec.of_z (q:=[]) Tryz.func402 (by kernel_rfl) rfl Tryz.ntmps402 Tryz.results402 hP (by kernel_rfl) (by simp) (by first|rfl|simp) ?_
 simp -implicitDefEqProofs
 first|refine CallK.same (hc) rfl rfl ?_|refine CallQ.same (hc) rfl rfl ?_|refine CallQG.same _ (hc) rfl ?_|refine CallG.same _ (hc) rfl ?_|refine CallK.pv (hc) rfl rfl ?_
 simp -implicitDefEqProofs
 have hcv:checkL l=0∨checkL l=2:=by
  unfold checkL
  split
  ·exact .inr rfl
  ·exact checkLL_02 l _
 refine⟨fun h=>?_,fun a1=>?_⟩
 ·have h2:checkL l=2:=by omega
  refine EndZ.ret [] (.tup [.im (.sc (.slice none 0 0)),.int .i64 2]) (by simp[h2]) ?_
  simp[delLk,h]
 have hlen:=checkL_32 a1
 have hcl:=cloLink_spec (l.map Link.iv) (by simp;omega)
 have hf:=findL_spec l i (fun i j x y=>strict_up (strictL a1 _) i j x y)
 have hP:delLk l i=(l.filter (fun y=>decide (cmpL i y<0))++l.filter (fun y=>decide (0<cmpL i y)),if bsF (cmpL i) l=false then 3 else 0):=by
  unfold delLk
  rw[if_neg (by simp[a1]),ltL_cmp,gtL_cmp]
  simp only[eqL_bs a1]
 have hs1:=bs_del (strictL a1 i)
 have hs2:=bs_none (strictL a1 i)
 have hlt1:=fun hh=>bsF_ltn (c:=cmpL i) (l:=l) hh
 generalize delLk l i=RES at*
 generalize bsI (cmpL i) l=j at*
 refine CallK.outs [] hcl rfl (by simp) (by simp[AV.flat]) ?_
 simp -implicitDefEqProofs
 refine CallK.fz [0] hf rfl (by simp) rfl ?_
 simp -implicitDefEqProofs
 cases hfb:bsF (cmpL i) l with
 |true=>
  have hlt:=hlt1 hfb
  have hset:=hs1 hfb
  have hd:=delLink_spec (l.map Link.iv) j (by simpa using hlt) (by simp;omega)
  have e1:IntKind.i64.wrap ((j:Int)+1)=(j+1:Nat):=wrap64 (by omega) (by omega)
  rw[←hset,if_neg (by simp[hfb])]at hP
  subst hP
  simp -implicitDefEqProofs [e1]
  refine CallO.mk [] [0] hd (by simp) rfl (by simp) (by simp) (by simp) ?_
  simp -implicitDefEqProofs
  refine EndZ.ret [1] (.tup [.row 1,.int .i64 0]) (by simp) ?_
  simp -implicitDefEqProofs
 |false=>
  rw[←hs2 hfb,if_pos hfb]at hP
  subst hP
  simp -implicitDefEqProofs
  refine EndZ.ret [0] (.tup [.row 0,.int .i64 3]) (by simp) ?_
  simp -implicitDefEqProofs
end Go.Am
namespace Go.Am
open Go.Proofs
theorem bs_ne {α:Type} {c:α→Int}:∀{l:List α},strictC c l→l.filter (fun x=>decide (¬c x=0))=l.filter (fun x=>decide (c x<0))++l.filter fun x=>decide (0<c x)
 |[],_=>rfl
 |x::l,h=>by
  have h1:=List.pairwise_cons.1 h
  have ih:=bs_ne h1.2
  simp only[List.filter_cons]
  by_cases hx:c x<0
  ·have h2:¬c x=0:=by omega
   have h3:¬0<c x:=by omega
   simp only[hx,h2,h3,decide_true,decide_false,not_false_eq_true,if_true,Bool.false_eq_true,if_false,List.cons_append,ih]
  ·have hl:l.filter (fun x=>decide (c x<0))=[]:=by
    rw[List.filter_eq_nil_iff]
    intro y hy
    have:=h1.1 y hy (by omega)
    simp;omega
   rw[hl,List.nil_append]at ih
   by_cases h0:c x=0
   ·have h3:¬0<c x:=by omega
    simp only[hx,h0,decide_false,not_true_eq_false,if_false,Bool.false_eq_true,hl,List.nil_append,ih]
    simp
   ·have h3:0<c x:=by omega
    simp only[hx,h0,h3,decide_true,decide_false,not_false_eq_true,if_true,Bool.false_eq_true,if_false,hl,List.nil_append,ih]
theorem cmpP_gt (p q:Pfx):0<cmpP p q↔cmpP q p<0:=by
 rw[cmpP_iff]
 simp only[cmpP,cmpA,orInt,cmpI]
 repeat' split
 all_goals omega
theorem cmpP_zero (p q:Pfx):cmpP p q=0↔sameP p q=true:=by
 have h1:=cmpP_iff p q
 have h2:=cmpP_gt p q
 have h3:=cmpP_iff q p
 have hk:kindP p=kindP q↔p.six=q.six:=by
  unfold kindP
  cases p.six<;>cases q.six<;>simp
 rw[sameP_iff,←hk]
 omega
theorem checkR_sorted {l:List Route} (h:checkR l=0):l.Pairwise fun r s=>cmpP r.pfx s.pfx<0:=by
 unfold checkR at h
 split at h
 ·cases h
 ·exact(checkRL_sorted h).2.2
theorem strictR {l:List Route} (h:checkR l=0) (p:Pfx):strictC (cmpQ p) l:=by
 refine(checkR_sorted h).imp fun{x y} hxy h0=>?_
 unfold cmpQ at*
 rw[cmpP_gt]
 have h1:=cmpP_iff x.pfx p
 rw[cmpP_iff]at hxy⊢
 omega
theorem woR_cmp {l:List Route} (h:checkR l=0) (p:Pfx):woR p l=l.filter (fun x=>decide (cmpQ p x<0))++l.filter fun x=>decide (0<cmpQ p x):=by
 rw[←bs_ne (strictR h p)]
 unfold woR cmpQ
 congr
 funext r
 have:=cmpP_zero r.pfx p
 cases hs:sameP r.pfx p<;>simp[hs]at this<;>simp[this]
theorem ltR_wo (l:List Route) (p:Pfx):ltR p (woR p l)=l.filter fun x=>decide (cmpQ p x<0):=by
 unfold ltR woR cmpQ
 rw[List.filter_filter]
 congr
 funext r
 have:=cmpP_zero r.pfx p
 cases hs:sameP r.pfx p<;>simp[hs]at this<;>simp[this]
theorem gtR_wo (l:List Route) (p:Pfx):gtR p (woR p l)=l.filter fun x=>decide (0<cmpQ p x):=by
 unfold gtR woR cmpQ
 rw[List.filter_filter]
 congr
 funext r
 have:=cmpP_zero r.pfx p
 have h2:=cmpP_gt r.pfx p
 cases hs:sameP r.pfx p<;>simp[hs]at this<;>simp[←h2,this]
theorem woR_256 {l:List Route} (h:checkR l=0) (p:Pfx):(woR p l).length=256↔bsF (cmpQ p) l=false∧l.length=256:=by
 have hl:=checkR_len h
 rw[woR_cmp h]
 cases hf:bsF (cmpQ p) l with
 |false=>
  rw[←bs_none (strictR h p) hf]
  simp
 |true=>
  rw[←bs_del (strictR h p) hf]
  have:=bsF_ltn hf
  simp
  omega
theorem findW_bs {l:List Route} (h:checkR l=0) (p:Pfx):(findW p l).isSome=bsF (cmpQ p) l:=by
 have hm:=bs_mem (strictR h p)
 have hw:∀l:List Route,(findW p l).isSome=true↔∃x∈l,cmpQ p x=0:=by
  intro l
  induction l with
  |nil=>simp[findW]
  |cons x l ih=>
   rw[findW]
   have:=cmpP_zero x.pfx p
   split
   ·rename_i hs
    simp only[Option.isSome_some,true_iff]
    exact⟨x,List.mem_cons_self,this.2 hs⟩
   ·rename_i hs
    rw[ih]
    constructor
    ·rintro⟨y,hy,h0⟩;exact⟨y,List.mem_cons_of_mem _ hy,h0⟩
    ·rintro⟨y,hy,h0⟩
     rcases List.mem_cons.1 hy with rfl|hy
     ·exact absurd (this.1 h0) hs
     ·exact⟨y,hy,h0⟩
 have:=(hw l).trans hm.symm
 cases h1:(findW p l).isSome<;>cases h2:bsF (cmpQ p) l<;>simp[h1,h2]at this⊢
set_option maxRecDepth 8000 in
set_option maxHeartbeats 2000000 in
theorem putRo_spec (l:List Route) (x:Route):
  FSpec Tryz.prog 398 [.im (.sl 6 (l.map Route.iv)),x.av] [] (.tup [.im (.sl 6 ((putRt l x).1.map Route.iv)),.int .i64 (putRt l x).2]) []:=by
 have hc:=checkR_spec l
 have ho:=routeOk_spec x
 refine FSpec.of_z (q:=[]) Tryz.func398 (by kernel_rfl) rfl Tryz.ntmps398 Tryz.results398 hP (by kernel_rfl) (by simp) (by first|rfl|simp) ?_
 simp -implicitDefEqProofs
 first|refine CallK.same (hc) rfl rfl ?_|refine CallQ.same (hc) rfl rfl ?_|refine CallQG.same _ (hc) rfl ?_|refine CallG.same _ (hc) rfl ?_|refine CallK.pv (hc) rfl rfl ?_
 simp -implicitDefEqProofs
 first|refine CallK.same (ho) rfl rfl ?_|refine CallQ.same (ho) rfl rfl ?_|refine CallQG.same _ (ho) rfl ?_|refine CallG.same _ (ho) rfl ?_|refine CallK.pv (ho) rfl rfl ?_
 simp -implicitDefEqProofs
 refine⟨fun h=>?_,fun a1 a2=>?_⟩
 ·refine EndZ.ret [] (.tup [.im (.sc (.slice none 0 0)),.int .i64 2]) (by simp) ?_
  simp[putRt,h]
 have hlen:=checkR_len a1
 have hcl:=cloRoute_spec (l.map Route.iv) (by simp;omega)
 have hf:=bsR_spec l x.pfx (strictR a1 _)
 have hP:putRt l x=if bsF (cmpQ x.pfx) l=false∧l.length=256 then(l,8)else(l.filter (fun y=>decide (cmpQ x.pfx y<0))++[x]++l.filter (fun y=>decide (0<cmpQ x.pfx y)),0):=by
  unfold putRt
  rw[if_neg (by simp[a1,a2]),ltR_wo,gtR_wo]
  simp only[woR_256 a1]
 have hs1:=bs_set (strictR a1 x.pfx) x
 have hs2:=bs_ins (strictR a1 x.pfx) x
 have hlt1:=fun hh=>bsF_ltn (c:=cmpQ x.pfx) (l:=l) hh
 have hle:=bsI_le (cmpQ x.pfx) l
 generalize putRt l x=RES at*
 generalize bsI (cmpQ x.pfx) l=i at*
 have hi:=insRoute_spec (l.map Route.iv) x.iv i (by simpa using hle) (by simp;omega)
 refine CallK.outs [] hcl rfl (by simp) (by simp[AV.flat]) ?_
 simp -implicitDefEqProofs
 refine CallK.fz [1] hf rfl (by simp) rfl ?_
 simp -implicitDefEqProofs
 cases hfb:bsF (cmpQ x.pfx) l with
 |true=>
  have hlt:=hlt1 hfb
  have hset:=hs1 hfb
  have hmod:=mod_set Route.iv l x i (fun y=>x.iv++y.drop 6) (fun y=>by simp)
  obtain⟨Y,hY⟩:∃Y,l.set i x=Y:=⟨_,rfl⟩
  rw[if_neg (by simp[hfb]),←hset,hY]at hP
  rw[hY]at hmod
  subst hP
  simp -implicitDefEqProofs [hlt]
  refine EndZ.ret [1] (.tup [.row 1,.int .i64 0]) (by simp) ?_
  rw[←hmod]
  simp -implicitDefEqProofs
 |false=>
  have hset:=hs2 hfb
  simp -implicitDefEqProofs
  refine⟨fun h32=>?_,fun h32=>?_⟩
  ·rw[if_pos ⟨hfb,by omega⟩]at hP
   subst hP
   refine EndZ.ret [1] (.tup [.row 1,.int .i64 8]) (by simp) ?_
   simp -implicitDefEqProofs
  ·rw[if_neg (fun hh=>h32 (by omega)),←hset]at hP
   subst hP
   refine CallO.mk [] [1,2] hi (by simp) rfl (by simp) (by simp) (by simp) ?_
   simp -implicitDefEqProofs
   refine EndZ.ret [3] (.tup [.row 3,.int .i64 0]) (by simp) ?_
   simp -implicitDefEqProofs
theorem findRo_spec (l:List Route) (p:Pfx):
  FSpec Tryz.prog 424 [.im (.sl 6 (l.map Route.iv)),p.av] [] (.tup [.int .i64 (if findRt l p=0 then bsI (cmpQ p) l else 0),.int .i64 (findRt l p)]) []:=by
 have hc:=checkR_spec l
 have ho:=checkP_spec p
 refine FSpec.of_flat (q:=[]) Tryz.func424 (by kernel_rfl) rfl Tryz.ntmps424 Tryz.results424 hP (by kernel_rfl) (by simp) (by first|rfl|simp) ?_
 simp -implicitDefEqProofs
 first|refine CallK.same (hc) rfl rfl ?_|refine CallQ.same (hc) rfl rfl ?_|refine CallQG.same _ (hc) rfl ?_|refine CallG.same _ (hc) rfl ?_|refine CallK.pv (hc) rfl rfl ?_
 simp -implicitDefEqProofs
 first|refine CallK.same (ho) rfl rfl ?_|refine CallQ.same (ho) rfl rfl ?_|refine CallQG.same _ (ho) rfl ?_|refine CallG.same _ (ho) rfl ?_|refine CallK.pv (ho) rfl rfl ?_
 simp -implicitDefEqProofs
 refine⟨fun h=>?_,fun a1 a2=>?_⟩
 ·simp[findRt,h]
 have hf:=bsR_spec l p (strictR a1 _)
 have hx:findRt l p=if bsF (cmpQ p) l then 0 else 3:=by
  unfold findRt
  rw[if_neg (by simp[a1,a2]),findW_bs a1]
 first|refine CallK.same (hf) rfl rfl ?_|refine CallQ.same (hf) rfl rfl ?_|refine CallQG.same _ (hf) rfl ?_|refine CallG.same _ (hf) rfl ?_|refine CallK.pv (hf) rfl rfl ?_
 simp -implicitDefEqProofs
 rw[hx]
 cases bsF (cmpQ p) l<;>simp
set_option maxRecDepth 8000 in
set_option maxHeartbeats 2000000 in
theorem delRo_spec (l:List Route) (p:Pfx):
  FSpec Tryz.prog 399 [.im (.sl 6 (l.map Route.iv)),p.av] [] (.tup [.im (.sl 6 ((delRt l p).1.map Route.iv)),.int .i64 (delRt l p).2]) []:=by
 have hf:=findRo_spec l p
 refine FSpec.of_z (q:=[]) Tryz.func399 (by kernel_rfl) rfl Tryz.ntmps399 Tryz.results399 hP (by kernel_rfl) (by simp) (by first|rfl|simp) ?_
 simp -implicitDefEqProofs
 first|refine CallK.same (hf) rfl rfl ?_|refine CallQ.same (hf) rfl rfl ?_|refine CallQG.same _ (hf) rfl ?_|refine CallG.same _ (hf) rfl ?_|refine CallK.pv (hf) rfl rfl ?_
 simp -implicitDefEqProofs
 by_cases h2:findRt l p=2
 ·simp -implicitDefEqProofs [h2]
  refine EndZ.ret [] (.tup [.im (.sc (.slice none 0 0)),.int .i64 2]) (by simp[h2]) ?_
  simp[delRt,h2]
 have a1:checkR l=0:=by
  apply Classical.byContradiction
  intro h
  apply h2
  unfold findRt
  rw[if_pos (.inl h)]
 have hx:findRt l p=if bsF (cmpQ p) l then 0 else 3:=by
  unfold findRt at h2⊢
  split at h2
  ·exact absurd rfl h2
  ·rename_i h3
   rw[if_neg h3,findW_bs a1]
 have hP:delRt l p=(l.filter (fun y=>decide (cmpQ p y<0))++l.filter (fun y=>decide (0<cmpQ p y)),if bsF (cmpQ p) l then 0 else 3):=by
  unfold delRt
  rw[if_neg h2,woR_cmp a1,hx]
 have hlen:=checkR_len a1
 have hcl:=cloRoute_spec (l.map Route.iv) (by simp;omega)
 have hs1:=bs_del (strictR a1 p)
 have hs2:=bs_none (strictR a1 p)
 have hlt1:=fun hh=>bsF_ltn (c:=cmpQ p) (l:=l) hh
 generalize delRt l p=RES at*
 generalize bsI (cmpQ p) l=j at*
 cases hfb:bsF (cmpQ p) l with
 |true=>
  rw[if_pos hfb]at hx
  have hlt:=hlt1 hfb
  have hset:=hs1 hfb
  have hd:=delRoute_spec (l.map Route.iv) j (by simpa using hlt) (by simp;omega)
  have e1:IntKind.i64.wrap ((j:Int)+1)=(j+1:Nat):=wrap64 (by omega) (by omega)
  rw[←hset,if_pos hfb]at hP
  subst hP
  simp -implicitDefEqProofs [hx,e1]
  refine CallK.outs [] hcl rfl (by simp) (by simp[AV.flat]) ?_
  simp -implicitDefEqProofs [hx,e1]
  refine CallO.mk [] [1] hd (by simp) rfl (by simp) (by simp) (by simp) ?_
  simp -implicitDefEqProofs
  refine EndZ.ret [2] (.tup [.row 2,.int .i64 0]) (by simp) ?_
  simp -implicitDefEqProofs
 |false=>
  rw[if_neg (by simp[hfb])]at hx
  rw[←hs2 hfb,if_neg (by simp[hfb])]at hP
  subst hP
  simp -implicitDefEqProofs [hx]
  refine CallK.outs [] hcl rfl (by simp) (by simp[AV.flat]) ?_
  simp -implicitDefEqProofs [hx]
  refine EndZ.ret [1] (.tup [.row 1,.int .i64 3]) (by simp) ?_
  simp -implicitDefEqProofs
end Go.Am
namespace Go.Am
open Go.Proofs
theorem ownF_spec (r:Router) (h1:r.routes.length≤4096) (h2:r.links.length≤4096):FSpec Tryz.prog 287 [r.av] [] r.av []:=by
 have hc1:=cloRoute_spec (r.routes.map Route.iv) (by simpa using h1)
 have hc2:=cloLink_spec (r.links.map Link.iv) (by simpa using h2)
 refine FSpec.of_z (q:=[(1,.m [.p [] [],.p [] [],.e [4],.p [0] [],.p [0] [],.e [7],.p [1] []])]) Tryz.func287 (by kernel_rfl) rfl Tryz.ntmps287 Tryz.results287 hP (by kernel_rfl) (by simp) (by first|rfl|simp) ?_
 simp -implicitDefEqProofs
 refine CallK.outs [] hc1 rfl (by simp) (by simp[AV.flat]) ?_
 simp -implicitDefEqProofs
 refine CallK.outs [] hc2 rfl (by simp) (by simp[AV.flat]) ?_
 simp -implicitDefEqProofs
 refine EndZ.ret [2,3] (.agg [.int .i64 r.id,.bool r.up,.row 2,.row 3]) (by simp) ?_
 simp -implicitDefEqProofs
@[simp] def boxR (r:Router):AObj:=.box 453 [.int .i64 r.id,.bool r.up,.im (.sl 6 (r.routes.map Route.iv)),.im (.sl 2 (r.links.map Link.iv))]
theorem setRoutes_spec (r:Router) (l:List Route) (w:Int):FSpec Tryz.prog 397 [.ptr 0 0,.im (.sl 6 (l.map Route.iv)),.int .i64 w] [boxR r] (.int .i64 w) [boxR ⟨r.id,r.up,l,r.links⟩]:=by
 refine FSpec.of_o (q:=[]) Tryz.func397 (by kernel_rfl) rfl Tryz.ntmps397 Tryz.results397 hP (by kernel_rfl) (by simp) (by first|rfl|simp) ?_
 simp -implicitDefEqProofs [boxR]
 refine EndO.ret [] [0] (.int .i64 w) (by simp) (by simp)
theorem setLinks_spec (r:Router) (l:List Link) (w:Int):FSpec Tryz.prog 400 [.ptr 0 0,.im (.sl 2 (l.map Link.iv)),.int .i64 w] [boxR r] (.int .i64 w) [boxR ⟨r.id,r.up,r.routes,l⟩]:=by
 refine FSpec.of_o (q:=[]) Tryz.func400 (by kernel_rfl) rfl Tryz.ntmps400 Tryz.results400 hP (by kernel_rfl) (by simp) (by first|rfl|simp) ?_
 simp -implicitDefEqProofs [boxR]
 refine EndO.ret [] [0] (.int .i64 w) (by simp) (by simp)
def doneR (r:Router) (e:Ev):Router×Int:=
 if r.up=(e.kind==1)then(r,10)
 else if e.kind=1 then(⟨r.id,true,r.routes,r.links⟩,0)
 else if e.kind=2 then(⟨r.id,false,[],[]⟩,0)
 else if e.kind=3 then(⟨r.id,r.up,(putRt r.routes ⟨e.pfx,e.act⟩).1,r.links⟩,(putRt r.routes ⟨e.pfx,e.act⟩).2)
 else if e.kind=4 then(⟨r.id,r.up,(delRt r.routes e.pfx).1,r.links⟩,0)
 else if e.kind=5 then(⟨r.id,r.up,r.routes,(putLk r.links ⟨e.iface,e.peer⟩).1⟩,(putLk r.links ⟨e.iface,e.peer⟩).2)
 else(⟨r.id,r.up,r.routes,(delLk r.links e.iface).1⟩,0)
theorem evOk_tail {e:Ev} (h:evOk e=true):tailOk e=true:=by
 unfold evOk at h
 simp only[Bool.and_eq_true]at h
 exact h.2
theorem doneR_eq {r:Router} {e:Ev} (h1:routerOk r=true) (h2:evOk e=true) (h3:e.router=r.id):doneR r e=applyR r e:=by
 unfold applyR doneR
 simp only[h1,h2,h3,Bool.true_eq_false,or_self,not_true_eq_false,if_false]
 have ht:=evOk_tail h2
 unfold routerOk at h1
 simp only[Bool.and_eq_true,beq_iff_eq]at h1
 have hR:=h1.1.2
 have hL:=h1.2
 by_cases hup:r.up=(e.kind==1)
 ·rw[if_pos hup,if_pos hup]
 rw[if_neg hup,if_neg hup]
 by_cases k1:e.kind=1
 ·rw[if_pos k1,if_pos k1]
 rw[if_neg k1,if_neg k1]
 by_cases k2:e.kind=2
 ·rw[if_pos k2,if_pos k2]
 rw[if_neg k2,if_neg k2]
 by_cases k3:e.kind=3
 ·rw[if_pos k3,if_pos k3]
  have:routeOk ⟨e.pfx,e.act⟩=true:=by
   simp[tailOk,k3]at ht
   simp[routeOk,ht]
  unfold putRt
  rw[if_neg (by simp[hR,this])]
  split<;>simp
 rw[if_neg k3,if_neg k3]
 by_cases k4:e.kind=4
 ·rw[if_pos k4,if_pos k4]
 rw[if_neg k4,if_neg k4]
 by_cases k5:e.kind=5
 ·rw[if_pos k5,if_pos k5]
  have:rightL ⟨e.iface,e.peer⟩=true:=by
   simp[tailOk,k5]at ht
   simp[rightL,ifaceOk,idOk]at ht⊢
   omega
  unfold putLk
  rw[if_neg (by simp[hL,this])]
  split<;>simp
 rw[if_neg k5,if_neg k5]
set_option maxRecDepth 8000 in
set_option maxHeartbeats 4000000 in
theorem happenB_spec (r:Router) (e:Ev) (a2:evOk e=true):
  FSpec Tryz.prog 358 [.ptr 0 0,e.av] [boxR r] (.int .i64 (doneR r e).2) [boxR (doneR r e).1]:=by
 have hx:doneR r e=_:=rfl
 conv at hx=>rhs;unfold doneR
 generalize doneR r e=RES at*
 refine FSpec.of_o (q:=[(10,.n 14),(12,.n 11),(14,.n 14),(16,.n 11)]) Tryz.func358 (by kernel_rfl) rfl Tryz.ntmps358 Tryz.results358 hP (by kernel_rfl) (by simp) (by first|rfl|simp) ?_
 simp -implicitDefEqProofs [boxR]
 refine⟨fun h=>?_,fun a4=>?_⟩
 ·rw[if_pos h]at hx
  subst hx
  refine EndO.ret [] [0] (.int .i64 10) (by simp) (by simp)
 rw[if_neg a4]at hx
 rcases evOk_kind a2 with hk|hk|hk|hk|hk|hk
 ·simp[hk]at hx
  subst hx
  simp -implicitDefEqProofs [hk]
  refine EndO.ret [] [0] (.int .i64 0) (by simp) (by simp)
 ·simp[hk]at hx
  subst hx
  simp -implicitDefEqProofs [hk]
  refine EndO.ret [] [0] (.int .i64 0) (by simp) (by simp)
 ·simp[hk]at hx
  have hp:=putRo_spec r.routes ⟨e.pfx,e.act⟩
  simp -implicitDefEqProofs [hk]
  generalize putRt r.routes ⟨e.pfx,e.act⟩=RS at*
  subst hx
  first|refine CallK.same (hp) rfl rfl ?_|refine CallQ.same (hp) rfl rfl ?_|refine CallQG.same _ (hp) rfl ?_|refine CallG.same _ (hp) rfl ?_|refine CallK.pv (hp) rfl rfl ?_
  simp -implicitDefEqProofs
  refine CallO.mk [] [0] (setRoutes_spec r RS.1 RS.2) (by simp) rfl (by simp[boxR]) (by simp) (by simp) ?_
  simp -implicitDefEqProofs [boxR]
  refine EndO.ret [] [0] (.int .i64 RS.2) (by simp) (by simp)
 ·simp[hk]at hx
  have hp:=delRo_spec r.routes e.pfx
  simp -implicitDefEqProofs [hk]
  generalize delRt r.routes e.pfx=RS at*
  subst hx
  first|refine CallK.same (hp) rfl rfl ?_|refine CallQ.same (hp) rfl rfl ?_|refine CallQG.same _ (hp) rfl ?_|refine CallG.same _ (hp) rfl ?_|refine CallK.pv (hp) rfl rfl ?_
  simp -implicitDefEqProofs
  refine CallO.mk [] [0] (setRoutes_spec r RS.1 RS.2) (by simp) rfl (by simp[boxR]) (by simp) (by simp) ?_
  simp -implicitDefEqProofs [boxR]
  refine EndO.ret [] [0] (.int .i64 0) (by simp) (by simp)
 ·simp[hk]at hx
  have hp:=putLo_spec r.links ⟨e.iface,e.peer⟩
  simp -implicitDefEqProofs [hk]
  generalize putLk r.links ⟨e.iface,e.peer⟩=RS at*
  subst hx
  first|refine CallK.same (hp) rfl rfl ?_|refine CallQ.same (hp) rfl rfl ?_|refine CallQG.same _ (hp) rfl ?_|refine CallG.same _ (hp) rfl ?_|refine CallK.pv (hp) rfl rfl ?_
  simp -implicitDefEqProofs
  refine CallO.mk [] [0] (setLinks_spec r RS.1 RS.2) (by simp) rfl (by simp[boxR]) (by simp) (by simp) ?_
  simp -implicitDefEqProofs [boxR]
  refine EndO.ret [] [0] (.int .i64 RS.2) (by simp) (by simp)
 ·simp[hk]at hx
  have hp:=delLo_spec r.links e.iface
  simp -implicitDefEqProofs [hk]
  generalize delLk r.links e.iface=RS at*
  subst hx
  first|refine CallK.same (hp) rfl rfl ?_|refine CallQ.same (hp) rfl rfl ?_|refine CallQG.same _ (hp) rfl ?_|refine CallG.same _ (hp) rfl ?_|refine CallK.pv (hp) rfl rfl ?_
  simp -implicitDefEqProofs
  refine CallO.mk [] [0] (setLinks_spec r RS.1 RS.2) (by simp) rfl (by simp[boxR]) (by simp) (by simp) ?_
  simp -implicitDefEqProofs [boxR]
  refine EndO.ret [] [0] (.int .i64 0) (by simp) (by simp)
set_option maxRecDepth 8000 in
set_option maxHeartbeats 4000000 in
theorem applyRo_spec (r:Router) (e:Ev) (hsq:0≤e.seq):
  FSpec Tryz.prog 289 [r.av,e.av] [] (.tup [(applyR r e).1.av,.int .i64 (applyR r e).2]) []:=by
 have hc:=checkF_spec r
 have he:=evOk_spec e hsq
 have hx1:routerOk r=false∨evOk e=false→applyR r e=(router0,2):=fun h=>by unfold applyR;rw[if_pos h]
 have hx2:routerOk r=true→evOk e=true→¬e.router=r.id→applyR r e=(r,14):=fun h1 h2 h=>by unfold applyR;rw[if_neg (by simp[h1,h2]),if_pos h]
 have hx3:=doneR_eq (r:=r) (e:=e)
 generalize applyR r e=RES at*
 refine FSpec.of_z (q:=[]) Tryz.func289 (by kernel_rfl) rfl Tryz.ntmps289 Tryz.results289 hP (by kernel_rfl) (by simp) (by first|rfl|simp) ?_
 simp -implicitDefEqProofs
 first|refine CallK.same (hc) rfl rfl ?_|refine CallQ.same (hc) rfl rfl ?_|refine CallQG.same _ (hc) rfl ?_|refine CallG.same _ (hc) rfl ?_|refine CallK.pv (hc) rfl rfl ?_
 simp -implicitDefEqProofs
 first|refine CallK.same (he) rfl rfl ?_|refine CallQ.same (he) rfl rfl ?_|refine CallQG.same _ (he) rfl ?_|refine CallG.same _ (he) rfl ?_|refine CallK.pv (he) rfl rfl ?_
 simp -implicitDefEqProofs
 refine⟨fun h=>?_,fun a1 a2=>?_⟩
 ·refine EndZ.ret [] (.tup [.agg [.int .i64 0,.bool false,.im (.sc (.slice none 0 0)),.im (.sc (.slice none 0 0))],.int .i64 2]) (by simp) ?_
  simp[hx1 h,router0]
 obtain⟨l1,l2⟩:=routerOk_len a1
 have hcp:=ownF_spec r (by omega) (by omega)
 first|refine CallK.same (hcp) rfl rfl ?_|refine CallQ.same (hcp) rfl rfl ?_|refine CallQG.same _ (hcp) rfl ?_|refine CallG.same _ (hcp) rfl ?_|refine CallK.pv (hcp) rfl rfl ?_
 simp -implicitDefEqProofs
 refine⟨fun h=>?_,fun a3=>?_⟩
 ·refine EndZ.ret [] (.tup [r.av,.int .i64 14]) (by simp) ?_
  simp[hx2 a1 a2 h]
 have hR:=hx3 a1 a2 a3
 subst hR
 refine CallO.mk [] [3] (happenB_spec r e a2) (by simp) rfl (by simp[boxR]) (by simp) (by simp) ?_
 generalize doneR r e=RES
 simp -implicitDefEqProofs [boxR]
 refine EndZ.ret [] (.tup [RES.1.av,.int .i64 RES.2]) (by simp) ?_
 simp -implicitDefEqProofs
end Go.Am
namespace Go.Am
open Go.Proofs
theorem pw_put {α:Type} {R:α→α→Prop} {l:List α} {p q:α→Bool} {x:α} (h:l.Pairwise R) (h1:∀a∈l,p a=true→R a x) (h2:∀a∈l,q a=true→R x a) (h3:∀a b,R a x→R x b→R a b):(l.filter p++[x]++l.filter q).Pairwise R:=by
 rw[List.pairwise_append,List.pairwise_append]
 refine⟨⟨h.filter _,List.pairwise_singleton _ _,?_⟩,h.filter _,?_⟩
 ·intro a ha b hb
  rw[List.mem_singleton]at hb
  subst hb
  rw[List.mem_filter]at ha
  exact h1 a ha.1 ha.2
 ·intro a ha b hb
  rw[List.mem_filter]at hb
  rw[List.mem_append,List.mem_singleton]at ha
  rcases ha with ha|rfl
  ·rw[List.mem_filter]at ha
   exact h3 a b (h1 a ha.1 ha.2) (h2 b hb.1 hb.2)
  ·exact h2 b hb.1 hb.2
theorem checkRL_of:∀{l:List Route} {pv:Option Pfx},(∀r∈l,routeOk r=true)→(∀p,pv=some p→∀r∈l,cmpP p r.pfx<0)→(l.Pairwise fun r s=>cmpP r.pfx s.pfx<0)→checkRL l pv=0
 |[],pv,_,_,_=>rfl
 |r::l,pv,h1,h2,h3=>by
  have h4:=List.pairwise_cons.1 h3
  rw[checkRL,if_neg]
  ·exact checkRL_of (fun x hx=>h1 x (List.mem_cons_of_mem _ hx)) (fun p hp x hx=>by cases hp;exact h4.1 x hx) h4.2
  ·have:aheadR pv r=true:=by
    cases pv with
    |none=>rfl
    |some p=>simpa [aheadR]using h2 p rfl r List.mem_cons_self
   simp[h1 r List.mem_cons_self,this]
theorem checkR_of {l:List Route} (h0:l.length≤256) (h1:∀r∈l,routeOk r=true) (h3:l.Pairwise fun r s=>cmpP r.pfx s.pfx<0):checkR l=0:=by
 unfold checkR
 rw[if_neg (by omega)]
 exact checkRL_of h1 (fun p hp=>by cases hp) h3
theorem checkR_mem {l:List Route} (h:checkR l=0):∀r∈l,routeOk r=true:=by
 unfold checkR at h
 split at h
 ·cases h
 ·exact(checkRL_sorted h).1
theorem cmpP_trans {p q r:Pfx} (h1:cmpP p q<0) (h2:cmpP q r<0):cmpP p r<0:=by
 rw[cmpP_iff]at*
 omega
theorem putRt_ok {l:List Route} {x:Route} (h:(putRt l x).2=0):checkR (putRt l x).1=0:=by
 unfold putRt at h⊢
 split at h
 ·cases h
 rename_i hc
 have hR:checkR l=0:=by apply Classical.byContradiction;intro hn;exact hc (.inl hn)
 have hx:routeOk x=true:=by cases hr:routeOk x with|true=>rfl|false=>exact absurd (.inr hr) hc
 rw[if_neg hc]
 split at h
 ·cases h
 rename_i h256
 rw[if_neg h256,ltR_wo,gtR_wo]
 rw[woR_256 hR]at h256
 have hlen:=checkR_len hR
 refine checkR_of ?_ ?_ ?_
 ·cases hf:bsF (cmpQ x.pfx) l with
  |true=>rw[←bs_set (strictR hR _) x hf];simpa using hlen
  |false=>
   rw[←bs_ins (strictR hR _) x hf]
   have:=bsI_le (cmpQ x.pfx) l
   have h9:¬l.length=256:=fun h=>h256 ⟨hf,h⟩
   simp only[List.length_append,List.length_cons,List.length_take,List.length_drop]
   omega
 ·intro r hr
  simp only[List.mem_append,List.mem_singleton,List.mem_filter]at hr
  rcases hr with(hr|rfl)|hr
  ·exact checkR_mem hR r hr.1
  ·exact hx
  ·exact checkR_mem hR r hr.1
 ·refine pw_put (checkR_sorted hR) ?_ ?_ ?_
  ·intro a ha h1
   exact of_decide_eq_true h1
  ·intro a ha h1
   exact(cmpP_gt _ _).1 (of_decide_eq_true h1)
  ·intro a b h1 h2
   exact cmpP_trans h1 h2
theorem delRt_ok {l:List Route} {p:Pfx} (hR:checkR l=0):checkR (delRt l p).1=0:=by
 unfold delRt
 split
 ·rfl
 have hlen:=checkR_len hR
 have hw:=woR_len p l
 refine checkR_of (by show(woR p l).length≤256;omega) ?_ ?_
 ·intro r hr
  simp only[woR,List.mem_filter]at hr
  exact checkR_mem hR r hr.1
 ·exact(checkR_sorted hR).filter _
theorem checkLL_of:∀{l:List Link} {a:Int},(∀x∈l,rightL x=true)→(∀x∈l,a<x.iface)→(l.Pairwise fun x y=>x.iface<y.iface)→checkLL l a=0
 |[],a,_,_,_=>rfl
 |x::l,a,h1,h2,h3=>by
  have h4:=List.pairwise_cons.1 h3
  have h5:=h2 x List.mem_cons_self
  rw[checkLL,if_neg (by simp[h1 x List.mem_cons_self];omega)]
  exact checkLL_of (fun y hy=>h1 y (List.mem_cons_of_mem _ hy)) h4.1 h4.2
theorem checkLL_mem:∀{l:List Link} {a:Int},checkLL l a=0→∀x∈l,rightL x=true
 |[],_,_,x,hx=>by cases hx
 |y::l,a,h,x,hx=>by
  rw[checkLL]at h
  split at h
  ·cases h
  rename_i hc
  simp at hc
  rcases List.mem_cons.1 hx with rfl|hx
  ·exact hc.1
  ·exact checkLL_mem h x hx
theorem checkL_mem {l:List Link} (h:checkL l=0):∀x∈l,rightL x=true:=by
 unfold checkL at h
 split at h
 ·cases h
 ·exact checkLL_mem h
theorem rightL_pos {x:Link} (h:rightL x=true): -1<x.iface:=by
 simp[rightL]at h
 omega
theorem checkL_of {l:List Link} (h0:l.length≤32) (h1:∀x∈l,rightL x=true) (h3:l.Pairwise fun x y=>x.iface<y.iface):checkL l=0:=by
 unfold checkL
 rw[if_neg (by omega)]
 exact checkLL_of h1 (fun x hx=>rightL_pos (h1 x hx)) h3
theorem putLk_ok {l:List Link} {x:Link} (h:(putLk l x).2=0):checkL (putLk l x).1=0:=by
 unfold putLk at h⊢
 split at h
 ·cases h
 rename_i hc
 have hR:checkL l=0:=by apply Classical.byContradiction;intro hn;exact hc (.inl hn)
 have hx:rightL x=true:=by cases hr:rightL x with|true=>rfl|false=>exact absurd (.inr hr) hc
 rw[if_neg hc]
 split at h
 ·cases h
 rename_i h32
 rw[if_neg h32,ltL_cmp,gtL_cmp]
 rw[eqL_bs hR]at h32
 have hlen:=checkL_32 hR
 refine checkL_of ?_ ?_ ?_
 ·cases hf:bsF (cmpL x.iface) l with
  |true=>rw[←bs_set (strictL hR _) x hf];simpa using hlen
  |false=>
   rw[←bs_ins (strictL hR _) x hf]
   have:=bsI_le (cmpL x.iface) l
   have h9:¬l.length=32:=fun h=>h32 ⟨hf,h⟩
   simp only[List.length_append,List.length_cons,List.length_take,List.length_drop]
   omega
 ·intro r hr
  simp only[List.mem_append,List.mem_singleton,List.mem_filter]at hr
  rcases hr with(hr|rfl)|hr
  ·exact checkL_mem hR r hr.1
  ·exact hx
  ·exact checkL_mem hR r hr.1
 ·refine pw_put (checkL_sorted hR) ?_ ?_ ?_
  ·intro a ha h1
   simpa [cmpL_neg]using h1
  ·intro a ha h1
   simpa [cmpL_pos]using h1
  ·intro a b h1 h2
   omega
theorem delLk_ok {l:List Link} {i:Int} (hR:checkL l=0):checkL (delLk l i).1=0:=by
 unfold delLk
 rw[if_neg (by simp[hR])]
 have hlen:=checkL_32 hR
 rw[ltL_cmp,gtL_cmp,←bs_ne (strictL hR i)]
 refine checkL_of ?_ ?_ ?_
 ·have:=List.length_filter_le (fun x:Link=>decide (¬cmpL i x=0)) l
  show(l.filter (fun x:Link=>decide (¬cmpL i x=0))).length≤32
  omega
 ·intro r hr
  exact checkL_mem hR r (List.mem_filter.1 hr).1
 ·exact(checkL_sorted hR).filter _
theorem applyR_ok {r:Router} {e:Ev} (h1:routerOk r=true) (h2:evOk e=true) (h3:e.router=r.id) (h4:(applyR r e).2=0):routerOk (applyR r e).1=true∧(applyR r e).1.id=e.router∧(applyR r e).1.up=(e.kind != 2):=by
 have h1':=h1
 unfold applyR at h4⊢
 simp only[h1,h2,h3,Bool.true_eq_false,or_self,not_true_eq_false,if_false]at h4⊢
 unfold routerOk at h1
 simp only[Bool.and_eq_true,beq_iff_eq]at h1
 obtain⟨⟨⟨a1,a2⟩,a3⟩,a4⟩:=h1
 by_cases hup:r.up=(e.kind==1)
 ·rw[if_pos hup]at h4
  cases h4
 rw[if_neg hup]at h4⊢
 by_cases k1:e.kind=1
 ·rw[if_pos k1]at h4⊢
  simp[routerOk,a1,a3,a4,k1]
 rw[if_neg k1]at h4⊢
 have hu:r.up=true:=by
  cases hr:r.up with
  |true=>rfl
  |false=>exact absurd (by rw[hr];symm;simpa using k1) hup
 by_cases k2:e.kind=2
 ·rw[if_pos k2]at h4⊢
  simp[routerOk,a1,k2,checkR,checkRL,checkL,checkLL]
 rw[if_neg k2]at h4⊢
 by_cases k3:e.kind=3
 ·rw[if_pos k3]at h4⊢
  split at h4
  ·rename_i hp
   rw[if_pos hp]
   simp[routerOk,a1,a4,hu,k2,putRt_ok hp]
  ·rename_i hp
   exact absurd h4 hp
 rw[if_neg k3]at h4⊢
 by_cases k4:e.kind=4
 ·rw[if_pos k4]at h4⊢
  simp[routerOk,a1,a4,hu,k2,delRt_ok a3]
 rw[if_neg k4]at h4⊢
 by_cases k5:e.kind=5
 ·rw[if_pos k5]at h4⊢
  split at h4
  ·rename_i hp
   rw[if_pos hp]
   simp[routerOk,a1,a3,hu,k2,putLk_ok hp]
  ·rename_i hp
   exact absurd h4 hp
 rw[if_neg k5]at h4⊢
 simp[routerOk,a1,a3,hu,k2,delLk_ok a4]
end Go.Am
namespace Go.Am
open Go.Proofs
theorem mayS_zero {l:List Seat} {e:Ev} {hz:Int} (h:mayS l e hz=0):checkS l=0∧evOk e=true∧ -1≤hz∧hz≤1099511627776∧mayT l e hz=0:=by
 unfold mayS at h
 split at h
 ·cases h
 rename_i h1
 split at h
 ·cases h
 rename_i h2
 refine⟨?_,?_,by omega,by omega,h⟩
 ·apply Classical.byContradiction;intro hn;exact h1 (.inl hn)
 ·cases he:evOk e with|true=>rfl|false=>exact absurd (.inr he) h1
theorem mayT_len {l:List Seat} {e:Ev} {hz:Int} (h:mayT l e hz=0):seatF l e.router=none→¬l.length=64:=by
 intro h1 h2
 unfold mayT at h
 split at h
 ·cases h
 split at h
 ·cases h
 split at h
 ·cases h
 split at h
 ·cases h
 rw[if_pos ⟨h1,h2⟩]at h
 cases h
theorem seatF_none {l:List Seat} {x:Int}:seatF l x=none↔¬∃s∈l,s.router=x:=by
 induction l with
 |nil=>simp[seatF]
 |cons s l ih=>
  rw[seatF]
  split
  ·rename_i h
   simp[h]
  ·rename_i h
   rw[ih]
   simp[h]
theorem cmpS_zero (n:Int) (x:Seat):cmpS n x=0↔x.router=n:=by
 have h1:=cmpS_lt n x
 have h2:=cmpS_gt n x
 omega
theorem seatF_bs {l:List Seat} (h:checkS l=0) (x:Int):seatF l x=none↔bsF (cmpS x) l=false:=by
 rw[seatF_none]
 have hm:=bs_mem (strictS h x)
 simp only[cmpS_zero]at hm
 rw[←hm]
 cases bsF (cmpS x) l<;>simp
theorem checkSL_of:∀{l:List Seat} {a:Int},(∀x∈l,rightS x=true)→(∀x∈l,a<x.router)→(l.Pairwise fun x y=>x.router<y.router)→checkSL l a=0
 |[],a,_,_,_=>rfl
 |x::l,a,h1,h2,h3=>by
  have h4:=List.pairwise_cons.1 h3
  have h5:=h2 x List.mem_cons_self
  rw[checkSL,if_neg (by simp[h1 x List.mem_cons_self];omega)]
  exact checkSL_of (fun y hy=>h1 y (List.mem_cons_of_mem _ hy)) h4.1 h4.2
theorem checkS_sorted {l:List Seat} (h:checkS l=0):l.Pairwise fun x y=>x.router<y.router:=by
 unfold checkS at h
 split at h
 ·cases h
 ·exact(checkSL_sorted h).2
theorem rightS_pos {x:Seat} (h:rightS x=true): -1<x.router:=by
 simp[rightS]at h
 omega
theorem checkS_of {l:List Seat} (h0:l.length≤64) (h1:∀x∈l,rightS x=true) (h3:l.Pairwise fun x y=>x.router<y.router):checkS l=0:=by
 unfold checkS
 rw[if_neg (by omega)]
 exact checkSL_of h1 (fun x hx=>rightS_pos (h1 x hx)) h3
theorem evOk_seat {e:Ev} (h:evOk e=true):rightS (seatOf e)=true∧idOk e.router=true:=by
 unfold evOk headOk at h
 simp only[Bool.and_eq_true,decide_eq_true_eq]at h
 obtain⟨⟨⟨⟨⟨a1,a2⟩,a3⟩,a4⟩,a5⟩,_⟩:=h
 refine⟨?_,a1⟩
 simp only[idOk,Bool.and_eq_true,decide_eq_true_eq]at a1
 simp only[rightS,Bool.and_eq_true,decide_eq_true_eq]
 exact⟨⟨⟨⟨⟨a1.1,a1.2⟩,a2⟩,a3⟩,a4⟩,a5⟩
theorem putSeat_mem {l:List Seat} {s t:Seat} (h:t∈putSeat l s):t=s∨t∈l∧¬t.router=s.router:=by
 simp only[putSeat,List.mem_append,List.mem_singleton,List.mem_filter,decide_eq_true_eq]at h
 rcases h with(h|h)|h
 ·exact .inr ⟨h.1,by omega⟩
 ·exact .inl h
 ·exact .inr ⟨h.1,by omega⟩
theorem putSeat_ok {l:List Seat} {e:Ev} {hz:Int} (h:mayS l e hz=0):checkS (putSeat l (seatOf e))=0:=by
 obtain⟨h1,h2,h3,h4,h5⟩:=mayS_zero h
 have hlen:=checkS_len h1
 refine checkS_of ?_ ?_ ?_
 ·rw[putSeat_cmp]
  cases hf:bsF (cmpS e.router) l with
  |true=>rw[←bs_set (strictS h1 _) _ hf];simpa using hlen
  |false=>
   rw[←bs_ins (strictS h1 _) _ hf]
   have:=bsI_le (cmpS e.router) l
   have h9:=mayT_len h5 ((seatF_bs h1 _).2 hf)
   simp only[List.length_append,List.length_cons,List.length_take,List.length_drop]
   omega
 ·intro t ht
  rcases putSeat_mem ht with rfl|ht
  ·exact(evOk_seat h2).1
  ·exact checkS_mem h1 t ht.1
 ·refine pw_put (checkS_sorted h1) ?_ ?_ ?_
  ·intro a ha h1
   exact of_decide_eq_true h1
  ·intro a ha h1
   exact of_decide_eq_true h1
  ·intro a b h1 h2
   omega
theorem cmpT_gt (n:Int) (x:Router):0<cmpT n x↔n<x.id:=by
 unfold cmpT cmpI
 repeat' split
 all_goals omega
theorem strictT {l:List Router} (h:l.Pairwise fun x y=>x.id<y.id) (n:Int):strictC (cmpT n) l:=by
 refine h.imp fun{x y} hxy h0=>?_
 rw[cmpT_gt]
 have:=cmpT_neg n x
 omega
theorem routerF_mem:∀{R:List Router},(R.Pairwise fun x y=>x.id<y.id)→∀r∈R,routerF R r.id=some r
 |[],_,r,hr=>by cases hr
 |x::R,h,r,hr=>by
  have h1:=List.pairwise_cons.1 h
  have ih:=routerF_mem h1.2
  unfold routerF at*
  rw[List.find?_cons]
  rcases List.mem_cons.1 hr with rfl|hr
  ·simp
  ·have:=h1.1 r hr
   have hne:decide (x.id=r.id)=false:=by simp;omega
   rw[hne]
   exact ih r hr
theorem map_filter_rt (R0:List Router) (d:Router) (p:Int→Bool):∀(R:List Router) (S:List Seat),R.map Router.id=S.map Seat.router→(∀r∈R,routerF R0 r.id=some r)→(S.filter fun s=>p s.router).map (fun s=>(routerF R0 s.router).getD d)=R.filter fun r=>p r.id
 |[],[],_,_=>rfl
 |r::R,s::S,h,hr=>by
  simp only[List.map_cons,List.cons.injEq]at h
  have ih:=map_filter_rt R0 d p R S h.2 fun x hx=>hr x (List.mem_cons_of_mem _ hx)
  rw[List.filter_cons,List.filter_cons,←h.1]
  split
  ·rw[List.map_cons,ih,←h.1,hr r List.mem_cons_self]
   rfl
  ·exact ih
 |[],_::_,h,_=>by simp at h
 |_::_,[],h,_=>by simp at h
theorem netOk_ids2 {n:Net} (h:netOk n=true):n.routers.map Router.id=n.seats.map Seat.router:=by
 unfold netOk at h
 simp only[Bool.and_eq_true,beq_iff_eq]at h
 exact(zipOk_map h.1.2).1
theorem netOk_checkS {n:Net} (h:netOk n=true):checkS n.seats=0:=by
 unfold netOk at h
 simp only[Bool.and_eq_true,beq_iff_eq]at h
 exact h.1.1.1
theorem map_afterN {n:Net} {e:Ev} {hz:Int} {m:Router} {l:List Seat} (h:∀s∈l,¬s.router=e.router):l.map (afterN n e hz m)=l.map fun s=>(routerF n.routers s.router).getD ⟨0,false,[],[]⟩:=by
 apply List.map_congr_left
 intro s hs
 unfold afterN
 rw[if_neg (h s hs)]
theorem netAfter_routers {n:Net} {e:Ev} {hz:Int} (hok:netOk n=true) (h:mayS n.seats e hz=0):(netAfter n e hz).routers=n.routers.filter (fun r=>decide (cmpT e.router r<0))++[(applyR (mineN n e) e).1]++n.routers.filter fun r=>decide (0<cmpT e.router r):=by
 have hn:(nextS n.seats e hz).1=putSeat n.seats (seatOf e):=by
  unfold nextS
  rw[if_neg (by omega),if_neg (by omega)]
 unfold netAfter
 simp only[hn]
 generalize (applyR (mineN n e) e).1=m
 unfold putSeat
 have hx:(seatOf e).router=e.router:=rfl
 rw[hx,List.map_append,List.map_append]
 have hr:=routerF_mem (netOk_routers hok).1
 have hid:=netOk_ids2 hok
 rw[map_afterN (l:=n.seats.filter fun s=>decide (s.router<e.router)) (fun s hs=>by have:=of_decide_eq_true (List.mem_filter.1 hs).2;omega),
  map_afterN (l:=n.seats.filter fun s=>decide (e.router<s.router)) (fun s hs=>by have:=of_decide_eq_true (List.mem_filter.1 hs).2;omega)]
 rw[map_filter_rt n.routers _ (fun i=>decide (i<e.router)) n.routers n.seats hid hr,map_filter_rt n.routers _ (fun i=>decide (e.router<i)) n.routers n.seats hid hr]
 simp only[cmpT_neg,cmpT_gt,List.map_cons,List.map_nil]
 have:afterN n e hz m (seatOf e)=m:=by unfold afterN;rw[if_pos hx]
 rw[this]
theorem zip_mem:∀{R:List Router} {S:List Seat},zipOk R S=true→∀s∈S,∃r∈R,routerOk r=true∧r.id=s.router∧r.up=s.up
 |[],[],_,s,hs=>by cases hs
 |r::R,t::S,h,s,hs=>by
  simp[zipOk]at h
  obtain⟨⟨⟨h1,h2⟩,h3⟩,h4⟩:=h
  rcases List.mem_cons.1 hs with rfl|hs
  ·exact⟨r,List.mem_cons_self,h1,h2,h3⟩
  ·obtain⟨r',a,b⟩:=zip_mem h4 s hs
   exact⟨r',List.mem_cons_of_mem _ a,b⟩
 |[],_::_,h,_,_=>by simp[zipOk]at h
 |_::_,[],h,_,_=>by simp[zipOk]at h
theorem zip_of {f:Seat→Router}:∀{S:List Seat},(∀s∈S,routerOk (f s)=true∧(f s).id=s.router∧(f s).up=s.up)→zipOk (S.map f) S=true
 |[],_=>rfl
 |s::S,h=>by
  obtain⟨h1,h2,h3⟩:=h s List.mem_cons_self
  simp only[List.map_cons,zipOk,h1,h2,h3,beq_self_eq_true,Bool.and_self,Bool.true_and]
  exact zip_of fun t ht=>h t (List.mem_cons_of_mem _ ht)
theorem mineN_ok {n:Net} {e:Ev} (hok:netOk n=true) (he:evOk e=true):routerOk (mineN n e)=true∧e.router=(mineN n e).id:=by
 unfold mineN
 have hid:=(evOk_seat he).2
 cases hr:routerF n.routers e.router with
 |some r=>
  have h1:=List.find?_some hr
  have h2:=List.mem_of_find?_eq_some hr
  simp at h1
  exact⟨(netOk_routers hok).2 r h2,h1.symm⟩
 |none=>
  simp[hid,routerOk,checkR,checkRL,checkL,checkLL]
theorem netAfter_ok {n:Net} {e:Ev} {hz:Int} (hok:netOk n=true) (h:mayS n.seats e hz=0) (h2:(applyR (mineN n e) e).2=0) (h3:¬1024<many (netAfter n e hz).routers 0):netOk (netAfter n e hz)=true:=by
 obtain⟨g1,g2,g3,g4,g5⟩:=mayS_zero h
 have hn:(nextS n.seats e hz).1=putSeat n.seats (seatOf e):=by
  unfold nextS
  rw[if_neg (by omega),if_neg (by omega)]
 obtain⟨m1,m2⟩:=mineN_ok hok g2
 obtain⟨a1,a2,a3⟩:=applyR_ok m1 g2 m2 h2
 have hz':zipOk n.routers n.seats=true:=by
  unfold netOk at hok
  simp only[Bool.and_eq_true,beq_iff_eq]at hok
  exact hok.1.2
 unfold netOk
 simp only[Bool.and_eq_true,beq_iff_eq,decide_eq_true_eq]
 refine⟨⟨⟨?_,?_⟩,?_⟩,by omega⟩
 ·show checkS (nextS n.seats e hz).1=0
  rw[hn]
  exact putSeat_ok h
 ·simp[netAfter]
 ·show zipOk ((nextS n.seats e hz).1.map _) (nextS n.seats e hz).1=true
  refine zip_of fun s hs=>?_
  rw[hn]at hs
  unfold afterN
  rcases putSeat_mem hs with rfl|⟨hs,hne⟩
  ·rw[if_pos (show(seatOf e).router=e.router from rfl)]
   exact⟨a1,a2,a3⟩
  ·rw[if_neg (show ¬s.router=e.router from hne)]
   obtain⟨r,b1,b2,b3,b4⟩:=zip_mem hz' s hs
   rw[←b3,routerF_mem (netOk_routers hok).1 r b1]
   exact⟨b2,rfl,b4⟩
theorem happensF_ok {n:Net} {e:Ev} {hz:Int} (hok:netOk n=true):netOk (happensF n e hz).1=true:=by
 unfold happensF
 split
 ·exact hok
 rename_i h1
 split
 ·exact hok
 rename_i h2
 split
 ·exact hok
 rename_i h3
 exact netAfter_ok hok (by omega) (by omega) h3
def sz (r:Router):Nat:=r.routes.length+r.links.length
def sumR:List Router→Nat
 |[]=>0
 |r::l=>sz r+sumR l
theorem sumR_app (a b:List Router):sumR (a++b)=sumR a+sumR b:=by
 induction a with
 |nil=>simp[sumR]
 |cons x a ih=>simp only[List.cons_append,sumR,ih];omega
theorem many_sum:∀(l:List Router) (a:Nat),a+sumR l≤1000000000→many l a=(a+sumR l:Nat)
 |[],a,_=>by simp[many,sumR]
 |r::l,a,h=>by
  simp only[sumR]at h⊢
  unfold sz at h
  have e1:IntKind.i64.wrap ((r.routes.length:Int)+r.links.length)=(sz r:Nat):=by
   rw[wrap64 (by omega) (by omega)]
   unfold sz
   omega
  have e2:IntKind.i64.wrap ((a:Int)+(sz r:Nat))=(a+sz r:Nat):=by
   unfold sz
   rw[wrap64 (by omega) (by omega)]
   omega
  rw[many,e1,e2,many_sum l (a+sz r) (by unfold sz;omega)]
  congr 1
  omega
theorem sumR_le:∀{l:List Router},(∀r∈l,routerOk r=true)→sumR l≤288*l.length
 |[],_=>by simp[sumR]
 |r::l,h=>by
  have h1:=routerOk_len (h r List.mem_cons_self)
  have h2:=sumR_le fun x hx=>h x (List.mem_cons_of_mem _ hx)
  simp only[sumR,List.length_cons]
  unfold sz
  omega
theorem netOk_many {n:Net} (hok:netOk n=true):many n.routers 0=sumR n.routers∧sumR n.routers≤1024:=by
 have h1:=sumR_le (netOk_routers hok).2
 have h2:=netOk_len hok
 have h3:=many_sum n.routers 0 (by omega)
 have h4:many n.routers 0=sumR n.routers:=by simpa using h3
 refine⟨h4,?_⟩
 unfold netOk at hok
 simp only[Bool.and_eq_true,beq_iff_eq,decide_eq_true_eq]at hok
 omega
theorem mineN_found {n:Net} {e:Ev} (hok:netOk n=true) (hf:bsF (cmpT e.router) n.routers=true):n.routers[bsI (cmpT e.router) n.routers]? =some (mineN n e):=by
 have h:=routerF_bs (n:=e.router) (netOk_routers hok).1
 rw[if_pos hf]at h
 obtain⟨y,hy⟩:=bsF_lt hf
 unfold mineN
 rw[h,hy]
theorem mineN_new {n:Net} {e:Ev} (hok:netOk n=true) (he:evOk e=true) (hf:bsF (cmpT e.router) n.routers=false):mineN n e=⟨e.router,false,[],[]⟩:=by
 have h:=routerF_bs (n:=e.router) (netOk_routers hok).1
 rw[if_neg (by simp[hf])]at h
 unfold mineN
 rw[h]
 simp[(evOk_seat he).2]
theorem after_set {n:Net} {e:Ev} {hz:Int} (hok:netOk n=true) (h:mayS n.seats e hz=0) (hf:bsF (cmpT e.router) n.routers=true):(netAfter n e hz).routers=n.routers.set (bsI (cmpT e.router) n.routers) (applyR (mineN n e) e).1:=by
 rw[netAfter_routers hok h,bs_set (strictT (netOk_routers hok).1 _) _ hf]
theorem after_ins {n:Net} {e:Ev} {hz:Int} (hok:netOk n=true) (h:mayS n.seats e hz=0) (hf:bsF (cmpT e.router) n.routers=false):(netAfter n e hz).routers=n.routers.take (bsI (cmpT e.router) n.routers)++(applyR (mineN n e) e).1::n.routers.drop (bsI (cmpT e.router) n.routers):=by
 rw[netAfter_routers hok h,bs_ins (strictT (netOk_routers hok).1 _) _ hf]
theorem many_after {n:Net} {e:Ev} {hz:Int} (hok:netOk n=true) (h:mayS n.seats e hz=0) (h2:(applyR (mineN n e) e).2=0):many (netAfter n e hz).routers 0=(sumR n.routers:Int)-sz (mineN n e)+sz (applyR (mineN n e) e).1∧sz (mineN n e)≤sumR n.routers∧sz (applyR (mineN n e) e).1≤288:=by
 obtain⟨g1,g2,g3,g4,g5⟩:=mayS_zero h
 obtain⟨m1,m2⟩:=mineN_ok hok g2
 obtain⟨a1,a2,a3⟩:=applyR_ok m1 g2 m2 h2
 have hb:=(netOk_many hok).2
 have hl:=routerOk_len a1
 have hA:sz (applyR (mineN n e) e).1≤288:=by unfold sz;omega
 cases hf:bsF (cmpT e.router) n.routers with
 |true=>
  have hg:=mineN_found hok hf
  rw[after_set hok h hf]
  obtain⟨hi,hge⟩:=List.getElem?_eq_some_iff.1 hg
  have hs:sumR n.routers=sumR (n.routers.take (bsI (cmpT e.router) n.routers))+(sz (mineN n e)+sumR (n.routers.drop (bsI (cmpT e.router) n.routers+1))):=by
   conv=>lhs;rw[←List.take_append_drop (bsI (cmpT e.router) n.routers) n.routers,sumR_app,List.drop_eq_getElem_cons hi,hge,sumR]
  have hs2:sumR (n.routers.set (bsI (cmpT e.router) n.routers) (applyR (mineN n e) e).1)=sumR (n.routers.take (bsI (cmpT e.router) n.routers))+(sz (applyR (mineN n e) e).1+sumR (n.routers.drop (bsI (cmpT e.router) n.routers+1))):=by
   rw[List.set_eq_take_append_cons_drop,if_pos hi,sumR_app,sumR]
  have hm:=many_sum (n.routers.set (bsI (cmpT e.router) n.routers) (applyR (mineN n e) e).1) 0 (by omega)
  refine⟨?_,by omega,hA⟩
  rw[show((0:Int))=((0:Nat):Int) from rfl,hm]
  omega
 |false=>
  have hg:=mineN_new hok g2 hf
  have h0:sz (mineN n e)=0:=by rw[hg];rfl
  rw[after_ins hok h hf]
  have hs:sumR n.routers=sumR (n.routers.take (bsI (cmpT e.router) n.routers))+sumR (n.routers.drop (bsI (cmpT e.router) n.routers)):=by
   conv=>lhs;rw[←List.take_append_drop (bsI (cmpT e.router) n.routers) n.routers,sumR_app]
  have hs2:sumR (n.routers.take (bsI (cmpT e.router) n.routers)++(applyR (mineN n e) e).1::n.routers.drop (bsI (cmpT e.router) n.routers))=sumR (n.routers.take (bsI (cmpT e.router) n.routers))+(sz (applyR (mineN n e) e).1+sumR (n.routers.drop (bsI (cmpT e.router) n.routers))):=by
   rw[sumR_app,sumR]
  have hm:=many_sum (n.routers.take (bsI (cmpT e.router) n.routers)++(applyR (mineN n e) e).1::n.routers.drop (bsI (cmpT e.router) n.routers)) 0 (by omega)
  refine⟨?_,by omega,hA⟩
  rw[show((0:Int))=((0:Nat):Int) from rfl,hm]
  omega
end Go.Am
namespace Go.Am
open Go.Proofs
theorem Router.len_of {r:Router} (h:routerOk r=true):r.routes.length≤4096∧r.links.length≤4096:=by
 have:=routerOk_len h
 omega
theorem mod_same {α:Type} (f:α→List IV) (l:List α) (i:Nat) (s:α) (hs:l[i]? =some s) (g:List IV→List IV) (hg:∀x,g (f x)=f s):(l.map f).modify i g=l.map f:=by
 rw[mod_set f l s i g hg]
 congr 1
 apply List.ext_getElem?
 intro j
 rw[List.getElem?_set]
 split
 ·rename_i h
  subst h
  rw[if_pos (List.getElem?_eq_some_iff.1 hs).1,hs]
 ·rfl
set_option maxRecDepth 8000 in
set_option maxHeartbeats 1000000 in
theorem ownN_spec (n:Net) (h:netOk n=true):FSpec Tryz.prog 221 [n.av] [] (.agg [.im (.sl 4 (n.seats.map Seat.iv)),.row 0]) [.row 100 4 (n.routers.map Router.iv)]:=by
 have h1:=netOk_seats h
 have h2:=netOk_len h
 have h3:=(netOk_routers h).2
 have hc1:=cloSeat_spec (n.seats.map Seat.iv) (by simp;omega)
 have hc2:=cloRouter_spec (n.routers.map Router.iv) (by simp;omega)
 refine FSpec.of_o (q:=[(1,.m [.p [] [],.p [] [],.e [6],.p [0] [],.p [0] [],.e [9],.p [1] []]),(5,.m [.p [1] [],.p [1] [],.p [1] [],.p [] [],.e [24]])]) Tryz.func221 (by kernel_rfl) rfl Tryz.ntmps221 Tryz.results221 hP (by kernel_rfl) (by simp) (by first|rfl|simp) ?_
 simp -implicitDefEqProofs
 refine CallK.outs [] hc1 rfl (by simp) (by simp[AV.flat]) ?_
 simp -implicitDefEqProofs
 refine CallK.outs [] hc2 rfl (by simp) (by simp[AV.flat]) ?_
 simp -implicitDefEqProofs
 refine LoopK.os (fun k:Nat=>[(1,.ptr 0 0),(2,.ptr 1 0),(14,.row 3),(15,.int .i64 n.routers.length),(16,.int .i64 k)])
  (fun _=>[.box 25 [.row 2,.row 3],.box 25 [.im (.sc (.slice none 0 0)),.im (.sc (.slice none 0 0))],.row 228 4 (n.seats.map Seat.iv),.row 100 4 (n.routers.map Router.iv)])
  (fun k=>k≤n.routers.length) (fun k=>n.routers.length-k) 0 [0,1,2,3] (Nat.zero_le _) (by simp) ?_
 intro k hk
 by_cases hlt:k<n.routers.length
 ·have e1:IntKind.i64.wrap (k+1)=(k+1:Nat):=wrap64 (by omega) (by omega)
  have hg:=List.getElem?_eq_getElem hlt
  obtain⟨y,hy⟩:∃y,n.routers[k]=y:=⟨_,rfl⟩
  rw[hy]at hg
  have hyo:=Router.len_of (h3 y (List.mem_of_getElem? hg))
  have ho:=ownF_spec y hyo.1 hyo.2
  simp -implicitDefEqProofs [hlt,hy]
  first|refine CallK.same (ho) rfl rfl ?_|refine CallQ.same (ho) rfl rfl ?_|refine CallQG.same _ (ho) rfl ?_|refine CallG.same _ (ho) rfl ?_|refine CallK.pv (ho) rfl rfl ?_
  simp -implicitDefEqProofs [hlt]
  refine Again.os (k+1) [0,1,2,3] hlt (by omega) ?_
  have hm:=mod_same Router.iv n.routers k y hg (fun x=>y.iv++x.drop 4) (fun x=>by simp)
  simp -implicitDefEqProofs at hm
  simp -implicitDefEqProofs [e1,hm]
 ·have hkk:k=n.routers.length:=by omega
  subst hkk
  simp -implicitDefEqProofs
  refine EndO.ret [2] [3] (.agg [.row 2,.row 3]) (by simp) ?_
  simp -implicitDefEqProofs
theorem placeN_spec (n:Net) (x:Int) (h:netOk n=true):FSpec Tryz.prog 254 [n.av,.int .i64 x] [] (.tup [.int .i64 (bsI (cmpT x) n.routers),.bool (bsF (cmpT x) n.routers)]) []:=by
 have hb:=bsT_spec n.routers x (upT_of (netOk_routers h).1 x)
 refine FSpec.of_flat (q:=[]) Tryz.func254 (by kernel_rfl) rfl Tryz.ntmps254 Tryz.results254 hP (by kernel_rfl) (by simp) (by first|rfl|simp) ?_
 simp -implicitDefEqProofs
 first|refine CallK.same (hb) rfl rfl ?_|refine CallQ.same (hb) rfl rfl ?_|refine CallQG.same _ (hb) rfl ?_|refine CallG.same _ (hb) rfl ?_|refine CallK.pv (hb) rfl rfl ?_
 simp -implicitDefEqProofs
@[simp] def webO (n:Net) (k:Nat):AObj:=.box 340 [.im (.sl 4 (n.seats.map Seat.iv)),.row k]
theorem total0_spec (x:Int) (b:Bool):FSpec Tryz.prog 224 [.im (.sl 4 [[.sc (.int .i64 x),.sc (.bool b),.sc (.slice none 0 0),.sc (.slice none 0 0)]])] [] (.int .i64 0) []:=by
 refine FSpec.of_flat (q:=[]) Tryz.func224 (by kernel_rfl) rfl Tryz.ntmps224 Tryz.results224 hP (by kernel_rfl) (by simp) (by first|rfl|simp) ?_
 simp
 refine LoopK.plain (fun g:Nat=>[(3,.int .i64 0),(6,.im (.sl 4 [[.sc (.int .i64 x),.sc (.bool b),.sc (.slice none 0 0),.sc (.slice none 0 0)]])),(7,.int .i64 1),(8,.int .i64 g)]) (fun g=>g≤1)
  (fun g=>1-g) 0 (Nat.zero_le _) (by simp) ?_
 intro k hk
 by_cases hlt:k=0
 ·subst hlt
  simp
  exact Again.plain 1 (Nat.le_refl _) (by omega) (by simp;decide)
 ·have:k=1:=by omega
  subst this
  simp
theorem wrapS {x:Int} (h0: -1000000≤x) (h1:x≤1000000):IntKind.i64.wrap x=x:=wrap64 (by omega) (by omega)
theorem happensF_zero {n:Net} {e:Ev} {hz:Int} (h:(happensF n e hz).2=0):mayS n.seats e hz=0∧(applyR (mineN n e) e).2=0∧¬1024<many (netAfter n e hz).routers 0:=by
 unfold happensF at h
 split at h
 ·rename_i h1;exact absurd h h1
 rename_i h1
 split at h
 ·rename_i h2;exact absurd h h2
 rename_i h2
 split at h
 ·cases h
 rename_i h3
 exact⟨by omega,by omega,h3⟩
theorem nextS_zero {l:List Seat} {e:Ev} {hz:Int} (h:mayS l e hz=0):nextS l e hz=(putSeat l (seatOf e),0):=by
 unfold nextS
 rw[if_neg (by omega),if_neg (by omega)]
set_option maxRecDepth 8000 in
set_option maxHeartbeats 4000000 in
theorem happenU_spec (n:Net) (e:Ev) (hz:Int) (hok:netOk n=true) (hsq:0≤e.seq) (hcase:bsF (cmpT e.router) n.routers=false→¬(happensF n e hz).2=0):
  FSpec Tryz.prog 222 [.ptr 0 0,e.av,.int .i64 hz] [webO n 1,.row 100 4 (n.routers.map Router.iv)] (.int .i64 (happensF n e hz).2) [webO (happensF n e hz).1 1,.row 100 4 ((happensF n e hz).1.routers.map Router.iv)]:=by
 have h1:=mayO_spec n.seats e hz hsq
 have h2:=placeN_spec n e.router hok
 have h4:=applyRo_spec (mineN n e) e hsq
 have h5:=nextO_spec n.seats e hz hsq
 have hfd:=mineN_found (e:=e) hok
 have hnw:=mineN_new (e:=e) hok
 have hset:=after_set (e:=e) (hz:=hz) hok
 have hma:=many_after (e:=e) (hz:=hz) hok
 have hmn:=netOk_many hok
 have hns:(netAfter n e hz).seats=(nextS n.seats e hz).1:=rfl
 have hns0:=nextS_zero (l:=n.seats) (e:=e) (hz:=hz)
 have hx:happensF n e hz=(if ¬mayS n.seats e hz=0 then(n,mayS n.seats e hz)
 else if ¬(applyR (mineN n e) e).2=0 then(n,(applyR (mineN n e) e).2)
 else if 1024<many (netAfter n e hz).routers 0 then(n,8)
 else(netAfter n e hz,0)):=rfl
 have hev:mayS n.seats e hz=0→evOk e=true:=fun h=>(mayS_zero h).2.1
 have htot:=total_spec n.routers
 have htotm:=total_spec [mineN n e]
 have hm1:many [mineN n e] 0=(many [] (IntKind.i64.wrap (0+IntKind.i64.wrap ((mineN n e).routes.length+(mineN n e).links.length)))):=rfl
 have hmle:sz (mineN n e)≤1000000→many [mineN n e] 0=(sz (mineN n e):Int):=by
  intro hle
  have:=many_sum [mineN n e] 0 (by simp[sumR];omega)
  simpa [sumR]using this
 clear hm1
 generalize netAfter n e hz=NA at*
 generalize happensF n e hz=RES at*
 generalize applyR (mineN n e) e=AR at*
 generalize nextS n.seats e hz=NX at*
 generalize bsI (cmpT e.router) n.routers=i at*
 refine FSpec.of_o (q:=[(1,.m [.p [] [],.p [] [],.p [] [],.p [] [],.p [] [],.p [] [],.p [] []]),(4,.m [.p [] [],.p [] [],.p [] [],.p [] [],.p [] [],.p [] [],.e [29,31],.p [] [],.p [] [],.p [] [],.p [] []]),(12,.m [.p [] [],.p [] [],.p [] [],.p [] [],.p [] [],.e [62],.p [0] [],.e [64],.p [] [],.p [0,1] [],.p [0,1] [],.p [0,1] [],.p [] [],.p [0,1] [],.p [0,1] [],.p [0,1] []]),(15,.m [.p [1,2] [],.p [1] [],.p [1] [],.p [1] [],.p [1] [],.p [1] [],.p [1] [],.p [] [],.e [85],.e [83,84,86]]),(16,.m [.p [] [],.p [] [],.p [] [],.p [] [],.p [] [],.p [] [],.p [] []]),(17,.m [.p [1] [],.p [] [],.p [] [],.p [] [],.p [] [],.p [] [],.p [] [],.p [] [],.e [105,106,107],.p [] [],.p [] [],.p [2] [],.p [] [],.p [] [],.p [] [],.e [113,109]])]) Tryz.func222 (by kernel_rfl) rfl Tryz.ntmps222 Tryz.results222 hP (by kernel_rfl) (by simp) (by first|rfl|simp) ?_
 simp -implicitDefEqProofs
 first|refine CallK.same (h1) rfl rfl ?_|refine CallQ.same (h1) rfl rfl ?_|refine CallQG.same _ (h1) rfl ?_|refine CallG.same _ (h1) rfl ?_|refine CallK.pv (h1) rfl rfl ?_
 simp -implicitDefEqProofs
 refine⟨fun h=>?_,fun a1=>?_⟩
 ·rw[if_pos h]at hx
  subst hx
  refine EndO.ret [] [0,1] (.int .i64 (mayS n.seats e hz)) (by simp) (by simp)
 rw[if_neg (by simp[a1])]at hx
 have he:=hev a1
 refine CallK.fz [1] h2 rfl (by simp) rfl ?_
 simp -implicitDefEqProofs
 cases hf:bsF (cmpT e.router) n.routers with
 |true=>
  have hg:=hfd hf
  obtain⟨hlt,hge⟩:=List.getElem?_eq_some_iff.1 hg
  simp -implicitDefEqProofs [hlt,hge]
  generalize mineN n e=M at*
  first|refine CallK.same (h4) rfl rfl ?_|refine CallQ.same (h4) rfl rfl ?_|refine CallQG.same _ (h4) rfl ?_|refine CallG.same _ (h4) rfl ?_|refine CallK.pv (h4) rfl rfl ?_
  simp -implicitDefEqProofs
  refine⟨fun h=>?_,fun b1=>?_⟩
  ·rw[if_pos h]at hx
   subst hx
   refine EndO.ret [] [0,1] (.int .i64 AR.2) (by simp) (by simp)
  rw[if_neg (by simp[b1])]at hx
  obtain⟨c1,c2,c3⟩:=hma a1 b1
  have d1:=hmle (by omega)
  refine CallK.fz [1] htot rfl (by simp) rfl ?_
  simp -implicitDefEqProofs
  refine CallK.fz [5] htotm rfl (by simp) rfl ?_
  have w1:IntKind.i64.wrap (many n.routers 0-many [M] 0)=(sumR n.routers:Int)-sz M:=by rw[hmn.1,d1];exact wrapS (by omega) (by omega)
  have w2:IntKind.i64.wrap ((sumR n.routers:Int)-sz M+AR.1.routes.length)=(sumR n.routers:Int)-sz M+AR.1.routes.length:=wrapS (by unfold sz at*;omega) (by unfold sz at*;omega)
  have w3:IntKind.i64.wrap ((sumR n.routers:Int)-sz M+AR.1.routes.length+AR.1.links.length)=many NA.routers 0:=by rw[wrapS (by unfold sz at*;omega) (by unfold sz at*;omega),c1];unfold sz;omega
  simp -implicitDefEqProofs [w1,w2,w3]
  refine⟨fun h=>?_,fun d3=>?_⟩
  ·rw[if_pos h]at hx
   subst hx
   refine EndO.ret [] [0,1] (.int .i64 8) (by simp) (by simp)
  rw[if_neg (by omega)]at hx
  have hs:=hset a1 hf
  have hmod:=mod_set Router.iv n.routers AR.1 i (fun x=>AR.1.iv++x.drop 4) (fun x=>by simp)
  rw[←hs]at hmod
  have hn0:=hns0 a1
  subst hn0
  subst hx
  simp -implicitDefEqProofs [hlt]
  first|refine CallK.same (h5) rfl rfl ?_|refine CallQ.same (h5) rfl rfl ?_|refine CallQG.same _ (h5) rfl ?_|refine CallG.same _ (h5) rfl ?_|refine CallK.pv (h5) rfl rfl ?_
  simp -implicitDefEqProofs
  refine EndO.ret [] [0,1] (.int .i64 0) (by simp) ?_
  rw[←hmod,hns]
  simp -implicitDefEqProofs
 |false=>
  have hg:=hnw he hf
  have hne:=hcase hf
  simp -implicitDefEqProofs
  generalize mineN n e=M at*
  refine CallK.v0 h4 rfl (by simp[hg]) rfl ?_
  simp -implicitDefEqProofs
  refine⟨fun h=>?_,fun b1=>?_⟩
  ·rw[if_pos h]at hx
   subst hx
   refine EndO.ret [] [0,1] (.int .i64 AR.2) (by simp) (by simp)
  rw[if_neg (by simp[b1])]at hx
  obtain⟨c1,c2,c3⟩:=hma a1 b1
  have d1:=hmle (by omega)
  have d2:sz M=0:=by rw[hg];rfl
  refine CallK.fz [1] htot rfl (by simp) rfl ?_
  simp -implicitDefEqProofs
  refine CallK.fz [5] (total0_spec e.router false) rfl (by simp) rfl ?_
  have w1:IntKind.i64.wrap (many n.routers 0)=(sumR n.routers:Int)-sz M:=by rw[hmn.1,wrapS (by omega) (by omega)];omega
  have w2:IntKind.i64.wrap ((sumR n.routers:Int)-sz M+AR.1.routes.length)=(sumR n.routers:Int)-sz M+AR.1.routes.length:=wrapS (by unfold sz at*;omega) (by unfold sz at*;omega)
  have w3:IntKind.i64.wrap ((sumR n.routers:Int)-sz M+AR.1.routes.length+AR.1.links.length)=many NA.routers 0:=by rw[wrapS (by unfold sz at*;omega) (by unfold sz at*;omega),c1];unfold sz;omega
  simp -implicitDefEqProofs [w1,w2,w3]
  refine⟨fun h=>?_,fun d3=>?_⟩
  ·rw[if_pos h]at hx
   subst hx
   refine EndO.ret [] [0,1] (.int .i64 8) (by simp) (by simp)
  ·rw[if_neg (by omega)]at hx
   subst hx
   exact absurd rfl hne
set_option maxRecDepth 8000 in
set_option maxHeartbeats 4000000 in
theorem happenI_spec (n:Net) (e:Ev) (hz:Int) (hok:netOk n=true) (hsq:0≤e.seq) (h0:(happensF n e hz).2=0) (hf:bsF (cmpT e.router) n.routers=false):
  FSpec Tryz.prog 222 [.ptr 0 0,e.av,.int .i64 hz] [webO n 1,.row 100 4 (n.routers.map Router.iv)] (.int .i64 (happensF n e hz).2) [webO (happensF n e hz).1 2,.gone,.row 100 4 ((happensF n e hz).1.routers.map Router.iv)]:=by
 have h1:=mayO_spec n.seats e hz hsq
 have h2:=placeN_spec n e.router hok
 have h4:=applyRo_spec (mineN n e) e hsq
 have h5:=nextO_spec n.seats e hz hsq
 have hfd:=mineN_found (e:=e) hok
 have hnw:=mineN_new (e:=e) hok
 obtain⟨a1,b1,d3⟩:=happensF_zero h0
 have hins:=after_ins (hz:=hz) hok a1 hf
 have hil:=bsI_le (cmpT e.router) n.routers
 have hma:=many_after (e:=e) (hz:=hz) hok
 have hmn:=netOk_many hok
 have hns:(netAfter n e hz).seats=(nextS n.seats e hz).1:=rfl
 have hns0:=nextS_zero (l:=n.seats) (e:=e) (hz:=hz)
 have hx:happensF n e hz=(if ¬mayS n.seats e hz=0 then(n,mayS n.seats e hz)
 else if ¬(applyR (mineN n e) e).2=0 then(n,(applyR (mineN n e) e).2)
 else if 1024<many (netAfter n e hz).routers 0 then(n,8)
 else(netAfter n e hz,0)):=rfl
 have hev:mayS n.seats e hz=0→evOk e=true:=fun h=>(mayS_zero h).2.1
 have htot:=total_spec n.routers
 have htotm:=total_spec [mineN n e]
 have hm1:many [mineN n e] 0=(many [] (IntKind.i64.wrap (0+IntKind.i64.wrap ((mineN n e).routes.length+(mineN n e).links.length)))):=rfl
 have hmle:sz (mineN n e)≤1000000→many [mineN n e] 0=(sz (mineN n e):Int):=by
  intro hle
  have:=many_sum [mineN n e] 0 (by simp[sumR];omega)
  simpa [sumR]using this
 clear hm1
 generalize netAfter n e hz=NA at*
 generalize happensF n e hz=RES at*
 generalize applyR (mineN n e) e=AR at*
 generalize nextS n.seats e hz=NX at*
 generalize bsI (cmpT e.router) n.routers=i at*
 refine FSpec.of_o (q:=[(1,.m [.p [] [],.p [] [],.p [] [],.p [] [],.p [] [],.p [] [],.p [] []]),(4,.m [.p [] [],.p [] [],.p [] [],.p [] [],.p [] [],.p [] [],.e [29,31],.p [] [],.p [] [],.p [] [],.p [] []]),(12,.m [.p [] [],.p [] [],.p [] [],.p [] [],.p [] [],.e [62],.p [0] [],.e [64],.p [] [],.p [0,1] [],.p [0,1] [],.p [0,1] [],.p [] [],.p [0,1] [],.p [0,1] [],.p [0,1] []]),(15,.m [.p [1,2] [],.p [1] [],.p [1] [],.p [1] [],.p [1] [],.p [1] [],.p [1] [],.p [] [],.e [85],.e [83,84,86]]),(16,.m [.p [] [],.p [] [],.p [] [],.p [] [],.p [] [],.p [] [],.p [] []]),(17,.m [.p [1] [],.p [] [],.p [] [],.p [] [],.p [] [],.p [] [],.p [] [],.p [] [],.e [105,106,107],.p [] [],.p [] [],.p [2] [],.p [] [],.p [] [],.p [] [],.e [113,109]])]) Tryz.func222 (by kernel_rfl) rfl Tryz.ntmps222 Tryz.results222 hP (by kernel_rfl) (by simp) (by first|rfl|simp) ?_
 simp -implicitDefEqProofs
 first|refine CallK.same (h1) rfl rfl ?_|refine CallQ.same (h1) rfl rfl ?_|refine CallQG.same _ (h1) rfl ?_|refine CallG.same _ (h1) rfl ?_|refine CallK.pv (h1) rfl rfl ?_
 rw[if_neg (by simp[a1])]at hx
 rw[if_neg (by simp[b1]),if_neg d3]at hx
 simp -implicitDefEqProofs [a1]
 have he:=hev a1
 refine CallK.fz [1] h2 rfl (by simp) rfl ?_
 simp -implicitDefEqProofs [hf]
 have hg:=hnw he hf
 generalize mineN n e=M at*
 refine CallK.v0 h4 rfl (by simp[hg]) rfl ?_
 simp -implicitDefEqProofs [b1]
 obtain⟨c1,c2,c3⟩:=hma a1 b1
 have d1:=hmle (by omega)
 have d2:sz M=0:=by rw[hg];rfl
 refine CallK.fz [1] htot rfl (by simp) rfl ?_
 simp -implicitDefEqProofs
 refine CallK.fz [5] (total0_spec e.router false) rfl (by simp) rfl ?_
 have w1:IntKind.i64.wrap (many n.routers 0)=(sumR n.routers:Int)-sz M:=by rw[hmn.1,wrapS (by omega) (by omega)];omega
 have w2:IntKind.i64.wrap ((sumR n.routers:Int)-sz M+AR.1.routes.length)=(sumR n.routers:Int)-sz M+AR.1.routes.length:=wrapS (by unfold sz at*;omega) (by unfold sz at*;omega)
 have w3:IntKind.i64.wrap ((sumR n.routers:Int)-sz M+AR.1.routes.length+AR.1.links.length)=many NA.routers 0:=by rw[wrapS (by unfold sz at*;omega) (by unfold sz at*;omega),c1];unfold sz;omega
 simp -implicitDefEqProofs [w1,w2,w3,d3]
 have hgi:NA.routers[i]? =some AR.1:=by rw[hins,List.getElem?_append_right (by simp;omega)];simp[Nat.min_eq_left hil]
 have hlt:i<NA.routers.length:=(List.getElem?_eq_some_iff.1 hgi).1
 have hil2:=netOk_len hok
 have hi:=insRouter_spec (n.routers.map Router.iv) AR.1.iv i (by simpa using hil) (by simp;omega)
 have hrow:NA.routers.map Router.iv=(n.routers.map Router.iv).take i++AR.1.iv::(n.routers.map Router.iv).drop i:=by
  rw[hins,List.map_append,List.map_cons,List.map_take,List.map_drop]
 rw[←hrow]at hi
 have hmod:=mod_same Router.iv NA.routers i AR.1 hgi (fun x=>AR.1.iv++x.drop 4) (fun x=>by simp)
 have hn0:=hns0 a1
 subst hn0
 subst hx
 refine CallO.mk [] [1,6] hi (by simp) rfl (by simp) (by simp) (by simp) ?_
 simp -implicitDefEqProofs [hlt]
 first|refine CallK.same (h5) rfl rfl ?_|refine CallQ.same (h5) rfl rfl ?_|refine CallQG.same _ (h5) rfl ?_|refine CallG.same _ (h5) rfl ?_|refine CallK.pv (h5) rfl rfl ?_
 simp -implicitDefEqProofs
 refine EndO.ret [] [0,1,7] (.int .i64 0) (by simp) ?_
 simp -implicitDefEqProofs at hmod
 rw[hns]
 simp -implicitDefEqProofs [hmod]
end Go.Am
namespace Go.Am
open Go.Proofs
theorem happensF_keep {n:Net} {e:Ev} {hz:Int} (h:¬(happensF n e hz).2=0):(happensF n e hz).1=n:=by
 unfold happensF at h⊢
 repeat' split
 all_goals first
  |rfl
  |skip
 rename_i h1 h2 h3
 rw[if_neg h1,if_neg h2,if_neg h3]at h
 exact absurd rfl h
theorem odd_spec (w:Int):FSpec Tryz.prog 303 [.int .i64 w] [] (.bool (w==2||w==1)) []:=by
 refine FSpec.of_flat (q:=[]) Tryz.func303 (by kernel_rfl) rfl Tryz.ntmps303 Tryz.results303 hP (by kernel_rfl) (by simp) (by first|rfl|simp) ?_
 simp -implicitDefEqProofs
theorem sizeNo_spec (n:Net):FSpec Tryz.prog 158 [n.av] [] (.tup [.int .i64 (sizeN n),.int .i64 (if netOk n then 0 else 2)]) []:=by
 have h1:=checkN_spec n
 have h2:=total_spec n.routers
 refine FSpec.of_z (q:=[]) Tryz.func158 (by kernel_rfl) rfl Tryz.ntmps158 Tryz.results158 hP (by kernel_rfl) (by simp) (by first|rfl|simp) ?_
 simp -implicitDefEqProofs
 first|refine CallK.same (h1) rfl rfl ?_|refine CallQ.same (h1) rfl rfl ?_|refine CallQG.same _ (h1) rfl ?_|refine CallG.same _ (h1) rfl ?_|refine CallK.pv (h1) rfl rfl ?_
 simp -implicitDefEqProofs
 unfold sizeN
 cases hn:netOk n with
 |false=>
  simp -implicitDefEqProofs
  refine EndZ.ret [] (.tup [.int .i64 0,.int .i64 2]) (by simp) ?_
  simp
 |true=>
  simp -implicitDefEqProofs
  first|refine CallK.same (h2) rfl rfl ?_|refine CallQ.same (h2) rfl rfl ?_|refine CallQG.same _ (h2) rfl ?_|refine CallG.same _ (h2) rfl ?_|refine CallK.pv (h2) rfl rfl ?_
  simp -implicitDefEqProofs
  refine EndZ.ret [] (.tup [.int .i64 (many n.routers 0),.int .i64 0]) (by simp) ?_
  simp
set_option maxRecDepth 8000 in
set_option maxHeartbeats 2000000 in
theorem applyNo_spec (n:Net) (e:Ev) (hz:Int) (hsq:0≤e.seq):
  FSpec Tryz.prog 251 [n.av,e.av,.int .i64 hz] [] (.tup [(applyN n e hz).1.av,.int .i64 (applyN n e hz).2]) []:=by
 have h1:=checkN_spec n
 refine FSpec.of_z (q:=[]) Tryz.func251 (by kernel_rfl) rfl Tryz.ntmps251 Tryz.results251 hP (by kernel_rfl) (by simp) (by first|rfl|simp) ?_
 simp -implicitDefEqProofs
 first|refine CallK.same (h1) rfl rfl ?_|refine CallQ.same (h1) rfl rfl ?_|refine CallQG.same _ (h1) rfl ?_|refine CallG.same _ (h1) rfl ?_|refine CallK.pv (h1) rfl rfl ?_
 simp -implicitDefEqProofs
 unfold applyN
 cases hn:netOk n with
 |false=>
  simp -implicitDefEqProofs
  refine EndZ.ret [] (.tup [.agg [.im (.sc (.slice none 0 0)),.im (.sc (.slice none 0 0))],.int .i64 2]) (by simp) ?_
  simp -implicitDefEqProofs
 |true=>
  have h2:=ownN_spec n hn
  have hU:=happenU_spec n e hz hn hsq
  have hI:=happenI_spec n e hz hn hsq
  generalize happensF n e hz=RES at*
  have ho:=odd_spec RES.2
  simp -implicitDefEqProofs
  refine CallK.outs [] h2 rfl (by simp) (by simp[AV.flat]) ?_
  simp -implicitDefEqProofs
  by_cases hc:bsF (cmpT e.router) n.routers=false∧RES.2=0
  ·refine CallO.mk [] [4,3] (hI hc.2 hc.1) (by simp) rfl (by simp) (by simp) (by simp) ?_
   simp -implicitDefEqProofs
   first|refine CallK.same (ho) rfl rfl ?_|refine CallQ.same (ho) rfl rfl ?_|refine CallQG.same _ (ho) rfl ?_|refine CallG.same _ (ho) rfl ?_|refine CallK.pv (ho) rfl rfl ?_
   simp -implicitDefEqProofs [hc.2]
   refine EndZ.ret [5] (.tup [.agg [.im (.sl 4 (RES.1.seats.map Seat.iv)),.row 5],.int .i64 0]) (by simp[hc.2]) ?_
   simp -implicitDefEqProofs [hc.2]
  ·refine CallO.mk [] [4,3] (hU fun hf h0=>hc ⟨hf,h0⟩) (by simp) rfl (by simp) (by simp) (by simp) ?_
   simp -implicitDefEqProofs
   first|refine CallK.same (ho) rfl rfl ?_|refine CallQ.same (ho) rfl rfl ?_|refine CallQG.same _ (ho) rfl ?_|refine CallG.same _ (ho) rfl ?_|refine CallK.pv (ho) rfl rfl ?_
   simp -implicitDefEqProofs
   refine⟨fun h=>?_,fun b1 b2=>?_⟩
   ·refine EndZ.ret [] (.tup [.agg [.im (.sc (.slice none 0 0)),.im (.sc (.slice none 0 0))],.int .i64 RES.2]) (by simp) ?_
    simp -implicitDefEqProofs [h]
   ·refine EndZ.ret [3] (.tup [.agg [.im (.sl 4 (RES.1.seats.map Seat.iv)),.row 3],.int .i64 RES.2]) (by simp) ?_
    simp -implicitDefEqProofs [b1,b2]
set_option maxRecDepth 8000 in
set_option maxHeartbeats 2000000 in
theorem allNo_spec (n:Net) (l:List Ev) (hz:Int) (hew:∀e∈l,0≤e.seq):
  FSpec Tryz.prog 156 [n.av,.im (.sl 12 (l.map Ev.iv)),.int .i64 hz] [] (.tup [(allN n l hz).1.av,.int .i64 (allN n l hz).2.1,.int .i64 (allN n l hz).2.2]) []:=by
 refine FSpec.bd (enters_of Tryz.func156 (by kernel_rfl) rfl) fun hbd=>?_
 have hl:l.length≤9223372036854775807:=by simp[maxLen]at hbd;exact hbd.2
 clear hbd
 have h1:=checkN_spec n
 refine FSpec.of_z (q:=[]) Tryz.func156 (by kernel_rfl) rfl Tryz.ntmps156 Tryz.results156 hP (by kernel_rfl) (by simp) (by first|rfl|simp) ?_
 simp -implicitDefEqProofs
 first|refine CallK.same (h1) rfl rfl ?_|refine CallQ.same (h1) rfl rfl ?_|refine CallQG.same _ (h1) rfl ?_|refine CallG.same _ (h1) rfl ?_|refine CallK.pv (h1) rfl rfl ?_
 simp -implicitDefEqProofs
 unfold allN
 cases hn:netOk n with
 |false=>
  simp -implicitDefEqProofs
  refine EndZ.ret [] (.tup [.agg [.im (.sc (.slice none 0 0)),.im (.sc (.slice none 0 0))],.int .i64 0,.int .i64 2]) (by simp) ?_
  simp -implicitDefEqProofs
 |true=>
  have h2:=ownN_spec n hn
  simp -implicitDefEqProofs
  refine CallK.outs [] h2 rfl (by simp) (by simp[AV.flat]) ?_
  simp -implicitDefEqProofs
  generalize hRES:allGo hz l n 0=RES at*
  refine LoopK.os (fun g:Nat×Net=>[(1,.im (.sl 12 (l.map Ev.iv))),(2,.int .i64 hz),(6,.ptr 0 0),(10,.ptr 1 0),(24,.im (.sl 12 (l.map Ev.iv))),(25,.int .i64 l.length),(26,.int .i64 g.1)])
   (fun g=>[.box 25 [.im (.sc (.slice none 0 0)),.im (.sc (.slice none 0 0))],webO g.2 2,.row 100 4 (g.2.routers.map Router.iv)])
   (fun g=>g.1≤l.length∧netOk g.2=true∧allGo hz (l.drop g.1) g.2 g.1=RES) (fun g=>l.length-g.1) (0,n) [1,3,2] ⟨Nat.zero_le _,hn,by simpa using hRES⟩ (by simp) ?_
  rintro⟨k,N⟩ ⟨hk,hNo,hR⟩
  simp only at hk hNo hR
  by_cases hlt:k<l.length
  ·have e1:IntKind.i64.wrap (k+1)=(k+1:Nat):=wrap64 (by omega) (by omega)
   rw[List.drop_eq_getElem_cons hlt,allGo]at hR
   have hem:=hew l[k] (List.getElem_mem _)
   generalize hE:l[k]=E at*
   have hU:=happenU_spec N E hz hNo hem
   have hI:=happenI_spec N E hz hNo hem
   have hok2:=happensF_ok (e:=E) (hz:=hz) hNo
   have hkeep:=happensF_keep (n:=N) (e:=E) (hz:=hz)
   generalize happensF N E hz=HS at*
   simp -implicitDefEqProofs [hlt,hE]
   by_cases hc:bsF (cmpT E.router) N.routers=false∧HS.2=0
   ·refine CallO.mk [] [1,2] (hI hc.2 hc.1) (by simp) rfl (by simp) (by simp) (by simp) ?_
    simp -implicitDefEqProofs [hc.2]
    rw[if_pos hc.2]at hR
    refine Again.os (k+1,HS.1) [0,1,4] ⟨hlt,hok2,by simpa using hR⟩ (by show l.length-(k+1)<l.length-k;omega) ?_
    simp -implicitDefEqProofs [e1]
   ·refine CallO.mk [] [1,2] (hU fun hf h0=>hc ⟨hf,h0⟩) (by simp) rfl (by simp) (by simp) (by simp) ?_
    simp -implicitDefEqProofs
    refine⟨fun h=>?_,fun h=>?_⟩
    ·rw[if_neg h]at hR
     refine EndZ.ret [2] (.tup [.agg [.im (.sl 4 (HS.1.seats.map Seat.iv)),.row 2],.int .i64 k,.int .i64 HS.2]) (by simp) ?_
     simp -implicitDefEqProofs [←hR,hkeep h]
    ·rw[if_pos h]at hR
     refine Again.os (k+1,HS.1) [0,1,2] ⟨hlt,hok2,by simpa using hR⟩ (by show l.length-(k+1)<l.length-k;omega) ?_
     simp -implicitDefEqProofs [e1]
  ·have hkk:k=l.length:=by omega
   subst hkk
   rw[List.drop_length,allGo]at hR
   simp -implicitDefEqProofs
   refine EndZ.ret [2] (.tup [.agg [.im (.sl 4 (N.seats.map Seat.iv)),.row 2],.int .i64 l.length,.int .i64 0]) (by simp) ?_
   simp -implicitDefEqProofs [←hR]
end Go.Am
namespace Go.Am
open Go.Proofs
@[simp] def pastO (p:Past):AObj:=.box 28 [.im (.sl 4 (p.base.seats.map Seat.iv)),.im (.sl 4 (p.base.routers.map Router.iv)),.int .i64 p.hz,.im (.sl 12 (p.evs.map Ev.iv))]
@[simp] def bookO (p:Past) (now:Net) (w:Int) (k:Nat):AObj:=.box 262 [.im (.sl 4 (p.base.seats.map Seat.iv)),.im (.sl 4 (p.base.routers.map Router.iv)),.int .i64 p.hz,.row k,.im (.sl 4 (now.seats.map Seat.iv)),.im (.sl 4 (now.routers.map Router.iv)),.int .i64 w]
@[simp] def evsO (l:List Ev):AObj:=.row 79 12 (l.map Ev.iv)
def lateI:List Seat→Int→Int→Int
 |[],_,_=> -1
 |s::l,h,k=>if h<s.time then k else lateI l h (k+1)
theorem lateI_any:∀(l:List Seat) (h k:Int),0≤k→(0≤lateI l h k↔(l.any fun s=>decide (h<s.time))=true)
 |[],h,k,_=>by simp[lateI]
 |s::l,h,k,hk=>by
  rw[lateI]
  split
  ·rename_i h1
   simp[h1,hk]
  ·rename_i h1
   rw[lateI_any l h (k+1) (by omega)]
   simp[h1]
theorem late1_spec (p:Past) (s:Seat):FSpec Tryz.prog 155 [s.av,.ptr 0 0] [pastO p] (.bool (decide (p.hz<s.time))) [pastO p]:=by
 refine FSpec.of_o (q:=[]) Tryz.func155 (by kernel_rfl) rfl Tryz.ntmps155 Tryz.results155 hP (by kernel_rfl) (by simp) (by first|rfl|simp) ?_
 simp
 refine EndO.ret [] [0] _ rfl ?_
 simp
theorem lateI_spec (p:Past) (l:List Seat) (hl:l.length≤9223372036854775807):
  FSpec Tryz.prog 220 [.im (.sl 4 (l.map Seat.iv)),.fn 155 [.ptr 0 0]] [pastO p] (.int .i64 (lateI l p.hz 0)) [pastO p]:=by
 refine FSpec.of_o (q:=[]) Tryz.func220 (by kernel_rfl) rfl Tryz.ntmps220 Tryz.results220 hP (by kernel_rfl) (by simp) (by first|rfl|simp) ?_
 simp
 refine LoopK.os (fun k:Nat=>[(0,.im (.sl 4 (l.map Seat.iv))),(1,.fn 155 [.ptr 0 0]),(7,.int .i64 l.length),(8,.int .i64 k)])
  (fun _=>[pastO p])
  (fun k=>k≤l.length∧lateI (l.drop k) p.hz k=lateI l p.hz 0) (fun k=>l.length-k) 0 [0] ⟨Nat.zero_le _,by simp⟩ (by simp) ?_
 rintro k ⟨hk,hR⟩
 by_cases hlt:k<l.length
 ·have e1:IntKind.i64.wrap (k+1)=(k+1:Nat):=wrap64 (by omega) (by omega)
  rw[List.drop_eq_getElem_cons hlt,lateI]at hR
  simp -implicitDefEqProofs [hlt,e1]
  refine CallO.mk [] [0] (late1_spec p l[k]) (by simp) rfl (by simp) (by simp) (by simp) ?_
  simp -implicitDefEqProofs
  refine⟨fun h=>?_,fun h=>?_⟩
  ·rw[if_pos h]at hR
   refine EndO.ret [] [0] _ rfl ?_
   simp[←hR]
  ·rw[if_neg (by omega)]at hR
   refine Again.os (k+1) [0] ⟨hlt,by simpa using hR⟩ (by omega) ?_
   simp[e1]
 ·have hkk:k=l.length:=by omega
  subst hkk
  rw[List.drop_length,lateI]at hR
  simp
  refine EndO.ret [] [0] _ rfl ?_
  simp[←hR]
theorem late_spec (p:Past) (l:List Seat):
  FSpec Tryz.prog 154 [.im (.sl 4 (l.map Seat.iv)),.fn 155 [.ptr 0 0]] [pastO p] (.bool (l.any fun s=>decide (p.hz<s.time))) [pastO p]:=by
 refine FSpec.bd (enters_of Tryz.func154 (by kernel_rfl) rfl) fun hbd=>?_
 have hl:l.length≤9223372036854775807:=by simp[maxLen]at hbd;exact hbd
 refine FSpec.of_o (q:=[]) Tryz.func154 (by kernel_rfl) rfl Tryz.ntmps154 Tryz.results154 hP (by kernel_rfl) (by simp) (by first|rfl|simp) ?_
 simp
 refine CallO.mk [] [0] (lateI_spec p l hl) (by simp) rfl (by simp) (by simp) (by simp) ?_
 have hb:=lateI_any l p.hz 0 (Int.le_refl _)
 have hb':decide (0≤lateI l p.hz 0)=(l.any fun s=>decide (p.hz<s.time)):=by
  cases h:(l.any fun s=>decide (p.hz<s.time))<;>simp[h]at hb⊢<;>omega
 rw[←hb']
 simp -implicitDefEqProofs
 refine EndO.ret [] [0] _ rfl ?_
 simp
theorem grows_spec (e:Ev):FSpec Tryz.prog 159 [e.av] [] (.bool (e.kind==3||e.kind==5)) []:=by
 refine FSpec.of_flat (q:=[]) Tryz.func159 (by kernel_rfl) rfl Tryz.ntmps159 Tryz.results159 hP (by kernel_rfl) (by simp) (by first|rfl|simp) ?_
 simp -implicitDefEqProofs
set_option maxRecDepth 8000 in
theorem ownP_spec (p:Past) (h:netOk p.base=true) (hl:p.evs.length≤4096):FSpec Tryz.prog 157 [p.av] [] (.agg [.im (.sl 4 (p.base.seats.map Seat.iv)),.im (.sl 4 (p.base.routers.map Router.iv)),.int .i64 p.hz,.row 0]) [evsO p.evs]:=by
 have h1:=ownN_spec p.base h
 have h2:=cloEvent_spec (p.evs.map Ev.iv) (by simpa using hl)
 refine FSpec.of_o (q:=[(1,.m [.p [] [],.p [] [],.e [4],.p [0,2] [],.p [0,2] [],.p [0] [],.p [0] [],.e [9]])]) Tryz.func157 (by kernel_rfl) rfl Tryz.ntmps157 Tryz.results157 hP (by kernel_rfl) (by simp) (by first|rfl|simp) ?_
 simp -implicitDefEqProofs
 refine CallK.outs [] h1 rfl (by simp) (by simp[AV.flat]) ?_
 simp -implicitDefEqProofs
 refine CallK.outs [] h2 rfl (by simp) (by simp[AV.flat]) ?_
 simp -implicitDefEqProofs
 refine EndO.ret [2] [3] (.agg [.im (.sl 4 (p.base.seats.map Seat.iv)),.row 2,.int .i64 p.hz,.row 3]) (by simp) ?_
 simp -implicitDefEqProofs
def okP (p:Past):Bool:=decide (-1≤p.hz)&&decide (p.hz≤1099511627776)&&decide (p.evs.length≤1024)&&!(p.base.seats.any fun s=>decide (p.hz<s.time))&&decide ((allN p.base p.evs p.hz).2.2=0)&&decide (weightF p≤1024)
def nowP (p:Past):Net:=(allN p.base p.evs p.hz).1
set_option maxRecDepth 8000 in
set_option maxHeartbeats 2000000 in
theorem openY_spec (p:Past) (hew:∀e∈p.evs,0≤e.seq) (hok:okP p=true):
  FSpec Tryz.prog 83 [p.av] [] (.tup [.ptr 0 0,.int .i64 0]) [bookO p (nowP p) (weightF p) 1,evsO p.evs]:=by
 have h1:=late_spec p p.base.seats
 have h2:=allNo_spec p.base p.evs p.hz hew
 have h3:=sizeNo_spec p.base
 have hb:=sizeN_bd p.base
 unfold nowP
 unfold okP at hok
 simp only[Bool.and_eq_true,decide_eq_true_eq,Bool.not_eq_true']at hok
 obtain⟨⟨⟨⟨⟨k1,k2⟩,k3⟩,k4⟩,k5⟩,k6⟩:=hok
 have hn:netOk p.base=true:=by
  cases hn:netOk p.base with
  |true=>rfl
  |false=>unfold allN at k5;rw[if_pos hn]at k5;cases k5
 have h4:=ownP_spec p hn (by omega)
 rw[k4]at h1
 rw[k5]at h2
 generalize allN p.base p.evs p.hz=RES at*
 have j1:¬p.hz< -1:=by omega
 have j2:¬1099511627776<p.hz:=by omega
 have j3:¬1024<(p.evs.length:Int):=by omega
 refine FSpec.of_o (q:=[(8,.m [.p [] [],.e [42],.p [0] []])]) Tryz.func83 (by kernel_rfl) rfl Tryz.ntmps83 Tryz.results83 hP (by kernel_rfl) (by simp) (by first|rfl|simp) ?_
 simp -implicitDefEqProofs [j1,j2,j3]
 refine CallO.mk [] [0] h1 (by simp) rfl (by simp) (by simp) (by simp) ?_
 simp -implicitDefEqProofs
 first|refine CallK.same (h2) rfl rfl ?_|refine CallQ.same (h2) rfl rfl ?_|refine CallQG.same _ (h2) rfl ?_|refine CallG.same _ (h2) rfl ?_|refine CallK.pv (h2) rfl rfl ?_
 simp -implicitDefEqProofs
 refine CallK.outs [] h4 rfl (by simp) (by simp[AV.flat]) ?_
 simp -implicitDefEqProofs
 first|refine CallK.same (h3) rfl rfl ?_|refine CallQ.same (h3) rfl rfl ?_|refine CallQG.same _ (h3) rfl ?_|refine CallG.same _ (h3) rfl ?_|refine CallK.pv (h3) rfl rfl ?_
 simp -implicitDefEqProofs
 have hw:weightF p=sizeN p.base+addsE p.evs:=rfl
 generalize sizeN p.base=z at*
 refine LoopK.os (fun k:Nat=>[(7,.ptr 0 0),(57,.im (.sl 12 (p.evs.map Ev.iv))),(58,.int .i64 p.evs.length),(59,.int .i64 k)])
  (fun k=>[bookO p RES.1 (z+addsE (p.evs.take k)) 1,evsO p.evs])
  (fun k=>k≤p.evs.length) (fun k=>p.evs.length-k) 0 [3,2] (Nat.zero_le _) (by simp[addsE]) ?_
 intro k hk
 by_cases hlt:k<p.evs.length
 ·have e1:IntKind.i64.wrap (k+1)=(k+1:Nat):=wrap64 (by omega) (by omega)
  have ht:=addsE_take p.evs k hlt
  have hn:=addsE_len (p.evs.take k)
  rw[List.length_take]at hn
  have e2:IntKind.i64.wrap (z+(addsE (p.evs.take k):Int)+1)=z+(addsE (p.evs.take k):Int)+1:=wrap64 (by omega) (by omega)
  obtain⟨E,hE⟩:∃E,p.evs[k]=E:=⟨_,rfl⟩
  rw[hE]at ht
  have hg:=grows_spec E
  simp -implicitDefEqProofs [hlt,hE]
  first|refine CallK.same (hg) rfl rfl ?_|refine CallQ.same (hg) rfl rfl ?_|refine CallQG.same _ (hg) rfl ?_|refine CallG.same _ (hg) rfl ?_|refine CallK.pv (hg) rfl rfl ?_
  simp -implicitDefEqProofs
  refine⟨fun h=>?_,fun h1 h2=>?_⟩
  ·rw[if_pos h]at ht
   refine Again.os (k+1) [0,1] hlt (by omega) ?_
   simp -implicitDefEqProofs [e1,e2,ht]
   omega
  ·rw[if_neg (by simp[h1,h2])]at ht
   refine Again.os (k+1) [0,1] hlt (by omega) ?_
   simp -implicitDefEqProofs [e1,ht]
 ·have hkk:k=p.evs.length:=by omega
  subst hkk
  have j4:¬1024<z+(addsE p.evs:Int):=by omega
  simp -implicitDefEqProofs [j4]
  refine EndO.ret [] [0,1] (.tup [.ptr 0 0,.int .i64 0]) (by simp) ?_
  simp -implicitDefEqProofs [hw]
set_option maxRecDepth 8000 in
set_option maxHeartbeats 2000000 in
theorem openN_spec (p:Past) (hew:∀e∈p.evs,0≤e.seq) (hok:okP p=false):
  FSpec Tryz.prog 83 [p.av] [] (.tup [.im (.sc (.pointer none)),.int .i64 2]) []:=by
 have h1:=late_spec p p.base.seats
 have h2:=allNo_spec p.base p.evs p.hz hew
 have h3:=sizeNo_spec p.base
 have hb:=sizeN_bd p.base
 unfold okP at hok
 obtain⟨B,hB⟩:∃B,(p.base.seats.any fun s=>decide (p.hz<s.time))=B:=⟨_,rfl⟩
 rw[hB]at h1 hok
 refine FSpec.of_z (q:=[(8,.m [.p [] [],.e [42],.p [0] []])]) Tryz.func83 (by kernel_rfl) rfl Tryz.ntmps83 Tryz.results83 hP (by kernel_rfl) (by simp) (by first|rfl|simp) ?_
 simp -implicitDefEqProofs
 refine⟨fun h=>?_,fun j1 j2 j3=>?_⟩
 ·refine EndZ.ret [] (.tup [.im (.sc (.pointer none)),.int .i64 2]) (by simp) (by simp)
 refine CallO.mk [] [0] h1 (by simp) rfl (by simp) (by simp) (by simp) ?_
 simp -implicitDefEqProofs
 cases B with
 |true=>
  simp -implicitDefEqProofs
  refine EndZ.ret [] (.tup [.im (.sc (.pointer none)),.int .i64 2]) (by simp) (by simp)
 |false=>
 simp -implicitDefEqProofs
 first|refine CallK.same (h2) rfl rfl ?_|refine CallQ.same (h2) rfl rfl ?_|refine CallQG.same _ (h2) rfl ?_|refine CallG.same _ (h2) rfl ?_|refine CallK.pv (h2) rfl rfl ?_
 have hn0:(allN p.base p.evs p.hz).2.2=0→netOk p.base=true:=fun h=>by
  cases hn:netOk p.base with
  |true=>rfl
  |false=>unfold allN at h;rw[if_pos hn]at h;cases h
 have hk:(allN p.base p.evs p.hz).2.2=0→¬weightF p≤1024:=fun h h'=>by
  simp[h,h']at hok
  omega
 generalize allN p.base p.evs p.hz=RES at*
 simp -implicitDefEqProofs
 refine⟨fun h=>?_,fun k5=>?_⟩
 ·refine EndZ.ret [] (.tup [.im (.sc (.pointer none)),.int .i64 2]) (by simp) (by simp)
 have hn:=hn0 k5
 have k6:=hk k5
 have k3:p.evs.length≤1024:=by omega
 have h4:=ownP_spec p hn (by omega)
 refine CallK.outs [] h4 rfl (by simp) (by simp[AV.flat]) ?_
 simp -implicitDefEqProofs
 first|refine CallK.same (h3) rfl rfl ?_|refine CallQ.same (h3) rfl rfl ?_|refine CallQG.same _ (h3) rfl ?_|refine CallG.same _ (h3) rfl ?_|refine CallK.pv (h3) rfl rfl ?_
 simp -implicitDefEqProofs
 have hw:weightF p=sizeN p.base+addsE p.evs:=rfl
 generalize sizeN p.base=z at*
 refine LoopK.os (fun k:Nat=>[(7,.ptr 0 0),(57,.im (.sl 12 (p.evs.map Ev.iv))),(58,.int .i64 p.evs.length),(59,.int .i64 k)])
  (fun k=>[bookO p RES.1 (z+addsE (p.evs.take k)) 1,evsO p.evs])
  (fun k=>k≤p.evs.length) (fun k=>p.evs.length-k) 0 [3,2] (Nat.zero_le _) (by simp[addsE]) ?_
 intro k hk
 by_cases hlt:k<p.evs.length
 ·have e1:IntKind.i64.wrap (k+1)=(k+1:Nat):=wrap64 (by omega) (by omega)
  have ht:=addsE_take p.evs k hlt
  have hn:=addsE_len (p.evs.take k)
  rw[List.length_take]at hn
  have e2:IntKind.i64.wrap (z+(addsE (p.evs.take k):Int)+1)=z+(addsE (p.evs.take k):Int)+1:=wrap64 (by omega) (by omega)
  obtain⟨E,hE⟩:∃E,p.evs[k]=E:=⟨_,rfl⟩
  rw[hE]at ht
  have hg:=grows_spec E
  simp -implicitDefEqProofs [hlt,hE]
  first|refine CallK.same (hg) rfl rfl ?_|refine CallQ.same (hg) rfl rfl ?_|refine CallQG.same _ (hg) rfl ?_|refine CallG.same _ (hg) rfl ?_|refine CallK.pv (hg) rfl rfl ?_
  simp -implicitDefEqProofs
  refine⟨fun h=>?_,fun h1 h2=>?_⟩
  ·rw[if_pos h]at ht
   refine Again.os (k+1) [0,1] hlt (by omega) ?_
   simp -implicitDefEqProofs [e1,e2,ht]
   omega
  ·rw[if_neg (by simp[h1,h2])]at ht
   refine Again.os (k+1) [0,1] hlt (by omega) ?_
   simp -implicitDefEqProofs [e1,ht]
 ·have hkk:k=p.evs.length:=by omega
  subst hkk
  have j4:1024<z+(addsE p.evs:Int):=by omega
  simp -implicitDefEqProofs [j4]
  refine EndZ.ret [] (.tup [.im (.sc (.pointer none)),.int .i64 2]) (by simp) (by simp)
end Go.Am
namespace Go.Am
open Go.Proofs
theorem checkP_spec_ (p:Past) (hew:∀e∈p.evs,0≤e.seq):FSpec Tryz.prog 55 [p.av] [] (.int .i64 (if okP p then 0 else 2)) []:=by
 refine FSpec.of_z (q:=[]) Tryz.func55 (by kernel_rfl) rfl Tryz.ntmps55 Tryz.results55 hP (by kernel_rfl) (by simp) (by first|rfl|simp) ?_
 simp -implicitDefEqProofs
 cases hok:okP p with
 |true=>
  refine CallK.outs [] (openY_spec p hew hok) rfl (by simp) (by simp[AV.flat]) ?_
  simp -implicitDefEqProofs
  refine EndZ.ret [] (.int .i64 0) (by simp) (by simp)
 |false=>
  first|refine CallK.same (openN_spec p hew hok) rfl rfl ?_|refine CallQ.same (openN_spec p hew hok) rfl rfl ?_|refine CallQG.same _ (openN_spec p hew hok) rfl ?_|refine CallG.same _ (openN_spec p hew hok) rfl ?_|refine CallK.pv (openN_spec p hew hok) rfl rfl ?_
  simp -implicitDefEqProofs
  refine EndZ.ret [] (.int .i64 2) (by simp) (by simp)
theorem makePo_spec:FSpec Tryz.prog 112 [] [] (⟨⟨[],[]⟩,-1,[]⟩:Past).av []:=by
 refine FSpec.of_z (q:=[]) Tryz.func112 (by kernel_rfl) rfl Tryz.ntmps112 Tryz.results112 hP (by kernel_rfl) (by simp) (by first|rfl|simp) ?_
 simp -implicitDefEqProofs
 refine EndZ.ret [] (.agg [.im (.sc (.slice none 0 0)),.im (.sc (.slice none 0 0)),.int .i64 (-1),.im (.sc (.slice none 0 0))]) (by simp) ?_
 simp -implicitDefEqProofs
def net0:Net:=⟨[],[]⟩
def after (t:Int) (l:List Ev):List Ev:=l.filter fun e=>decide (t<e.time)
theorem after_len (t:Int) (l:List Ev):(after t l).length≤l.length:=List.length_filter_le _ _
theorem after_take (t:Int) (l:List Ev) (k:Nat) (h:k<l.length):after t (l.take (k+1))=if t<l[k].time then after t (l.take k)++[l[k]]else after t (l.take k):=by
 unfold after;rw[filter_take _ _ _ h];simp
theorem after_nil (t:Int):after t []=[]:=rfl
set_option maxRecDepth 8000 in
set_option maxHeartbeats 2000000 in
theorem uptoB_spec (p:Past) (now:Net) (w t:Int) (hl:p.evs.length≤4096):
  FSpec Tryz.prog 160 [.ptr 0 0,.int .i64 t] [bookO p now w 1,evsO p.evs] (.tup [.im (.sl 12 ((upto t p.evs).map Ev.iv)),.row 2]) [bookO p now w 1,evsO p.evs,evsO (after t p.evs)]:=by
 refine FSpec.of_o (q:=[]) Tryz.func160 (by kernel_rfl) rfl Tryz.ntmps160 Tryz.results160 hP (by kernel_rfl) (by simp) (by first|rfl|simp) ?_
 simp -implicitDefEqProofs
 refine LoopK.nil (.sl 6 79 12) ?_
 simp -implicitDefEqProofs
 refine LoopK.nil (.sl 7 79 12) ?_
 simp -implicitDefEqProofs
 refine LoopK.os (fun k:Nat=>[(1,.int .i64 t),(6,.row 2),(7,.row 3),(14,.row 1),(15,.int .i64 p.evs.length),(16,.int .i64 k)])
  (fun k=>[bookO p now w 1,evsO p.evs,evsO (upto t (p.evs.take k)),evsO (after t (p.evs.take k))])
  (fun k=>k≤p.evs.length) (fun k=>p.evs.length-k) 0 [0,1,2,3] (Nat.zero_le _) (by simp[upto_nil,after_nil]) ?_
 intro k hk
 by_cases hlt:k<p.evs.length
 ·have e1:IntKind.i64.wrap (k+1)=(k+1:Nat):=wrap64 (by omega) (by omega)
  have g1:=upto_take t p.evs k hlt
  have b1:=upto_len t (p.evs.take k)
  have g2:=after_take t p.evs k hlt
  have b2:=after_len t (p.evs.take k)
  rw[List.length_take]at b1 b2
  obtain⟨E,hE⟩:∃E,p.evs[k]=E:=⟨_,rfl⟩
  rw[hE]at g1 g2
  simp -implicitDefEqProofs [hlt,hE]
  refine⟨fun h=>⟨⟨by omega,by unfold maxLen;omega⟩,?_⟩,fun h=>⟨⟨by omega,by unfold maxLen;omega⟩,?_⟩⟩
  ·rw[if_pos h]at g1
   rw[if_neg (by omega)]at g2
   refine Again.os (k+1) [0,1,6,3] hlt (by omega) ?_
   simp -implicitDefEqProofs [e1,g1,g2]
  ·rw[if_neg (by omega)]at g1
   rw[if_pos (by omega)]at g2
   refine Again.os (k+1) [0,1,2,6] hlt (by omega) ?_
   simp -implicitDefEqProofs [e1,g1,g2]
 ·have hkk:k=p.evs.length:=by omega
  subst hkk
  simp -implicitDefEqProofs
  refine EndO.ret [2] [0,1,3] (.tup [.row 2,.row 3]) (by simp) ?_
  simp -implicitDefEqProofs
def askT (p:Past) (t:Int):Int:=if t<0∨1099511627776<t then 1 else if t<p.hz then 15 else 0
theorem atB_spec (p:Past) (now:Net) (w t:Int) (hb:¬askT p t=0):
  FSpec Tryz.prog 84 [.ptr 0 0,.int .i64 t] [bookO p now w 1,evsO p.evs] (.tup [.agg [.im (.sc (.slice none 0 0)),.im (.sc (.slice none 0 0))],.im (.sc (.slice none 0 0)),.int .i64 (askT p t)]) [bookO p now w 1,evsO p.evs]:=by
 by_cases h1:t<0∨1099511627776<t
 ·have e:askT p t=1:=by unfold askT;rw[if_pos h1]
  rw[e]
  rcases h1 with h1|h1
  ·refine FSpec.of_o (q:=[(6,.m [.p [] [],.p [] [],.p [] [],.p [] [],.p [] [],.p [] [],.p [] [],.p [] [],.p [] [],.p [] [],.p [] [],.e [40,41,46],.p [] [],.p [] [],.p [2] [],.p [2] [],.a 0 1,.e [9,48],.p [] []])]) Tryz.func84 (by kernel_rfl) rfl Tryz.ntmps84 Tryz.results84 hP (by kernel_rfl) (by simp) (by first|rfl|simp) ?_
   simp -implicitDefEqProofs [h1]
   refine EndO.ret [] [0,1] (.tup [.agg [.im (.sc (.slice none 0 0)),.im (.sc (.slice none 0 0))],.im (.sc (.slice none 0 0)),.int .i64 1]) (by simp) ?_
   simp -implicitDefEqProofs
  ·have h0:¬t<0:=by omega
   refine FSpec.of_o (q:=[(6,.m [.p [] [],.p [] [],.p [] [],.p [] [],.p [] [],.p [] [],.p [] [],.p [] [],.p [] [],.p [] [],.p [] [],.e [40,41,46],.p [] [],.p [] [],.p [2] [],.p [2] [],.a 0 1,.e [9,48],.p [] []])]) Tryz.func84 (by kernel_rfl) rfl Tryz.ntmps84 Tryz.results84 hP (by kernel_rfl) (by simp) (by first|rfl|simp) ?_
   simp -implicitDefEqProofs [h1,h0]
   refine EndO.ret [] [0,1] (.tup [.agg [.im (.sc (.slice none 0 0)),.im (.sc (.slice none 0 0))],.im (.sc (.slice none 0 0)),.int .i64 1]) (by simp) ?_
   simp -implicitDefEqProofs
 ·by_cases h2:t<p.hz
  ·have e:askT p t=15:=by unfold askT;rw[if_neg h1,if_pos h2]
   rw[e]
   have h3:¬t<0:=by omega
   have h4:¬1099511627776<t:=by omega
   refine FSpec.of_o (q:=[(6,.m [.p [] [],.p [] [],.p [] [],.p [] [],.p [] [],.p [] [],.p [] [],.p [] [],.p [] [],.p [] [],.p [] [],.e [40,41,46],.p [] [],.p [] [],.p [2] [],.p [2] [],.a 0 1,.e [9,48],.p [] []])]) Tryz.func84 (by kernel_rfl) rfl Tryz.ntmps84 Tryz.results84 hP (by kernel_rfl) (by simp) (by first|rfl|simp) ?_
   simp -implicitDefEqProofs [h3,h4,h2]
   refine EndO.ret [] [0,1] (.tup [.agg [.im (.sc (.slice none 0 0)),.im (.sc (.slice none 0 0))],.im (.sc (.slice none 0 0)),.int .i64 15]) (by simp) ?_
   simp -implicitDefEqProofs
  ·refine absurd ?_ hb
   unfold askT
   rw[if_neg h1,if_neg h2]
def thenW (p:Past) (t:Int):Int:=(allN p.base (upto t p.evs) p.hz).2.2
theorem atA_spec (p:Past) (now:Net) (w t:Int) (hew:∀e∈p.evs,0≤e.seq) (hl:p.evs.length≤4096) (hb:askT p t=0):
  FSpec Tryz.prog 84 [.ptr 0 0,.int .i64 t] [bookO p now w 1,evsO p.evs] (.tup [(thenF p t).av,.row 2,.int .i64 (thenW p t)]) [bookO p now w 1,evsO p.evs,evsO (after t p.evs)]:=by
 have h3:=allNo_spec p.base (upto t p.evs) p.hz (fun e he=>hew e (List.mem_filter.1 he).1)
 have hu:=uptoB_spec p now w t hl
 unfold thenF thenW
 generalize allN p.base (upto t p.evs) p.hz=RES at*
 unfold askT at hb
 by_cases h1:t<0∨1099511627776<t
 ·rw[if_pos h1]at hb
  cases hb
 rw[if_neg h1]at hb
 by_cases h2:t<p.hz
 ·rw[if_pos h2]at hb
  cases hb
 have g3:¬t<0:=by omega
 have g4:¬1099511627776<t:=by omega
 refine FSpec.of_o (q:=[(6,.m [.p [] [],.p [] [],.p [] [],.p [] [],.p [] [],.p [] [],.p [] [],.p [] [],.p [] [],.p [] [],.p [] [],.e [40,41,46],.p [] [],.p [] [],.p [2] [],.p [2] [],.a 0 1,.e [9,48],.p [] []])]) Tryz.func84 (by kernel_rfl) rfl Tryz.ntmps84 Tryz.results84 hP (by kernel_rfl) (by simp) (by first|rfl|simp) ?_
 simp -implicitDefEqProofs [g3,g4,h2]
 refine CallO.mk [] [0,1] hu (by simp) rfl (by simp) (by simp) (by simp) ?_
 simp -implicitDefEqProofs
 first|refine CallK.same (h3) rfl rfl ?_|refine CallQ.same (h3) rfl rfl ?_|refine CallQG.same _ (h3) rfl ?_|refine CallG.same _ (h3) rfl ?_|refine CallK.pv (h3) rfl rfl ?_
 simp -implicitDefEqProofs
 refine EndO.ret [] [0,1,3] (.tup [RES.1.av,.row 3,.int .i64 RES.2.2]) (by simp) ?_
 simp -implicitDefEqProofs
theorem atP_spec (p:Past) (t:Int) (hew:∀e∈p.evs,0≤e.seq):FSpec Tryz.prog 30 [p.av,.int .i64 t] []
  (.tup [(if okP p=true∧askT p t=0 then thenF p t else net0).av,.int .i64 (if okP p then(if askT p t=0 then thenW p t else askT p t)else 2)]) []:=by
 refine FSpec.of_z (q:=[]) Tryz.func30 (by kernel_rfl) rfl Tryz.ntmps30 Tryz.results30 hP (by kernel_rfl) (by simp) (by first|rfl|simp) ?_
 simp -implicitDefEqProofs
 cases hok:okP p with
 |true=>
  have hl:p.evs.length≤4096:=by
   unfold okP at hok
   simp only[Bool.and_eq_true,decide_eq_true_eq]at hok
   omega
  refine CallK.outs [] (openY_spec p hew hok) rfl (by simp) (by simp[AV.flat]) ?_
  simp -implicitDefEqProofs
  by_cases hb:askT p t=0
  ·refine CallO.mk [] [2,3] (atA_spec p (nowP p) (weightF p) t hew hl hb) (by simp) rfl (by simp) (by simp) (by simp) ?_
   simp -implicitDefEqProofs
   refine EndZ.ret [] (.tup [(thenF p t).av,.int .i64 (thenW p t)]) (by simp) (by simp[hb])
  ·refine CallO.mk [] [2,3] (atB_spec p (nowP p) (weightF p) t hb) (by simp) rfl (by simp) (by simp) (by simp) ?_
   simp -implicitDefEqProofs
   refine EndZ.ret [] (.tup [.agg [.im (.sc (.slice none 0 0)),.im (.sc (.slice none 0 0))],.int .i64 (askT p t)]) (by simp) (by simp[hb,net0])
 |false=>
  first|refine CallK.same (openN_spec p hew hok) rfl rfl ?_|refine CallQ.same (openN_spec p hew hok) rfl rfl ?_|refine CallQG.same _ (openN_spec p hew hok) rfl ?_|refine CallG.same _ (openN_spec p hew hok) rfl ?_|refine CallK.pv (openN_spec p hew hok) rfl rfl ?_
  simp -implicitDefEqProofs
  refine EndZ.ret [] (.tup [.agg [.im (.sc (.slice none 0 0)),.im (.sc (.slice none 0 0))],.int .i64 2]) (by simp) ?_
  simp[net0]
end Go.Am
namespace Go.Am
open Go.Proofs
def growsE (e:Ev):Bool:=e.kind==3||e.kind==5
def addE (p:Past) (e:Ev):Past:=⟨p.base,p.hz,p.evs++[e]⟩
theorem weight_add (p:Past) (e:Ev):weightF (addE p e)=weightF p+if growsE e then 1 else 0:=by
 unfold weightF addE addsE growsE
 simp only[List.countP_append,List.countP_cons,List.countP_nil]
 split<;>omega
def fullP (p:Past) (e:Ev):Bool:=decide ((p.evs.length:Int)=1024)||(growsE e&&decide (weightF p=1024))
def takeW (p:Past) (e:Ev):Int:=if ¬(applyN (nowP p) e p.hz).2=0 then(applyN (nowP p) e p.hz).2 else if fullP p e then 8 else 0
theorem okP_len {p:Past} (h:okP p=true):p.evs.length≤1024:=by
 unfold okP at h
 simp only[Bool.and_eq_true,decide_eq_true_eq]at h
 omega
theorem okP_weight {p:Past} (h:okP p=true):weightF p≤1024:=by
 unfold okP at h
 simp only[Bool.and_eq_true,decide_eq_true_eq]at h
 omega
set_option maxRecDepth 8000 in
set_option maxHeartbeats 2000000 in
theorem takeB0_spec (p:Past) (e:Ev) (hsq:0≤e.seq) (h0:¬takeW p e=0):
  FSpec Tryz.prog 192 [.ptr 0 0,e.av] [bookO p (nowP p) (weightF p) 1,evsO p.evs] (.int .i64 (takeW p e)) [bookO p (nowP p) (weightF p) 1,evsO p.evs]:=by
 have h1:=applyNo_spec (nowP p) e p.hz hsq
 have h2:=grows_spec e
 have hW:takeW p e=if ¬(applyN (nowP p) e p.hz).2=0 then(applyN (nowP p) e p.hz).2 else if fullP p e then 8 else 0:=rfl
 have hf:fullP p e=(decide ((p.evs.length:Int)=1024)||(growsE e&&decide (weightF p=1024))):=rfl
 generalize takeW p e=W at*
 generalize applyN (nowP p) e p.hz=A at*
 rw[show(e.kind==3||e.kind==5)=growsE e from rfl]at h2
 generalize growsE e=G at*
 refine FSpec.of_o (q:=[(1,.m [.p [] [],.p [] [],.p [] [],.p [] [],.p [] [],.p [] [],.p [] [],.p [] [],.p [] [],.p [] [],.e [12,13,18],.p [] [],.p [] [],.p [2] [],.a 0 1,.e [5,20]]),(7,.m [.p [1,2] [],.p [1,2,3] [],.p [1,2] [],.p [1] [],.p [1] [],.p [1] [],.p [1] [],.p [1] [],.p [1] [],.p [1] [],.p [1] [],.p [] [],.e [62],.e [61,63],.p [] [],.p [] [],.e [66,53]])]) Tryz.func192 (by kernel_rfl) rfl Tryz.ntmps192 Tryz.results192 hP (by kernel_rfl) (by simp) (by first|rfl|simp) ?_
 simp -implicitDefEqProofs
 first|refine CallK.same (h1) rfl rfl ?_|refine CallQ.same (h1) rfl rfl ?_|refine CallQG.same _ (h1) rfl ?_|refine CallG.same _ (h1) rfl ?_|refine CallK.pv (h1) rfl rfl ?_
 simp -implicitDefEqProofs
 refine⟨fun h=>?_,fun b1=>?_⟩
 ·rw[if_pos h]at hW
  subst hW
  refine EndO.ret [] [0,1] (.int .i64 A.2) (by simp) ?_
  simp -implicitDefEqProofs
 rw[if_neg (by simp[b1])]at hW
 have hfull:fullP p e=true:=by
  cases h:fullP p e with
  |true=>rfl
  |false=>rw[h]at hW;exact absurd hW h0
 rw[if_pos hfull]at hW
 rw[hfull]at hf
 subst hW
 first|refine CallK.same (h2) rfl rfl ?_|refine CallQ.same (h2) rfl rfl ?_|refine CallQG.same _ (h2) rfl ?_|refine CallG.same _ (h2) rfl ?_|refine CallK.pv (h2) rfl rfl ?_
 simp -implicitDefEqProofs
 refine⟨fun h=>by cases G<;>simp[impB,h],fun h=>?_,fun h=>?_⟩
 ·refine EndO.ret [] [0,1] (.int .i64 8) (by simp) ?_
  simp -implicitDefEqProofs
 ·intro h2
  exfalso
  cases G with
  |false=>simp[h]at hf
  |true=>simp[h,h2 rfl]at hf
set_option maxRecDepth 8000 in
set_option maxHeartbeats 2000000 in
theorem takeB1_spec (p:Past) (e:Ev) (hsq:0≤e.seq) (hok:okP p=true) (h0:takeW p e=0):
  FSpec Tryz.prog 192 [.ptr 0 0,e.av] [bookO p (nowP p) (weightF p) 1,evsO p.evs] (.int .i64 0) [bookO (addE p e) (applyN (nowP p) e p.hz).1 (weightF (addE p e)) 2,evsO p.evs,evsO (addE p e).evs]:=by
 have h1:=applyNo_spec (nowP p) e p.hz hsq
 have h2:=grows_spec e
 have hlen:=okP_len hok
 have hwt:=okP_weight hok
 have hwa:=weight_add p e
 have hW:takeW p e=if ¬(applyN (nowP p) e p.hz).2=0 then(applyN (nowP p) e p.hz).2 else if fullP p e then 8 else 0:=rfl
 have hf:fullP p e=(decide ((p.evs.length:Int)=1024)||(growsE e&&decide (weightF p=1024))):=rfl
 rw[h0]at hW
 generalize applyN (nowP p) e p.hz=A at*
 rw[show(e.kind==3||e.kind==5)=growsE e from rfl]at h2
 generalize growsE e=G at*
 have b1:A.2=0:=by
  apply Classical.byContradiction
  intro h
  rw[if_pos h]at hW
  exact h hW.symm
 rw[if_neg (by simp[b1])]at hW
 have hfull:fullP p e=false:=by
  cases h:fullP p e with
  |false=>rfl
  |true=>rw[h]at hW;cases hW
 rw[hfull]at hf
 have c1:¬(p.evs.length:Int)=1024:=by intro h;simp[h]at hf
 refine FSpec.of_o (q:=[(1,.m [.p [] [],.p [] [],.p [] [],.p [] [],.p [] [],.p [] [],.p [] [],.p [] [],.p [] [],.p [] [],.e [12,13,18],.p [] [],.p [] [],.p [2] [],.a 0 1,.e [5,20]]),(7,.m [.p [1,2] [],.p [1,2,3] [],.p [1,2] [],.p [1] [],.p [1] [],.p [1] [],.p [1] [],.p [1] [],.p [1] [],.p [1] [],.p [1] [],.p [] [],.e [62],.e [61,63],.p [] [],.p [] [],.e [66,53]])]) Tryz.func192 (by kernel_rfl) rfl Tryz.ntmps192 Tryz.results192 hP (by kernel_rfl) (by simp) (by first|rfl|simp) ?_
 simp -implicitDefEqProofs
 first|refine CallK.same (h1) rfl rfl ?_|refine CallQ.same (h1) rfl rfl ?_|refine CallQG.same _ (h1) rfl ?_|refine CallG.same _ (h1) rfl ?_|refine CallK.pv (h1) rfl rfl ?_
 simp -implicitDefEqProofs [b1]
 first|refine CallK.same (h2) rfl rfl ?_|refine CallQ.same (h2) rfl rfl ?_|refine CallQG.same _ (h2) rfl ?_|refine CallG.same _ (h2) rfl ?_|refine CallK.pv (h2) rfl rfl ?_
 simp -implicitDefEqProofs [c1,aCut,rowAt]
 have hsz:=sizeN_bd p.base
 have hw0:0≤weightF p:=by unfold weightF;omega
 have e2:IntKind.i64.wrap (weightF p+1)=weightF p+1:=wrap64 (by omega) (by omega)
 refine⟨by cases G<;>simp[impB,c1],fun hg hw=>?_,fun hgw=>⟨⟨by unfold maxLen;omega,by omega⟩,?_⟩⟩
 ·exfalso
  simp[c1,hg,hw]at hf
 first|refine CallK.same (h2) rfl rfl ?_|refine CallQ.same (h2) rfl rfl ?_|refine CallQG.same _ (h2) rfl ?_|refine CallG.same _ (h2) rfl ?_|refine CallK.pv (h2) rfl rfl ?_
 simp -implicitDefEqProofs
 cases G with
 |true=>
  rw[if_pos rfl]at hwa
  simp -implicitDefEqProofs [e2]
  refine EndO.ret [] [0,1,5] (.int .i64 0) (by simp) ?_
  rw[hwa]
  simp -implicitDefEqProofs [addE]
  exact List.take_of_length_le (by simp)
 |false=>
  rw[if_neg (by simp)]at hwa
  simp -implicitDefEqProofs
  refine EndO.ret [] [0,1,5] (.int .i64 0) (by simp) ?_
  rw[hwa]
  simp -implicitDefEqProofs [addE]
  exact List.take_of_length_le (by simp)
def past0:Past:=⟨⟨[],[]⟩,0,[]⟩
def takeP (p:Past) (e:Ev):Past×Int:=if okP p=false∨takeW p e=2 then(past0,2)else if takeW p e=0 then(addE p e,0)else(p,takeW p e)
theorem takePo_spec (p:Past) (e:Ev) (hew:∀e∈p.evs,0≤e.seq) (hsq:0≤e.seq):FSpec Tryz.prog 111 [p.av,e.av] [] (.tup [(takeP p e).1.av,.int .i64 (takeP p e).2]) []:=by
 refine FSpec.of_z (q:=[]) Tryz.func111 (by kernel_rfl) rfl Tryz.ntmps111 Tryz.results111 hP (by kernel_rfl) (by simp) (by first|rfl|simp) ?_
 simp -implicitDefEqProofs
 cases hok:okP p with
 |true=>
  refine CallK.outs [] (openY_spec p hew hok) rfl (by simp) (by simp[AV.flat]) ?_
  simp -implicitDefEqProofs
  by_cases h0:takeW p e=0
  ·refine CallO.mk [] [3,4] (takeB1_spec p e hsq hok h0) (by simp) rfl (by simp) (by simp) (by simp) ?_
   simp -implicitDefEqProofs
   have hx:takeP p e=(addE p e,0):=by unfold takeP;rw[if_neg (by simp[hok,h0]),if_pos h0]
   rw[hx]
   refine EndZ.ret [5] (.tup [.agg [.im (.sl 4 ((addE p e).base.seats.map Seat.iv)),.im (.sl 4 ((addE p e).base.routers.map Router.iv)),.int .i64 (addE p e).hz,.row 5],.int .i64 0]) (by simp) ?_
   simp -implicitDefEqProofs
  ·refine CallO.mk [] [3,4] (takeB0_spec p e hsq h0) (by simp) rfl (by simp) (by simp) (by simp) ?_
   simp -implicitDefEqProofs
   refine⟨fun h2=>?_,fun h2=>?_⟩
   ·have hx:takeP p e=(past0,2):=by unfold takeP;rw[if_pos (.inr h2)]
    rw[hx]
    refine EndZ.ret [] (.tup [.agg [.im (.sc (.slice none 0 0)),.im (.sc (.slice none 0 0)),.int .i64 0,.im (.sc (.slice none 0 0))],.int .i64 2]) (by simp[h2]) ?_
    simp -implicitDefEqProofs [past0]
   ·have hx:takeP p e=(p,takeW p e):=by unfold takeP;rw[if_neg (by simp[hok,h2]),if_neg h0]
    rw[hx]
    refine EndZ.ret [4] (.tup [.agg [.im (.sl 4 (p.base.seats.map Seat.iv)),.im (.sl 4 (p.base.routers.map Router.iv)),.int .i64 p.hz,.row 4],.int .i64 (takeW p e)]) (by simp) ?_
    simp -implicitDefEqProofs
 |false=>
  have hx:takeP p e=(past0,2):=by unfold takeP;rw[if_pos (.inl hok)]
  first|refine CallK.same (openN_spec p hew hok) rfl rfl ?_|refine CallQ.same (openN_spec p hew hok) rfl rfl ?_|refine CallQG.same _ (openN_spec p hew hok) rfl ?_|refine CallG.same _ (openN_spec p hew hok) rfl ?_|refine CallK.pv (openN_spec p hew hok) rfl rfl ?_
  simp -implicitDefEqProofs
  rw[hx]
  refine EndZ.ret [] (.tup [.agg [.im (.sc (.slice none 0 0)),.im (.sc (.slice none 0 0)),.int .i64 0,.im (.sc (.slice none 0 0))],.int .i64 2]) (by simp) ?_
  simp[past0]
end Go.Am
namespace Go.Am
open Go.Proofs
end Go.Am
namespace Go.Am
open Go.Proofs
theorem one_spec (a b:Int):FSpec Tryz.prog 149 [.agg [.int .i64 a,.int .i64 b]] [] (.bool (decide (0≤a)&&decide (a≤b)&&decide (b≤1099511627776))) []:=by
 refine FSpec.of_flat (q:=[]) Tryz.func149 (by kernel_rfl) rfl Tryz.ntmps149 Tryz.results149 hP (by kernel_rfl) (by simp) (by first|rfl|simp) ?_
 simp -implicitDefEqProofs
set_option maxRecDepth 8000 in
set_option maxHeartbeats 1000000 in
theorem sorted19_spec (L:List Int) (hL:L.length≤200000000) (D:List Int) (hD:D.Pairwise (·<·)) (hm:∀r,r∈D↔r∈L):
  FSpec Tryz.prog 216 [.im (.sl 1 (rowI L))] [] (.im (.sl 1 (rowI D))) []:=by
 refine FSpec.of_z (q:=[(10,.n 7)]) Tryz.func216 (by kernel_rfl) rfl Tryz.ntmps216 Tryz.results216 hP (by kernel_rfl) (by simp) (by first|rfl|simp) ?_
 simp -implicitDefEqProofs
 refine LoopK.nil (.sl 3 2 1) ?_
 simp -implicitDefEqProofs
 refine LoopK.os (fun g:Nat×List Int=>[(3,.row 0),(7,.im (.sl 1 (rowI L))),(8,.int .i64 L.length),(9,.int .i64 g.1)])
  (fun g=>[.row 2 1 (rowI g.2)])
  (fun g=>g.1≤L.length∧g.2.length≤g.1∧g.2.Pairwise (·<·)∧∀r,r∈g.2↔r∈L.take g.1) (fun g=>L.length-g.1) (0,[]) [0] ⟨Nat.zero_le _,by simp,by simp,by simp⟩ (by simp[rowI]) ?_
 rintro⟨k,E⟩ ⟨hk,hEl,hE,hR⟩
 simp only at hk hEl hE hR
 by_cases hlt:k<L.length
 ·have e1:IntKind.i64.wrap (k+1)=(k+1:Nat):=wrap64 (by omega) (by omega)
  obtain⟨f,hf⟩:∃f,L[k]=f:=⟨_,rfl⟩
  have hg:(rowI L)[k]? =some [.sc (.int .i64 f)]:=by simp[rowI,hlt,hf]
  have hstep:∀r,r∈L.take (k+1)↔r∈L.take k∨r=f:=fun r=>by
   rw[List.take_add_one,List.getElem?_eq_getElem hlt,hf];simp
  simp -implicitDefEqProofs [hlt,hg,e1]
  refine LoopK.os (fun i:Nat=>[(3,.row 0),(5,.int .i64 f),(6,.int .i64 i),(7,.im (.sl 1 (rowI L))),(8,.int .i64 L.length),(9,.int .i64 k)])
   (fun _=>[.row 2 1 (rowI E)])
   (fun i=>i≤E.length∧∀x∈E.drop i,f<x) (fun i=>i) E.length [0] ⟨Nat.le_refl _,by simp⟩ (by simp[hf]) ?_
  rintro i ⟨hi,hx⟩
  have fin:∀hxi:∀x∈E.take i,x<f,(putI E i f).Pairwise (·<·)∧∀r,r∈putI E i f↔r∈L.take (k+1):=fun hxi=>
   ⟨putI_sorted hE hxi hx,fun r=>by rw[putI_mem,hstep,hR]⟩
  cases i with
  |zero=>
   have em:IntKind.i64.wrap (-1)= -1:=by decide
   have ew:IntKind.i64.wrap 1=1:=by decide
   have h0:(rowI E)[0]? =none∨∃z,(rowI E)[0]? =some [.sc (.int .i64 z)]:=by
    cases E with
    |nil=>exact .inl rfl
    |cons x E=>exact .inr ⟨x,rfl⟩
   have hp:=rowI_put E 0 f E.length (E.length+1) (1+E.length) hi rfl rfl (by omega)
   simp -implicitDefEqProofs at hp
   rcases h0 with h0|⟨z,h0⟩
   ·simp -implicitDefEqProofs [em,ew,h0,show 1+E.length≤E.length+1 by omega]
    refine⟨⟨by omega,by unfold maxLen;omega⟩,by omega,by omega,by omega,by omega,?_⟩
    refine Again.os (k+1,putI E 0 f) [2] ⟨hlt,by show(putI E 0 f).length≤k+1;rw[putI_len _ _ _ hi];omega,(fin (by simp)).1,(fin (by simp)).2⟩ (by show L.length-(k+1)<L.length-k;omega) ?_
    simp -implicitDefEqProofs [e1,hp]
   ·simp -implicitDefEqProofs [em,ew,h0,show 1+E.length≤E.length+1 by omega]
    refine⟨⟨by omega,by unfold maxLen;omega⟩,by omega,by omega,by omega,by omega,?_⟩
    refine Again.os (k+1,putI E 0 f) [2] ⟨hlt,by show(putI E 0 f).length≤k+1;rw[putI_len _ _ _ hi];omega,(fin (by simp)).1,(fin (by simp)).2⟩ (by show L.length-(k+1)<L.length-k;omega) ?_
    simp -implicitDefEqProofs [e1,hp]
  |succ j=>
   have ej:IntKind.i64.wrap (j:Int)=(j:Int):=wrap64 (by omega) (by omega)
   have hgj:(rowI E)[j]? =some [.sc (.int .i64 E[j])]:=by simp[rowI,show j<E.length by omega]
   have hjl:(j:Int)<E.length:=by omega
   have e3:IntKind.i64.wrap ((j:Int)+1+1)=((j+2:Nat):Int):=by rw[wrap64 (by omega) (by omega)];omega
   simp -implicitDefEqProofs [ej,hgj,show j<E.length by omega,e3,show j+1+(E.length-j)≤E.length+1 by omega,show((j:Int)+2).toNat=j+2 by omega,show j+2+(E.length-(j+1))≤E.length+1 by omega,show min (E.length-j) (E.length-(j+1))=E.length-(j+1)by omega]
   refine⟨fun hgt=>?_,fun hle=>⟨fun heqj=>?_,fun hnj=>⟨⟨by omega,by unfold maxLen;omega⟩,by omega,by omega,?_⟩⟩⟩
   ·refine Again.os j [0] ⟨by show j≤E.length;omega,fun x hxm=>?_⟩ (Nat.lt_succ_self j) ?_
    ·rw[List.drop_eq_getElem_cons (show j<E.length by omega)]at hxm
     rcases List.mem_cons.1 hxm with rfl|hxm
     ·exact hgt
     ·exact hx x hxm
    ·simp -implicitDefEqProofs
   ·refine Again.os (k+1,E) [0] ⟨hlt,by show E.length≤k+1;omega,hE,fun r=>?_⟩ (by show L.length-(k+1)<L.length-k;omega) ?_
    ·show r∈E↔r∈L.take (k+1)
     rw[hstep,hR]
     exact⟨.inl,fun h=>h.elim id fun e=>by rw[e,←hR,←heqj];exact List.getElem_mem _⟩
    ·simp -implicitDefEqProofs [e1]
   ·have hxi:∀x∈E.take (j+1),x<f:=fun x hxm=>by
     have h1:=hE
     rw[←List.take_append_drop j E,List.drop_eq_getElem_cons (show j<E.length by omega),List.pairwise_append]at h1
     rw[List.take_add_one,List.getElem?_eq_getElem (show j<E.length by omega)]at hxm
     rcases List.mem_append.1 hxm with hxm|hxm
     ·have:=h1.2.2 x hxm E[j] List.mem_cons_self
      omega
     ·simp at hxm
      omega
    have hp:=rowI_put E (j+1) f (E.length-(j+1)) (E.length-j) (j+2+(E.length-(j+1))) hi rfl (by omega) (by omega)
    refine⟨by omega,by omega,?_⟩
    refine Again.os (k+1,putI E (j+1) f) [2] ⟨hlt,by show(putI E (j+1) f).length≤k+1;rw[putI_len _ _ _ hi];omega,(fin hxi).1,(fin hxi).2⟩ (by show L.length-(k+1)<L.length-k;omega) ?_
    simp -implicitDefEqProofs [e1,hp]
 ·have hkk:k=L.length:=by omega
  subst hkk
  rw[List.take_length]at hR
  have hED:E=D:=sorted_eq ((List.perm_ext_iff_of_nodup (hE.imp fun h=>by omega) (hD.imp fun h=>by omega)).2 fun r=>by rw[hR,hm]) (hE.imp fun h=>by omega) (hD.imp fun h=>by omega)
  subst hED
  simp -implicitDefEqProofs
  refine EndZ.ret [0] (.row 0) (by simp) (by simp)
end Go.Am
namespace Go.Proofs
def Tryz.sortInt64_ren:Go.Shelf.Ren:=⟨fun|5=>195|8=>204|7=>252|19=>265|20=>266|10=>304|11=>305|12=>306|13=>307|14=>308|15=>309|16=>310|17=>311|18=>312|30=>375|31=>328|32=>329|33=>376|34=>377|35=>214|40=>413|n=>n,fun|23=>104|25=>2|3=>3|32=>236|22=>104|0=>0|44=>378|46=>29|4=>4|36=>371|35=>370|41=>175|5=>5|9=>9|53=>425|57=>429|63=>481|64=>482|n=>n,fun|n=>n⟩
theorem Tryz.sortInt64:SlLaysM.n5 Tryz.prog Tryz.sortInt64_ren:={
 mixed:=by kernel_rfl,
 f5:=⟨Tryz.f195.name,by decide,Tryz.func195.trans (congrArg some (by kernel_rfl))⟩,
 f7:=⟨Tryz.f252.name,by decide,Tryz.func252.trans (congrArg some (by kernel_rfl))⟩,
 f8:=Tryz.func204.trans (congrArg some (by kernel_rfl)),
 f10:=⟨Tryz.f304.name,by decide,Tryz.func304.trans (congrArg some (by kernel_rfl))⟩,
 f11:=⟨Tryz.f305.name,by decide,Tryz.func305.trans (congrArg some (by kernel_rfl))⟩,
 f12:=⟨Tryz.f306.name,by decide,Tryz.func306.trans (congrArg some (by kernel_rfl))⟩,
 f13:=⟨Tryz.f307.name,by decide,Tryz.func307.trans (congrArg some (by kernel_rfl))⟩,
 f14:=⟨Tryz.f308.name,by decide,Tryz.func308.trans (congrArg some (by kernel_rfl))⟩,
 f15:=⟨Tryz.f309.name,by decide,Tryz.func309.trans (congrArg some (by kernel_rfl))⟩,
 f16:=⟨Tryz.f310.name,by decide,Tryz.func310.trans (congrArg some (by kernel_rfl))⟩,
 f17:=⟨Tryz.f311.name,by decide,Tryz.func311.trans (congrArg some (by kernel_rfl))⟩,
 f18:=⟨Tryz.f312.name,by decide,Tryz.func312.trans (congrArg some (by kernel_rfl))⟩,
 f19:=Tryz.func265.trans (congrArg some (by kernel_rfl)),
 f20:=Tryz.func266.trans (congrArg some (by kernel_rfl)),
 f30:=⟨Tryz.f375.name,by decide,Tryz.func375.trans (congrArg some (by kernel_rfl))⟩,
 f31:=Tryz.func328.trans (congrArg some (by kernel_rfl)),
 f32:=Tryz.func329.trans (congrArg some (by kernel_rfl)),
 f33:=⟨Tryz.f376.name,by decide,Tryz.func376.trans (congrArg some (by kernel_rfl))⟩,
 f34:=⟨Tryz.f377.name,by decide,Tryz.func377.trans (congrArg some (by kernel_rfl))⟩,
 f35:=⟨Tryz.f214.name,by decide,Tryz.func214.trans (congrArg some (by kernel_rfl))⟩,
 f40:=⟨Tryz.f413.name,by decide,Tryz.func413.trans (congrArg some (by kernel_rfl))⟩,
 t0:=Tryz.underlying0,
 a0:=Tryz.isAgg0,
 z0:=Tryz.sizeOf0,
 v0:=Tryz.zeroValue0,
 t3:=Tryz.underlying3,
 a3:=Tryz.isAgg3,
 z3:=Tryz.sizeOf3,
 v3:=Tryz.zeroValue3,
 t4:=Tryz.underlying4,
 a4:=Tryz.isAgg4,
 z4:=Tryz.sizeOf4,
 v4:=Tryz.zeroValue4,
 t5:=Tryz.underlying5,
 a5:=Tryz.isAgg5,
 z5:=Tryz.sizeOf5,
 v5:=Tryz.zeroValue5,
 t9:=Tryz.underlying9,
 a9:=Tryz.isAgg9,
 z9:=Tryz.sizeOf9,
 v9:=Tryz.zeroValue9,
 t22:=Tryz.underlying104,
 a22:=Tryz.isAgg104,
 z22:=Tryz.sizeOf104,
 v22:=Tryz.zeroValue104,
 t23:=Tryz.underlying104,
 a23:=Tryz.isAgg104,
 z23:=Tryz.sizeOf104,
 v23:=Tryz.zeroValue104,
 t25:=Tryz.underlying2,
 a25:=Tryz.isAgg2,
 z25:=Tryz.sizeOf2,
 v25:=Tryz.zeroValue2,
 t32:=Tryz.underlying236,
 a32:=Tryz.isAgg236,
 z32:=Tryz.sizeOf236,
 v32:=Tryz.zeroValue236,
 t35:=Tryz.underlying370,
 a35:=Tryz.isAgg370,
 z35:=Tryz.sizeOf370,
 v35:=Tryz.zeroValue370,
 t36:=Tryz.underlying371,
 a36:=Tryz.isAgg371,
 z36:=Tryz.sizeOf371,
 v36:=Tryz.zeroValue371,
 t41:=Tryz.underlying175,
 a41:=Tryz.isAgg175,
 z41:=Tryz.sizeOf175,
 v41:=Tryz.zeroValue175,
 t44:=Tryz.underlying378,
 a44:=Tryz.isAgg378,
 z44:=Tryz.sizeOf378,
 v44:=Tryz.zeroValue378,
 t46:=Tryz.underlying29,
 a46:=Tryz.isAgg29,
 z46:=Tryz.sizeOf29,
 v46:=Tryz.zeroValue29,
 t53:=Tryz.underlying425,
 a53:=Tryz.isAgg425,
 z53:=Tryz.sizeOf425,
 v53:=Tryz.zeroValue425,
 t57:=Tryz.underlying429,
 a57:=Tryz.isAgg429,
 z57:=Tryz.sizeOf429,
 v57:=Tryz.zeroValue429,
 t63:=Tryz.underlying481,
 a63:=Tryz.isAgg481,
 z63:=Tryz.sizeOf481,
 v63:=Tryz.zeroValue481,
 t64:=Tryz.underlying482,
 a64:=Tryz.isAgg482,
 z64:=Tryz.sizeOf482,
 v64:=Tryz.zeroValue482}
end Go.Proofs
namespace Go.Am
open Go.Proofs
theorem sort64_spec (l:List Int) (h:l.length≤1000000000):FSpec Tryz.prog 195 [.row 0] [.row 2 1 (rowN l)] (.tup []) [.row 2 1 (rowN (sortI l))]:=
 sortInts Tryz.sortInt64 2 l (by omega)
def dedup:List Int→List Int
 |[]=>[]
 |[x]=>[x]
 |x::y::l=>if x=y then dedup (y::l)else x::dedup (y::l)
theorem dedup_snoc:∀(l:List Int) (x y:Int),dedup (l++[x,y])=if x=y then dedup (l++[x])else dedup (l++[x])++[y]
 |[],x,y=>by simp only[List.nil_append,dedup];split<;>simp[*]
 |[a],x,y=>by
  have:=dedup_snoc [] x y
  simp only[List.nil_append,List.cons_append,dedup]at this⊢
  by_cases h1:x=y<;>by_cases h2:a=x<;>simp[h1,h2]
 |a::b::l,x,y=>by
  have:=dedup_snoc (b::l) x y
  simp only[List.cons_append,dedup]at this⊢
  rw[this]
  by_cases h1:x=y<;>by_cases h2:a=b<;>simp[h1,h2]
theorem dedup_take {l:List Int} {j:Nat} (h:j+1<l.length):dedup (l.take (j+2))=if l[j+1]=l[j]then dedup (l.take (j+1))else dedup (l.take (j+1))++[l[j+1]]:=by
 have a1:l.take (j+2)=l.take (j+1)++[l[j+1]]:=by rw[show j+2=(j+1)+1 from rfl,List.take_add_one,List.getElem?_eq_getElem h];rfl
 have a2:l.take (j+1)=l.take j++[l[j]]:=by rw[List.take_add_one,List.getElem?_eq_getElem (by omega)];rfl
 have e1:l.take (j+2)=l.take j++[l[j],l[j+1]]:=by rw[a1,a2,List.append_assoc];rfl
 have e2:l.take (j+1)=l.take j++[l[j]]:=by
  rw[List.take_add_one,List.getElem?_eq_getElem (by omega)]
  rfl
 rw[e1,e2,dedup_snoc]
 by_cases hh:l[j]=l[j+1]
 ·rw[if_pos hh,if_pos hh.symm]
 ·rw[if_neg hh,if_neg (fun x=>hh x.symm)]
theorem dedup_small {l:List Int} (h:l.length<2):dedup l=l:=by
 match l,h with
 |[],_=>rfl
 |[x],_=>rfl
theorem dedup_len:∀l:List Int,(dedup l).length≤l.length
 |[]=>Nat.le_refl _
 |[x]=>Nat.le_refl _
 |x::y::l=>by
  have:=dedup_len (y::l)
  rw[dedup]
  split
  ·simp only[List.length_cons]at*;omega
  ·simp only[List.length_cons]at*;omega
@[simp] theorem rowN_len (l:List Int):(rowN l).length=l.length:=by simp[rowN]
theorem rowN_get {l:List Int} {i:Nat} (h:i<l.length):(rowN l)[i]? =some [.sc (.int .i64 l[i])]:=by simp[rowN,h]
@[simp] theorem rowN_getElem (l:List Int) (i:Nat) (h:i<(rowN l).length):(rowN l)[i]=[.sc (.int .i64 (l[i]'(by simpa using h)))]:=by simp[rowN]
structure Cmpd (xs C:List Int) (k j:Nat):Prop where
 len:C.length=xs.length
 k1:1≤k
 kj:k+1≤j
 jl:j≤xs.length
 pre:C.take k=dedup (xs.take j)
 suf:∀i,j≤i+1→C[i]? =xs[i]?
theorem Cmpd.get {xs C:List Int} {k j i:Nat} (h:Cmpd xs C k j) (hi:j≤i+1) (hx:i<xs.length) (hc:i<C.length):C[i]=xs[i]:=by
 have:=h.suf i hi
 rw[List.getElem?_eq_getElem hx,List.getElem?_eq_getElem hc]at this
 exact Option.some.inj this
theorem Cmpd.skip {xs C:List Int} {k j:Nat} (h:Cmpd xs C k (j+1)) (hj:j+1<xs.length) (he:xs[j+1]=xs[j]):Cmpd xs C k (j+2):=by
 obtain⟨a1,a2,a3,a4,a5,a6⟩:=h
 refine⟨a1,a2,by omega,by omega,?_,fun i hi=>a6 i (by omega)⟩
 rw[dedup_take hj,if_pos he,a5]
theorem Cmpd.put {xs C:List Int} {k j:Nat} (h:Cmpd xs C k (j+1)) (hj:j+1<xs.length) (he:¬xs[j+1]=xs[j]):Cmpd xs (C.set k xs[j+1]) (k+1) (j+2):=by
 obtain⟨a1,a2,a3,a4,a5,a6⟩:=h
 refine⟨by simpa using a1,by omega,by omega,by omega,?_,fun i hi=>?_⟩
 ·rw[dedup_take hj,if_neg he,←a5,List.take_add_one,List.getElem?_set_self (by omega),List.take_set_of_le (Nat.le_refl _)]
  rfl
 ·rw[List.getElem?_set_ne (by omega)]
  exact a6 i (by omega)
set_option maxRecDepth 8000 in
set_option maxHeartbeats 2000000 in
theorem compact_spec (l:List Int) (hl:l.length≤1000000000):
  FSpec Tryz.prog 196 [.row 0] [.row 2 1 (rowN l)] (.im (.sl 1 (rowN (dedup l)))) [.gone]:=by
 refine FSpec.of_o (q:=[(6,.n 9),(11,.n 9)]) Tryz.func196 (by kernel_rfl) rfl Tryz.ntmps196 Tryz.results196 hP (by kernel_rfl) (by simp) (by first|rfl|simp) ?_
 simp -implicitDefEqProofs
 refine⟨fun h=>?_,fun h2=>?_⟩
 ·refine EndO.ret [0] [0] (.row 0) (by simp) ?_
  simp -implicitDefEqProofs [dedup_small (show l.length<2 by omega)]
 refine LoopK.os (fun k:Nat=>[(0,.row 0),(3,.int .i64 k)])
  (fun _=>[.row 2 1 (rowN l)])
  (fun k=>1≤k∧k≤l.length∧dedup (l.take k)=l.take k) (fun k=>l.length-k) 1 [0] ⟨Nat.le_refl _,by omega,dedup_small (by simp;omega)⟩ (by simp) ?_
 rintro k ⟨hk1,hk,hR⟩
 by_cases hlt:k<l.length
 ·obtain⟨j,hj⟩:∃j,k=j+1:=⟨k-1,by omega⟩
  have e1:IntKind.i64.wrap ((k:Int)-1)=(j:Nat):=by rw[wrap64 (by omega) (by omega)];omega
  have e2:IntKind.i64.wrap ((k:Int)+1)=(k+1:Nat):=wrap64 (by omega) (by omega)
  have hjl:j<l.length:=by omega
  have hd:dedup (l.take (k+1))=if l[k]=l[j]then dedup (l.take k)else dedup (l.take k)++[l[k]]:=by
   subst hj;exact dedup_take hlt
  simp -implicitDefEqProofs [hlt,hjl,e1,e2]
  refine⟨fun heq=>⟨hk,?_⟩,fun hne=>?_⟩
  ·rw[if_pos heq]at hd
   have hd':=hd
   clear e1 e2 hd
   refine LoopK.os (fun g:Nat×Nat×List Int=>[(0,.row 0),(3,.int .i64 g.1),(4,.sub 0 1 k (l.length-k)),(5,.int .i64 g.2.1)])
    (fun g=>[.row 2 1 (rowN g.2.2)])
    (fun g=>Cmpd l g.2.2 g.1 (k+g.2.1)∧1≤g.2.1) (fun g=>l.length-(k+g.2.1)) (k,1,l) [0] ⟨⟨rfl,hk1,Nat.le_refl _,hlt,by rw[hd',hR],fun i _=>rfl⟩,Nat.le_refl _⟩ (by simp) ?_
   rintro⟨k',k2,C⟩ ⟨hC,hk2⟩
   simp only at hC hk2
   have c0:=hC.len
   have c1:=hC.k1
   have c2:=hC.kj
   have c3:=hC.jl
   by_cases hl2:k2<l.length-k
   ·obtain⟨i2,hi2⟩:∃i2,k2=i2+1:=⟨k2-1,by omega⟩
    have e1:IntKind.i64.wrap ((k2:Int)-1)=(i2:Nat):=by rw[wrap64 (by omega) (by omega)];omega
    have e2:IntKind.i64.wrap ((k2:Int)+1)=(k2+1:Nat):=wrap64 (by omega) (by omega)
    have e3:IntKind.i64.wrap ((k':Int)+1)=(k'+1:Nat):=wrap64 (by omega) (by omega)
    have b1:k+k2<C.length:=by omega
    have b2:k+i2<C.length:=by omega
    have b3:i2<l.length-k:=by omega
    have b4:k'<C.length:=by omega
    simp -implicitDefEqProofs [hl2,e1,e2,e3,b1,b2,b3,b4]
    have g1:=hC.get (i:=k+k2) (by omega) (by omega) b1
    have g2:=hC.get (i:=k+i2) (by omega) (by omega) b2
    have hmod:=mod_set (fun x:Int=>[IV.sc (.int .i64 x)]) C C[k+k2] k' (fun x=>IV.sc (.int .i64 C[k+k2])::x.tail) (fun x=>rfl)
    subst hi2
    refine⟨by omega,fun hne=>⟨by omega,?_⟩,fun he=>?_⟩
    ·refine Again.os (k'+1,i2+1+1,C.set k' C[k+(i2+1)]) [0] ⟨?_,by show 1≤i2+1+1;omega⟩ (by show l.length-(k+(i2+1+1))<l.length-(k+(i2+1));omega) ?_
     ·rw[g1]
      exact Cmpd.put (j:=k+i2) hC (by omega) (by rw[←g2];exact fun h=>hne (g1.trans h))
     ·show EntO _ _ _ _ _ _ _
      simp -implicitDefEqProofs [e2,e3]
      exact hmod
    ·refine Again.os (k',i2+1+1,C) [0] ⟨?_,by show 1≤i2+1+1;omega⟩ (by show l.length-(k+(i2+1+1))<l.length-(k+(i2+1));omega) ?_
     ·exact Cmpd.skip (j:=k+i2) hC (by omega) (by rw[←g2,←he];exact g1.symm)
     ·simp -implicitDefEqProofs [e2]
   ·have hkl:k+k2=l.length:=by omega
    have hpre:=hC.pre
    rw[hkl,List.take_length]at hpre
    simp -implicitDefEqProofs [hl2]
    refine⟨by omega,by omega,.inr ⟨by omega,?_⟩⟩
    refine EndO.ret [1] [0] (.row 1) (by simp) ?_
    have ht:List.take k' (List.take k' (rowN C)++(List.replicate (C.length-k') [IV.sc (.int .i64 0)]++List.drop (k'+(C.length-k')) (rowN C)))=rowN (dedup l):=by
     rw[List.take_append_of_le_length (by simp;omega),List.take_take,Nat.min_self,←hpre]
     simp[rowN]
    simp -implicitDefEqProofs [ht]
  ·rw[if_neg hne,hR]at hd
   have ht:l.take k++[l[k]]=l.take (k+1):=by rw[List.take_add_one,List.getElem?_eq_getElem hlt];rfl
   refine Again.os (k+1) [0] ⟨by omega,hlt,by rw[hd,ht]⟩ (by omega) ?_
   simp -implicitDefEqProofs [e2]
 ·have:k=l.length:=by omega
  subst this
  rw[List.take_length]at hR
  simp -implicitDefEqProofs
  refine EndO.ret [0] [0] (.row 0) (by simp) ?_
  simp -implicitDefEqProofs [hR]
end Go.Am
namespace Go.Am
open Go.Proofs
theorem dedup_mem:∀(l:List Int) (r:Int),r∈dedup l↔r∈l
 |[],r=>Iff.rfl
 |[x],r=>Iff.rfl
 |x::y::l,r=>by
  have ih:=dedup_mem (y::l) r
  rw[dedup]
  split
  ·rename_i h
   subst h
   rw[ih]
   simp
  ·rw[List.mem_cons,ih,List.mem_cons (a:=r) (b:=x)]
theorem dedup_sorted:∀{l:List Int},l.Pairwise (·≤·)→(dedup l).Pairwise (·<·)
 |[],_=>List.Pairwise.nil
 |[x],_=>List.pairwise_singleton _ _
 |x::y::l,h=>by
  have h1:=List.pairwise_cons.1 h
  have h2:=List.pairwise_cons.1 h1.2
  rw[dedup]
  split
  ·exact dedup_sorted h1.2
  ·rename_i hne
   refine List.pairwise_cons.2 ⟨fun z hz=>?_,dedup_sorted h1.2⟩
   rw[dedup_mem]at hz
   have hxy:=h1.1 y List.mem_cons_self
   rcases List.mem_cons.1 hz with rfl|hz
   ·omega
   ·have:=h2.1 z hz
    omega
def happT (l:List Ev) (a b:Int):List Int:=(l.filter fun e=>decide (a<e.time)&&decide (e.time≤b)).map Ev.time
def timesF (l:List Ev) (a b:Int):List Int:=dedup (sortI (happT l a b))
theorem timesF_sorted (l:List Ev) (a b:Int):(timesF l a b).Pairwise (·<·):=dedup_sorted (sortI_sorted _)
theorem timesF_mem (l:List Ev) (a b r:Int):r∈timesF l a b↔r∈happT l a b:=by
 unfold timesF
 rw[dedup_mem]
 exact(sortI_perm _).mem_iff
theorem happT_take (l:List Ev) (a b:Int) (k:Nat) (h:k<l.length):happT (l.take (k+1)) a b=if a<l[k].time∧l[k].time≤b then happT (l.take k) a b++[l[k].time]else happT (l.take k) a b:=by
 unfold happT
 rw[filter_take _ _ _ h]
 by_cases hh:a<l[k].time∧l[k].time≤b
 ·rw[if_pos hh,if_pos (by simp[hh]),List.map_append]
  rfl
 ·rw[if_neg hh,if_neg (by simp only[Bool.and_eq_true,decide_eq_true_eq];exact hh)]
theorem happT_len (l:List Ev) (a b:Int):(happT l a b).length≤l.length:=by
 unfold happT
 rw[List.length_map]
 exact List.length_filter_le _ _
theorem rowN_app (l:List Int) (x:Int):rowN (l++[x])=rowN l++[[.sc (.int .i64 x)]]:=by simp[rowN]
end Go.Am
namespace Go.Am
open Go.Proofs
@[simp] def bookI (p:Past):AObj:=.box 262 [.im (.sl 4 (p.base.seats.map Seat.iv)),.im (.sl 4 (p.base.routers.map Router.iv)),.int .i64 p.hz,.im (.sl 12 (p.evs.map Ev.iv)),.im (.sc (.slice none 0 0)),.im (.sc (.slice none 0 0)),.int .i64 0]
set_option maxRecDepth 8000 in
set_option maxHeartbeats 2000000 in
theorem uptoK_spec (p:Past) (t:Int) (hl:p.evs.length≤4096):
  FSpec Tryz.prog 160 [.ptr 0 0,.int .i64 t] [bookI p] (.tup [.im (.sl 12 ((upto t p.evs).map Ev.iv)),.row 1]) [bookI p,evsO (after t p.evs)]:=by
 refine FSpec.of_o (q:=[]) Tryz.func160 (by kernel_rfl) rfl Tryz.ntmps160 Tryz.results160 hP (by kernel_rfl) (by simp) (by first|rfl|simp) ?_
 simp -implicitDefEqProofs
 refine LoopK.nil (.sl 6 79 12) ?_
 simp -implicitDefEqProofs
 refine LoopK.nil (.sl 7 79 12) ?_
 simp -implicitDefEqProofs
 refine LoopK.os (fun k:Nat=>[(1,.int .i64 t),(6,.row 1),(7,.row 2),(14,.im (.sl 12 (p.evs.map Ev.iv))),(15,.int .i64 p.evs.length),(16,.int .i64 k)])
  (fun k=>[bookI p,evsO (upto t (p.evs.take k)),evsO (after t (p.evs.take k))])
  (fun k=>k≤p.evs.length) (fun k=>p.evs.length-k) 0 [0,1,2] (Nat.zero_le _) (by simp[upto_nil,after_nil]) ?_
 intro k hk
 by_cases hlt:k<p.evs.length
 ·have e1:IntKind.i64.wrap (k+1)=(k+1:Nat):=wrap64 (by omega) (by omega)
  have g1:=upto_take t p.evs k hlt
  have b1:=upto_len t (p.evs.take k)
  have g2:=after_take t p.evs k hlt
  have b2:=after_len t (p.evs.take k)
  rw[List.length_take]at b1 b2
  obtain⟨E,hE⟩:∃E,p.evs[k]=E:=⟨_,rfl⟩
  rw[hE]at g1 g2
  simp -implicitDefEqProofs [hlt,hE]
  refine⟨fun h=>⟨⟨by omega,by unfold maxLen;omega⟩,?_⟩,fun h=>⟨⟨by omega,by unfold maxLen;omega⟩,?_⟩⟩
  ·rw[if_pos h]at g1
   rw[if_neg (by omega)]at g2
   refine Again.os (k+1) [0,5,2] hlt (by omega) ?_
   simp -implicitDefEqProofs [e1,g1,g2]
  ·rw[if_neg (by omega)]at g1
   rw[if_pos (by omega)]at g2
   refine Again.os (k+1) [0,1,5] hlt (by omega) ?_
   simp -implicitDefEqProofs [e1,g1,g2]
 ·have hkk:k=p.evs.length:=by omega
  subst hkk
  simp -implicitDefEqProofs
  refine EndO.ret [1] [0,2] (.tup [.row 1,.row 2]) (by simp) ?_
  simp -implicitDefEqProofs
set_option maxRecDepth 8000 in
set_option maxHeartbeats 2000000 in
theorem atK_spec (p:Past) (t:Int) (hew:∀e∈p.evs,0≤e.seq) (hl:p.evs.length≤4096) (hb:askT p t=0):
  FSpec Tryz.prog 84 [.ptr 0 0,.int .i64 t] [bookI p] (.tup [(thenF p t).av,.row 1,.int .i64 (thenW p t)]) [bookI p,evsO (after t p.evs)]:=by
 have h3:=allNo_spec p.base (upto t p.evs) p.hz (fun e he=>hew e (List.mem_filter.1 he).1)
 have hu:=uptoK_spec p t hl
 unfold thenF thenW
 generalize allN p.base (upto t p.evs) p.hz=RES at*
 unfold askT at hb
 by_cases h1:t<0∨1099511627776<t
 ·rw[if_pos h1]at hb
  cases hb
 rw[if_neg h1]at hb
 by_cases h2:t<p.hz
 ·rw[if_pos h2]at hb
  cases hb
 have g3:¬t<0:=by omega
 have g4:¬1099511627776<t:=by omega
 refine FSpec.of_o (q:=[(6,.m [.p [] [],.p [] [],.p [] [],.p [] [],.p [] [],.p [] [],.p [] [],.p [] [],.p [] [],.p [] [],.p [] [],.e [40,41,46],.p [] [],.p [] [],.p [2] [],.p [2] [],.a 0 1,.e [9,48],.p [] []])]) Tryz.func84 (by kernel_rfl) rfl Tryz.ntmps84 Tryz.results84 hP (by kernel_rfl) (by simp) (by first|rfl|simp) ?_
 simp -implicitDefEqProofs [g3,g4,h2]
 refine CallO.mk [] [0] hu (by simp) rfl (by simp) (by simp) (by simp) ?_
 simp -implicitDefEqProofs
 first|refine CallK.same (h3) rfl rfl ?_|refine CallQ.same (h3) rfl rfl ?_|refine CallQG.same _ (h3) rfl ?_|refine CallG.same _ (h3) rfl ?_|refine CallK.pv (h3) rfl rfl ?_
 simp -implicitDefEqProofs
 refine EndO.ret [] [0,2] (.tup [RES.1.av,.row 2,.int .i64 RES.2.2]) (by simp) ?_
 simp -implicitDefEqProofs
set_option maxRecDepth 8000 in
set_option maxHeartbeats 2000000 in
theorem timesK_spec (p:Past) (a b:Int) (hl:p.evs.length≤4096):
  FSpec Tryz.prog 119 [.ptr 0 0,.agg [.int .i64 a,.int .i64 b]] [bookI p] (.im (.sl 1 (rowN (timesF p.evs a b)))) [bookI p]:=by
 have hsl:=sort64_spec (happT p.evs a b) (by have:=happT_len p.evs a b;omega)
 have hcl:=compact_spec (sortI (happT p.evs a b)) (by rw[(sortI_perm _).length_eq];have:=happT_len p.evs a b;omega)
 unfold timesF
 refine FSpec.of_o (q:=[]) Tryz.func119 (by kernel_rfl) rfl Tryz.ntmps119 Tryz.results119 hP (by kernel_rfl) (by simp) (by first|rfl|simp) ?_
 simp -implicitDefEqProofs
 refine LoopK.nil (.sl 5 2 1) ?_
 simp -implicitDefEqProofs
 refine LoopK.os (fun k:Nat=>[(3,.ptr 1 0),(5,.row 2),(12,.im (.sl 12 (p.evs.map Ev.iv))),(13,.int .i64 p.evs.length),(14,.int .i64 k)])
  (fun k=>[bookI p,.box 43 [.int .i64 a,.int .i64 b],.row 2 1 (rowN (happT (p.evs.take k) a b))])
  (fun k=>k≤p.evs.length) (fun k=>p.evs.length-k) 0 [0,1,2] (Nat.zero_le _) (by simp[happT,rowN]) ?_
 intro k hk
 by_cases hlt:k<p.evs.length
 ·have e1:IntKind.i64.wrap (k+1)=(k+1:Nat):=wrap64 (by omega) (by omega)
  have g1:=happT_take p.evs a b k hlt
  have b1:=happT_len (p.evs.take k) a b
  rw[List.length_take]at b1
  obtain⟨E,hE⟩:∃E,p.evs[k]=E:=⟨_,rfl⟩
  rw[hE]at g1
  simp -implicitDefEqProofs [hlt,hE]
  refine⟨fun h1 h2=>⟨⟨by omega,by unfold maxLen;omega⟩,?_⟩,fun h=>?_⟩
  ·rw[if_pos ⟨h1,h2⟩]at g1
   refine Again.os (k+1) [0,1,5] hlt (by omega) ?_
   simp -implicitDefEqProofs [e1,g1,rowN_app]
  ·rw[if_neg (by intro hh;have:=h hh.1;omega)]at g1
   refine Again.os (k+1) [0,1,2] hlt (by omega) ?_
   simp -implicitDefEqProofs [e1,g1]
 ·have hkk:k=p.evs.length:=by omega
  subst hkk
  simp -implicitDefEqProofs
  refine CallO.mk [] [2] hsl (by simp) rfl (by simp) (by simp) (by simp) ?_
  simp -implicitDefEqProofs
  refine CallO.mk [] [2] hcl (by simp) rfl (by simp) (by simp) (by simp) ?_
  simp -implicitDefEqProofs
  refine EndO.ret [] [0] (.im (.sl 1 (rowN (dedup (sortI (happT p.evs a b)))))) (by simp) ?_
  simp -implicitDefEqProofs
end Go.Am
namespace Go.Am
open Go.Proofs
def rowM (l:List (List Int)):List (List IV):=l.map fun x=>[.sl 1 (rowN x)]
theorem growN_spec (n:Int) (h0:0≤n) (h1:n≤10000):FSpec Tryz.prog 271 [.im (.sc (.slice none 0 0)),.int .i64 n] [] (.row 0) [.row 2 1 []]:=by
 refine FSpec.of_o (q:=[]) Tryz.func271 (by kernel_rfl) rfl Tryz.ntmps271 Tryz.results271 hP (by kernel_rfl) (by simp) (by first|rfl|simp) ?_
 have e0:IntKind.i64.wrap 0=0:=by decide
 have e1:IntKind.i64.wrap n=n:=wrap64 (by omega) (by omega)
 simp[e0,e1]
 refine⟨h0,fun _=>⟨fun hp=>⟨⟨hp,by unfold maxLen;omega,by omega⟩,.inr ⟨by omega,?_⟩⟩,fun hz=>?_⟩⟩
 ·refine EndO.ret [] [1] (.row 1) (by simp) (by simp)
 ·refine EndO.nilR (.sl 4 2 1) ?_
  simp
  refine EndO.ret [] [0] (.row 0) (by simp) (by simp)
theorem rowM_get (l:List (List Int)) (k:Nat) (h:k<l.length):(rowM l)[k]? =some [.sl 1 (rowN l[k])]:=by simp[rowM,h]
@[simp] theorem rowM_getElem (l:List (List Int)) (k:Nat) (h:k<(rowM l).length):(rowM l)[k]=[.sl 1 (rowN (l[k]'(by simpa [rowM]using h)))]:=by simp[rowM]
@[simp] theorem rowM_length (l:List (List Int)):(rowM l).length=l.length:=by simp[rowM]
theorem rowN_append (l t:List Int):rowN (l++t)=rowN l++rowN t:=by simp[rowN]
def sumM (l:List (List Int)):Nat:=(l.map List.length).sum
theorem sumM_snoc (l:List (List Int)) (x:List Int):sumM (l++[x])=sumM l+x.length:=by simp[sumM]
theorem sumM_take (l:List (List Int)) (k:Nat) (h:k<l.length):sumM (l.take (k+1))=sumM (l.take k)+l[k].length:=by
 rw[List.take_add_one,List.getElem?_eq_getElem h];exact sumM_snoc _ _
theorem sumM_le (l:List (List Int)):∀k,sumM (l.take k)≤sumM l:=fun k=>by
 have:sumM l=sumM (l.take k)+sumM (l.drop k):=by
  unfold sumM
  rw[←List.sum_append,←List.map_append,List.take_append_drop]
 omega
theorem flatM_take (l:List (List Int)) (k:Nat) (h:k<l.length):(l.take (k+1)).flatten=(l.take k).flatten++l[k]:=by
 rw[List.take_add_one,List.getElem?_eq_getElem h,List.flatten_append];simp
theorem flatM_len (l:List (List Int)):l.flatten.length=sumM l:=by simp[sumM,List.length_flatten]
set_option maxRecDepth 4000 in
theorem concatN_spec (l:List (List Int)) (hs:sumM l≤10000) (hlen:l.length≤1000):FSpec Tryz.prog 212 [.im (.sl 1 (rowM l))] [] (.im (.sl 1 (rowN l.flatten))) []:=by
 refine FSpec.of_z (q:=[]) Tryz.func212 (by kernel_rfl) rfl Tryz.ntmps212 Tryz.results212 hP (by kernel_rfl) (by simp) (by first|rfl|simp) ?_
 simp
 refine LoopK.plain (fun k:Nat=>[(0,.im (.sl 1 (rowM l))),(3,.int .i64 (sumM (l.take k))),(9,.im (.sl 1 (rowM l))),(10,.int .i64 l.length),(11,.int .i64 k)])
  (fun k=>k≤l.length) (fun k=>l.length-k) 0 (Nat.zero_le _) (by simp[sumM]) ?_
 intro k hk
 by_cases hlt:k<l.length
 ·have e1:IntKind.i64.wrap (k+1)=(k+1:Nat):=wrap64 (by omega) (by omega)
  have hst:=sumM_take l k hlt
  have hsl:=sumM_le l (k+1)
  have e2:IntKind.i64.wrap ((sumM (l.take k):Int)+l[k].length)=(sumM (l.take (k+1)):Nat):=by rw[wrap64 (by omega) (by omega)];omega
  have hg:=rowM_get l k hlt
  simp[hlt,hg,e1,e2]
  refine Again.plain (k+1) hlt (by omega) (by simp)
 ·have hkk:k=l.length:=by omega
  subst hkk
  simp
  refine CallK.outs [] (growN_spec (sumM l) (by omega) (by omega)) rfl ?_ ?_ ?_
  ·simp
  ·simp[AV.flat]
  simp
  refine LoopK.os (fun k:Nat=>[(6,.row 0),(25,.im (.sl 1 (rowM l))),(26,.int .i64 l.length),(27,.int .i64 k)])
   (fun k=>[.row 2 1 (rowN (l.take k).flatten)]) (fun k=>k≤l.length) (fun k=>l.length-k) 0 [0] (Nat.zero_le _) (by simp[rowN]) ?_
  intro k hk
  by_cases hlt:k<l.length
  ·have e1:IntKind.i64.wrap (k+1)=(k+1:Nat):=wrap64 (by omega) (by omega)
   have hg:=rowM_get l k hlt
   have hft:=flatM_take l k hlt
   have hst:=sumM_take l k hlt
   have hsl:=sumM_le l (k+1)
   have hfl:=flatM_len (l.take k)
   simp[-List.length_flatten,hlt,hg,e1]
   refine⟨⟨by omega,by unfold maxLen;omega⟩,?_⟩
   refine Again.os (k+1) [1] hlt (by omega) ?_
   simp[hft,rowN_append]
  ·have hkk:k=l.length:=by omega
   subst hkk
   simp
   refine EndZ.ret [0] (.row 0) (by simp) (by simp)
end Go.Am
namespace Go.Am
structure Pc (T:Type) where
 a:Int
 b:Int
 v:T
variable {T:Type} [DecidableEq T]
def addPc:List (Pc T)→Int→Int→T→List (Pc T)
 |[],a,b,v=>[⟨a,b,v⟩]
 |[x],a,b,v=>if x.v=v then[⟨x.a,b,x.v⟩]else[x,⟨a,b,v⟩]
 |x::y::l,a,b,v=>x::addPc (y::l) a b v
theorem addPc_last:∀(l:List (Pc T)) (x:Pc T) (a b:Int) (v:T),addPc (l++[x]) a b v=if x.v=v then l++[⟨x.a,b,x.v⟩]else l++[x,⟨a,b,v⟩]
 |[],x,a,b,v=>rfl
 |y::l,x,a,b,v=>by
  have ih:=addPc_last l x a b v
  cases l with
  |nil=>
   show y::addPc [x] a b v=_
   simp only[addPc,List.nil_append]
   split<;>rfl
  |cons z l=>
   show y::addPc (z::(l++[x])) a b v=_
   rw[List.cons_append]at ih
   rw[ih]
   split<;>rfl
theorem addPc_len:∀(l:List (Pc T)) (a b:Int) (v:T),(addPc l a b v).length≤l.length+1
 |[],a,b,v=>Nat.le_refl _
 |[x],a,b,v=>by rw[addPc];split<;>simp
 |x::y::l,a,b,v=>by
  rw[addPc]
  have:=addPc_len (y::l) a b v
  simp only[List.length_cons]at this⊢
  omega
def Tile:Int→Option T→List (Pc T)→Int→Prop
 |n,_,[],e=>n=e
 |n,pv,x::l,e=>x.a=n∧x.a≤x.b∧pv≠some x.v∧Tile (x.b+1) (some x.v) l e
def PcVal (g:Int→T) (l:List (Pc T)):Prop:=∀x∈l,∀t,x.a≤t→t≤x.b→g t=x.v
theorem Tile.le:∀{l:List (Pc T)} {n:Int} {pv:Option T} {e:Int},Tile n pv l e→n≤e
 |[],n,pv,e,h=>by have:n=e:=h;omega
 |x::l,n,pv,e,h=>by
  obtain⟨h1,h2,_,h3⟩:=h
  have:=h3.le
  omega
theorem addPc_tile:∀{l:List (Pc T)} {n:Int} {pv:Option T} {e b:Int} {v:T},Tile n pv l e→e≤b→(l=[]→pv≠some v)→Tile n pv (addPc l e b v) (b+1)
 |[],n,pv,e,b,v,h,hb,hp=>⟨h.symm,hb,hp rfl,rfl⟩
 |[x],n,pv,e,b,v,h,hb,hp=>by
  obtain⟨h1,h2,h3,h4⟩:=h
  have h4:x.b+1=e:=h4
  rw[addPc]
  split
  ·exact⟨h1,by show x.a≤b;omega,h3,rfl⟩
  ·rename_i hv
   exact⟨h1,h2,h3,h4.symm,by show e≤b;exact hb,fun hh=>hv (Option.some.inj hh),rfl⟩
 |x::y::l,n,pv,e,b,v,h,hb,hp=>by
  obtain⟨h1,h2,h3,h4⟩:=h
  exact⟨h1,h2,h3,addPc_tile h4 hb fun hh=>by cases hh⟩
theorem addPc_val {g:Int→T}:∀{l:List (Pc T)} {n:Int} {pv:Option T} {e b:Int} {v:T},Tile n pv l e→PcVal g l→(∀t,e≤t→t≤b→g t=v)→PcVal g (addPc l e b v)
 |[],n,pv,e,b,v,h,hg,hv=>by
  intro x hx
  rw[addPc,List.mem_singleton]at hx
  subst hx
  exact hv
 |[x],n,pv,e,b,v,h,hg,hv=>by
  obtain⟨h1,h2,h3,h4⟩:=h
  have h4:x.b+1=e:=h4
  rw[addPc]
  split
  ·rename_i hxv
   intro y hy t ht1 ht2
   rw[List.mem_singleton]at hy
   subst hy
   have ht1:x.a≤t:=ht1
   have ht2:t≤b:=ht2
   show g t=x.v
   rcases Int.lt_or_le x.b t with h5|h5
   ·rw[hxv];exact hv t (by omega) ht2
   ·exact hg x List.mem_cons_self t ht1 h5
  ·intro y hy
   rcases List.mem_cons.1 hy with rfl|hy
   ·exact hg y List.mem_cons_self
   ·rw[List.mem_singleton]at hy
    subst hy
    exact hv
 |x::y::l,n,pv,e,b,v,h,hg,hv=>by
  obtain⟨h1,h2,h3,h4⟩:=h
  intro z hz
  rw[addPc]at hz
  rcases List.mem_cons.1 hz with rfl|hz
  ·exact hg z List.mem_cons_self
  ·exact addPc_val h4 (fun w hw=>hg w (List.mem_cons_of_mem _ hw)) hv z hz
def lineG (f:Int→T) (b:Int):List Int→List (Pc T)→List (Pc T)
 |[],L=>L
 |[t],L=>addPc L t b (f t)
 |t::t'::l,L=>lineG f b (t'::l) (addPc L t (t'-1) (f t))
theorem lineG_len (f:Int→T) (b:Int):∀(ts:List Int) (L:List (Pc T)),(lineG f b ts L).length≤L.length+ts.length
 |[],L=>by simp[lineG]
 |[t],L=>by rw[lineG];exact addPc_len L t b (f t)
 |t::t'::l,L=>by
  rw[lineG]
  have h1:=lineG_len f b (t'::l) (addPc L t (t'-1) (f t))
  have h2:=addPc_len L t (t'-1) (f t)
  simp only[List.length_cons]at h1⊢
  omega
theorem lineG_tile (f:Int→T) (b:Int):∀(t:Int) (ts:List Int) (L:List (Pc T)) (n:Int),((t::ts).Pairwise (·<·))→(∀x∈t::ts,x≤b)→Tile n none L t→Tile n none (lineG f b (t::ts) L) (b+1)
 |t,[],L,n,_,hb,h=>by
  rw[lineG]
  exact addPc_tile h (hb t List.mem_cons_self) fun _=>by simp
 |t,t'::l,L,n,hp,hb,h=>by
  rw[lineG]
  have h1:=(List.pairwise_cons.1 hp).1 t' List.mem_cons_self
  have h2:=addPc_tile (b:=t'-1) (v:=f t) h (by omega) fun _=>by simp
  rw[show t'-1+1=t' by omega]at h2
  exact lineG_tile f b t' l _ n (List.pairwise_cons.1 hp).2 (fun x hx=>hb x (List.mem_cons_of_mem _ hx)) h2
theorem lineG_val {g:Int→T} (f:Int→T) (b:Int):∀(t:Int) (ts:List Int) (L:List (Pc T)) (n:Int),((t::ts).Pairwise (·<·))→(∀x∈t::ts,x≤b)→Tile n none L t→PcVal g L→
  (∀x∈t::ts,∀u,x≤u→u≤b→(∀y∈t::ts,y≤u→y≤x)→g u=f x)→PcVal g (lineG f b (t::ts) L)
 |t,[],L,n,_,hb,h,hv,hg=>by
  rw[lineG]
  refine addPc_val h hv fun u h1 h2=>hg t List.mem_cons_self u h1 h2 fun y hy _=>?_
  rw[List.mem_singleton]at hy
  omega
 |t,t'::l,L,n,hp,hb,h,hv,hg=>by
  rw[lineG]
  have hp1:=List.pairwise_cons.1 hp
  have hp2:=List.pairwise_cons.1 hp1.2
  have h1:=hp1.1 t' List.mem_cons_self
  have hbt:=hb t' (List.mem_cons_of_mem _ List.mem_cons_self)
  have h2:=addPc_tile (b:=t'-1) (v:=f t) h (by omega) fun _=>by simp
  rw[show t'-1+1=t' by omega]at h2
  refine lineG_val f b t' l _ n hp1.2 (fun x hx=>hb x (List.mem_cons_of_mem _ hx)) h2 (addPc_val h hv fun u h3 h4=>hg t List.mem_cons_self u h3 (by omega) fun y hy hyu=>?_) ?_
  ·rcases List.mem_cons.1 hy with rfl|hy
   ·exact Int.le_refl _
   ·rcases List.mem_cons.1 hy with rfl|hy
    ·omega
    ·have:=hp2.1 y hy;omega
  ·intro x hx u h3 h4 h5
   refine hg x (List.mem_cons_of_mem _ hx) u h3 h4 fun y hy hyu=>?_
   rcases List.mem_cons.1 hy with rfl|hy
   ·have:t'≤x:=by
     rcases List.mem_cons.1 hx with rfl|hx
     ·exact Int.le_refl _
     ·have:=hp2.1 x hx;omega
    omega
   ·exact h5 y hy hyu
end Go.Am
namespace Go.Am
open Go.Proofs
deriving instance DecidableEq for Hop
@[simp] def Pc.ivHop (x:Pc Hop):List IV:=[.sc (.int .i64 x.a),.sc (.int .i64 x.b),.sc (.int .u8 x.v.kind),.sc (.int .i64 x.v.peer)]
theorem get_end {α β:Type} (f:α→β) (l:List α) (r:β):(l.map f++[r])[l.length]? =some r:=by simp[List.getElem?_append]
theorem mod_end {β:Type} (g:β→β) (r:β):∀l:List β,(l++[r]).modify l.length g=l++[g r]
 |[]=>rfl
 |y::l=>by
  show y::(l++[r]).modify l.length g=y::(l++[g r])
  rw[mod_end g r l]
theorem addPc_ext {T:Type} [DecidableEq T] (L:List (Pc T)) (x:Pc T) (a b:Int):addPc (L++[x]) a b x.v=L++[⟨x.a,b,x.v⟩]:=by rw[addPc_last,if_pos rfl]
theorem addPc_new {T:Type} [DecidableEq T] (L:List (Pc T)) (a b:Int) (v:T) (hne:∀x,L.getLast? =some x→x.v≠v):addPc L a b v=L++[⟨a,b,v⟩]:=by
 rcases List.eq_nil_or_concat L with rfl|⟨L',x,rfl⟩
 ·rfl
 ·rw[List.concat_eq_append]at hne⊢
  rw[addPc_last,if_neg (hne x (by simp)),List.append_assoc]
  rfl
theorem Hop_ext {v w:Hop}:v.kind=w.kind→v.peer=w.peer→v=w:=by
 obtain⟨a,b⟩:=v
 obtain⟨a',b'⟩:=w
 simp only
 intros
 subst_vars
 rfl
end Go.Am
namespace Go.Am
open Go.Proofs
abbrev Ivl:=Int×Int
@[simp] def ivI (x:Ivl):List IV:=[.sc (.int .i64 x.1),.sc (.int .i64 x.2)]
theorem nan64_spec (n:Int):FSpec Tryz.prog 214 [.int .i64 n] [] (.bool false) []:=by
 refine FSpec.of_flat (q:=[]) Tryz.func214 (by kernel_rfl) rfl Tryz.ntmps214 Tryz.results214 hP (by kernel_rfl) (by simp) (by first|rfl|simp) ?_
 simp
theorem cmp64_spec (m n:Int):FSpec Tryz.prog 142 [.int .i64 m,.int .i64 n] [] (.int .i64 (cmpI m n)) []:=by
 refine FSpec.of_flat (q:=[]) Tryz.func142 (by kernel_rfl) rfl Tryz.ntmps142 Tryz.results142 hP (by kernel_rfl) (by simp) (by first|rfl|simp) ?_
 simp
 refine CallK.same (nan64_spec _) rfl rfl ?_
 simp
 refine CallK.same (nan64_spec _) rfl rfl ?_
 simp[cmpI]
 refine⟨fun h h'=>by omega,fun h=>⟨fun h'=>?_,fun h'=>?_⟩⟩
 all_goals (repeat' split)<;>omega
theorem timesI_spec:FSpec Tryz.prog 71 [] [] (.agg [.int .i64 0,.int .i64 1099511627776,.fn 142 [],.fn 143 [],.fn 144 []]) []:=by
 refine FSpec.of_flat (q:=[]) Tryz.func71 (by kernel_rfl) rfl Tryz.ntmps71 Tryz.results71 hP (by kernel_rfl) (by simp) (by first|rfl|simp) ?_
 simp
theorem nextI_spec (t:Int):FSpec Tryz.prog 143 [.int .i64 t] [] (.int .i64 (IntKind.i64.wrap (t+1))) []:=by
 refine FSpec.of_flat (q:=[]) Tryz.func143 (by kernel_rfl) rfl Tryz.ntmps143 Tryz.results143 hP (by kernel_rfl) (by simp) (by first|rfl|simp) ?_
 simp
def zs2 (n:Nat):List (List IV):=List.replicate n [.sc (.int .i64 0),.sc (.int .i64 0)]
theorem runsI_spec (l:List Ivl) (hl:l.length≤4096):FSpec Tryz.prog 73 [.im (.sl 2 (l.map ivI))] [] (.im (.sl 2 (l.map ivI))) []:=by
 refine FSpec.of_z (q:=[]) Tryz.func73 (by kernel_rfl) rfl Tryz.ntmps73 Tryz.results73 hP (by kernel_rfl) (by simp) (by first|rfl|simp) ?_
 simp -implicitDefEqProofs
 refine⟨⟨by omega,by unfold maxLen;omega⟩,?_⟩
 have hput:∀k,(h:k<l.length)→(((l.take k).map ivI++zs2 (l.length-k)).modify k fun x=>ivI l[k]++x.drop 2)=(l.take (k+1)).map ivI++zs2 (l.length-(k+1)):=by
  intro k h
  have hk:((l.take k).map ivI).length=k:=by simp;omega
  obtain⟨r,hr⟩:∃r,l.length-k=r+1:=⟨l.length-k-1,by omega⟩
  have hr':l.length-(k+1)=r:=by omega
  have hm:=modL ((l.take k).map ivI) [.sc (.int .i64 0),.sc (.int .i64 0)] (zs2 r) (fun x=>ivI l[k]++x.drop 2)
  rw[hk]at hm
  rw[hr,hr',List.take_add_one,List.getElem?_eq_getElem h]
  unfold zs2 at*
  rw[List.replicate_succ,hm]
  show _=List.map ivI (l.take k++[l[k]])++_
  rw[List.map_append,List.append_assoc]
  rfl
 refine LoopK.os (fun k:Nat=>[(3,.row 0),(9,.im (.sl 2 (l.map ivI))),(10,.int .i64 l.length),(11,.int .i64 k)])
  (fun k=>[.row 251 2 ((l.take k).map ivI++zs2 (l.length-k))])
  (fun k=>k≤l.length) (fun k=>l.length-k) 0 [0] (Nat.zero_le _) (by simp[zs2]) ?_
 intro k hk
 by_cases hlt:k<l.length
 ·have e1:IntKind.i64.wrap (k+1)=(k+1:Nat):=wrap64 (by omega) (by omega)
  have hp:=hput k hlt
  obtain⟨E,hE⟩:∃E,l[k]=E:=⟨_,rfl⟩
  have hg:(l.map ivI)[k]? =some [.sc (.int .i64 E.1),.sc (.int .i64 E.2)]:=by simp[hlt,hE,ivI]
  have hkl:k<k+(l.length-k):=by omega
  rw[hE]at hp
  simp -implicitDefEqProofs [hlt,hE,zs2]
  refine⟨by omega,by omega,?_⟩
  refine Again.os (k+1) [0] hlt (by omega) ?_
  simp -implicitDefEqProofs [e1]
  simpa [zs2]using hp
 ·have hkk:k=l.length:=by omega
  subst hkk
  simp -implicitDefEqProofs
  refine EndZ.ret [0] (.row 0) (by simp) ?_
  simp -implicitDefEqProofs [zs2]
theorem cmpI_pos (a b:Int):(0<cmpI a b)=(b<a):=by
 unfold cmpI
 apply propext
 repeat' split
 all_goals omega
theorem cmpI_nn (a b:Int):(0≤cmpI a b)=(b≤a):=by
 unfold cmpI
 apply propext
 repeat' split
 all_goals omega
@[simp] def fieldI:AV:=.agg [.int .i64 0,.int .i64 1099511627776,.fn 142 [],.fn 143 [],.fn 144 []]
def aheadI (pv:Option Int) (x:Ivl):Bool:=match pv with
 |none=>true
 |some q=>decide (¬q=1099511627776)&&decide (q+1<x.1)
def soundI:List Ivl→Option Int→Bool
 |[],_=>true
 |x::l,pv=>(decide (0≤x.1)&&decide (x.1≤x.2)&&decide (x.2≤1099511627776))&&aheadI pv x&&soundI l (some x.2)
def prevI (l:List Ivl):Nat→Option Int
 |0=>none
 |k+1=>(l[k]?).map Prod.snd
set_option maxRecDepth 8000 in
set_option maxHeartbeats 2000000 in
theorem soundI_spec (l:List Ivl) (hl:l.length≤1000000000):FSpec Tryz.prog 141 [fieldI,.im (.sl 2 (l.map ivI))] [] (.bool (soundI l none)) []:=by
 refine FSpec.of_flat (q:=[(6,.n 26)]) Tryz.func141 (by kernel_rfl) rfl Tryz.ntmps141 Tryz.results141 hP (by kernel_rfl) (by simp) (by first|rfl|simp) ?_
 simp -implicitDefEqProofs
 refine LoopK.os (fun k:Nat=>[(1,.im (.sl 2 (l.map ivI))),(2,.ptr 0 0),(7,.im (.sl 2 (l.map ivI))),(8,.int .i64 l.length),(9,.int .i64 k)])
  (fun _=>[.box 136 [.int .i64 0,.int .i64 1099511627776,.fn 142 [],.fn 143 [],.fn 144 []]])
  (fun k=>k≤l.length∧(∀q,prevI l k=some q→0≤q∧q≤1099511627776)∧soundI (l.drop k) (prevI l k)=soundI l none) (fun k=>l.length-k) 0 [0] ⟨Nat.zero_le _,by simp[prevI],by simp[prevI]⟩ (by simp) ?_
 rintro k ⟨hk,hq,hR⟩
 by_cases hlt:k<l.length
 ·have e1:IntKind.i64.wrap (k+1)=(k+1:Nat):=wrap64 (by omega) (by omega)
  obtain⟨E,hE⟩:∃E,l[k]=E:=⟨_,rfl⟩
  have hg:(l.map ivI)[k]? =some [.sc (.int .i64 E.1),.sc (.int .i64 E.2)]:=by simp[hlt,hE,ivI]
  have hc1:=cmp64_spec 0 E.1
  have hc2:=cmp64_spec E.1 E.2
  have hc3:=cmp64_spec E.2 1099511627776
  rw[List.drop_eq_getElem_cons hlt,hE,soundI]at hR
  obtain⟨V,hV⟩:∃V,l[k-1]=V:=⟨_,rfl⟩
  have hV':l[k-1]? =some V:=by rw[List.getElem?_eq_getElem (by omega),hV]
  have e0:(IntKind.i64.wrap ((k:Int)-1)).toNat=k-1:=by rw[wrap64 (by omega) (by omega)];omega
  have e3:0<k→0≤IntKind.i64.wrap ((k:Int)-1)∧IntKind.i64.wrap ((k:Int)-1)<l.length:=fun h=>by rw[wrap64 (by omega) (by omega)];omega
  have hn:=nextI_spec V.2
  have hc4:=cmp64_spec (IntKind.i64.wrap (V.2+1)) E.1
  simp -implicitDefEqProofs [hlt,hE]
  first|refine CallK.same (hc1) rfl rfl ?_|refine CallQ.same (hc1) rfl rfl ?_|refine CallQG.same _ (hc1) rfl ?_|refine CallG.same _ (hc1) rfl ?_|refine CallK.pv (hc1) rfl rfl ?_
  simp -implicitDefEqProofs
  first|refine CallK.same (hc2) rfl rfl ?_|refine CallQ.same (hc2) rfl rfl ?_|refine CallQG.same _ (hc2) rfl ?_|refine CallG.same _ (hc2) rfl ?_|refine CallK.pv (hc2) rfl rfl ?_
  simp -implicitDefEqProofs
  first|refine CallK.same (hc3) rfl rfl ?_|refine CallQ.same (hc3) rfl rfl ?_|refine CallQG.same _ (hc3) rfl ?_|refine CallG.same _ (hc3) rfl ?_|refine CallK.pv (hc3) rfl rfl ?_
  simp -implicitDefEqProofs [cmpI_pos,cmpI_nn,e0,hV',hV]
  refine⟨fun h=>?_,fun d1 d2 d3=>?_⟩
  ·rw[←hR]
   simp
   intro h1 h2 h3
   omega
  refine⟨e3,?_⟩
  refine⟨fun a b=>e3 a,?_⟩
  first|refine CallK.same (hn) rfl rfl ?_|refine CallQ.same (hn) rfl rfl ?_|refine CallQG.same _ (hn) rfl ?_|refine CallG.same _ (hn) rfl ?_|refine CallK.pv (hn) rfl rfl ?_
  simp -implicitDefEqProofs
  first|refine CallK.same (hc4) rfl rfl ?_|refine CallQ.same (hc4) rfl rfl ?_|refine CallQG.same _ (hc4) rfl ?_|refine CallG.same _ (hc4) rfl ?_|refine CallK.pv (hc4) rfl rfl ?_
  simp -implicitDefEqProofs [cmpI_nn]
  have hA0:k=0→aheadI (prevI l k) E=true:=by intro h;subst h;rfl
  have hA1:0<k→prevI l k=some V.2:=by
   intro h
   obtain⟨i,rfl⟩:∃i,k=i+1:=⟨k-1,by omega⟩
   rw[show i+1-1=i from rfl]at hV'
   rw[prevI,hV']
   rfl
  have hA:0<k→aheadI (prevI l k) E=(decide (¬V.2=1099511627776)&&decide (V.2+1<E.1)):=by intro h;rw[hA1 h];rfl
  have hw:0<k→IntKind.i64.wrap (V.2+1)=V.2+1:=by
   intro h
   have:=hq V.2 (hA1 h)
   exact wrap64 (by omega) (by omega)
  have hd:(decide (0≤E.1)&&decide (E.1≤E.2)&&decide (E.2≤1099511627776))=true:=by simp[d1,d2,d3]
  rw[hd,Bool.true_and]at hR
  refine⟨fun h=>by cases (V.snd==1099511627776)<;>simp[impB,h],fun h h'=>?_,fun h=>?_⟩
  ·rw[←hR,hA h]
   rw[hw h]at h'
   simp
   intro h1 h2
   omega
  ·have ha:aheadI (prevI l k) E=true:=by
    rcases Nat.eq_zero_or_pos k with h0|h0
    ·exact hA0 h0
    ·have:=h h0
     rw[hw h0]at this
     rw[hA h0]
     simp[this]
   rw[ha,Bool.true_and]at hR
   refine Again.os (k+1) [0] ⟨hlt,?_,?_⟩ (by omega) ?_
   ·intro q hq'
    simp only[prevI,List.getElem?_eq_getElem hlt,hE,Option.map_some,Option.some.injEq]at hq'
    omega
   ·simp only[prevI,List.getElem?_eq_getElem hlt,hE,Option.map_some]
    exact hR
   ·simp -implicitDefEqProofs [e1]
 ·have hkk:k=l.length:=by omega
  subst hkk
  rw[List.drop_length,soundI]at hR
  simp -implicitDefEqProofs [←hR]
def checkI (l:List Ivl):Int:=if 1024<l.length∨soundI l none=false then 2 else 0
theorem checkI_spec (l:List Ivl):FSpec Tryz.prog 68 [.im (.sl 2 (l.map ivI))] [] (.int .i64 (checkI l)) []:=by
 unfold checkI
 by_cases h:1024<l.length
 ·have h':1024<(l.length:Int):=by omega
  rw[if_pos (.inl h)]
  refine FSpec.of_flat (q:=[]) Tryz.func68 (by kernel_rfl) rfl Tryz.ntmps68 Tryz.results68 hP (by kernel_rfl) (by simp) (by first|rfl|simp) ?_
  simp -implicitDefEqProofs [h']
  refine CallG.off (.int .i64 0) ?_
  simp -implicitDefEqProofs
  refine CallG.off (.int .i64 0) ?_
  simp -implicitDefEqProofs
  refine CallG.off (.int .i64 0) ?_
  simp -implicitDefEqProofs
 ·have h':¬1024<(l.length:Int):=by omega
  have h1:=timesI_spec
  have h2:=runsI_spec l (by omega)
  have h3:=soundI_spec l (by omega)
  have h4:(1024<l.length∨soundI l none=false)↔soundI l none=false:=by simp[h]
  simp only[h4]
  refine FSpec.of_flat (q:=[]) Tryz.func68 (by kernel_rfl) rfl Tryz.ntmps68 Tryz.results68 hP (by kernel_rfl) (by simp) (by first|rfl|simp) ?_
  simp -implicitDefEqProofs [h']
  refine CallG.on ?_
  first|refine CallK.same (h1) rfl rfl ?_|refine CallQ.same (h1) rfl rfl ?_|refine CallQG.same _ (h1) rfl ?_|refine CallG.same _ (h1) rfl ?_|refine CallK.pv (h1) rfl rfl ?_
  simp -implicitDefEqProofs
  refine CallG.on ?_
  first|refine CallK.same (h2) rfl rfl ?_|refine CallQ.same (h2) rfl rfl ?_|refine CallQG.same _ (h2) rfl ?_|refine CallG.same _ (h2) rfl ?_|refine CallK.pv (h2) rfl rfl ?_
  simp -implicitDefEqProofs
  refine CallG.on ?_
  first|refine CallK.same (h3) rfl rfl ?_|refine CallQ.same (h3) rfl rfl ?_|refine CallQG.same _ (h3) rfl ?_|refine CallG.same _ (h3) rfl ?_|refine CallK.pv (h3) rfl rfl ?_
  simp -implicitDefEqProofs
end Go.Am
namespace Go.Am
open Go.Proofs
def oneI (a b:Int):Bool:=decide (0≤a)&&decide (a≤b)&&decide (b≤1099511627776)
def winW (p:Past) (a b:Int):Int:=if oneI a b=false then 1 else if a<p.hz then 15 else 0
theorem window_spec (p:Past) (a b:Int):FSpec Tryz.prog 118 [p.av,.agg [.int .i64 a,.int .i64 b]] [] (.int .i64 (winW p a b)) []:=by
 have h1:=checkI_spec [(a,b)]
 have hx:checkI [(a,b)]=if oneI a b=false then 2 else 0:=by
  unfold checkI oneI
  simp[soundI,aheadI]
 rw[hx]at h1
 unfold winW
 generalize oneI a b=O at*
 refine FSpec.of_flat (q:=[]) Tryz.func118 (by kernel_rfl) rfl Tryz.ntmps118 Tryz.results118 hP (by kernel_rfl) (by simp) (by first|rfl|simp) ?_
 simp -implicitDefEqProofs
 refine CallK.fz [2] h1 rfl (by simp) rfl ?_
 cases O with
 |false=>simp -implicitDefEqProofs
 |true=>
  simp -implicitDefEqProofs
def timesW (p:Past) (a b:Int):Int:=if okP p=false then 2 else winW p a b
end Go.Am
namespace Go.Am
theorem timesF_in {l:List Ev} {a b r:Int} (h:r∈timesF l a b):a<r∧r≤b:=by
 rw[timesF_mem]at h
 unfold happT at h
 obtain⟨e,he,rfl⟩:=List.mem_map.1 h
 have:=(List.mem_filter.1 he).2
 simpa using this
theorem timesF_of {l:List Ev} {a b:Int} {e:Ev} (he:e∈l) (h1:a<e.time) (h2:e.time≤b):e.time∈timesF l a b:=by
 rw[timesF_mem]
 exact List.mem_map.2 ⟨e,List.mem_filter.2 ⟨he,by simp[h1,h2]⟩,rfl⟩
theorem upto_last {l:List Ev} {a b x u:Int} (ha:a≤x) (hxu:x≤u) (hub:u≤b) (h:∀y∈a::timesF l a b,y≤u→y≤x):upto u l=upto x l:=by
 unfold upto
 refine List.filter_congr fun e he=>?_
 have:e.time≤u↔e.time≤x:=by
  refine⟨fun h1=>?_,fun h1=>by omega⟩
  rcases Int.lt_or_le a e.time with h2|h2
  ·exact h e.time (List.mem_cons_of_mem _ (timesF_of he h2 (by omega))) h1
  ·omega
 simp only[this]
variable {T:Type} [DecidableEq T]
def lineP (p:Past) (F:Net→T) (a b:Int):List (Pc T):=lineG (fun t=>F (thenF p t)) b (a::timesF p.evs a b) []
theorem times_pw (l:List Ev) (a b:Int):(a::timesF l a b).Pairwise (·<·):=List.pairwise_cons.2 ⟨fun r hr=>(timesF_in hr).1,timesF_sorted l a b⟩
theorem lineP_tile (p:Past) (F:Net→T) {a b:Int} (hab:a≤b):Tile a none (lineP p F a b) (b+1):=by
 refine lineG_tile _ b a _ [] a (times_pw _ a b) (fun x hx=>?_) rfl
 rcases List.mem_cons.1 hx with rfl|hx
 ·exact hab
 ·exact(timesF_in hx).2
theorem lineP_val (p:Past) (F:Net→T) {a b:Int} (hab:a≤b):PcVal (fun t=>F (thenF p t)) (lineP p F a b):=by
 refine lineG_val _ b a _ [] a (times_pw _ a b) (fun x hx=>?_) rfl (fun x hx=>by cases hx) fun x hx u h1 h2 h3=>?_
 ·rcases List.mem_cons.1 hx with rfl|hx
  ·exact hab
  ·exact(timesF_in hx).2
 ·have hax:a≤x:=by
   rcases List.mem_cons.1 hx with rfl|hx
   ·exact Int.le_refl _
   ·have:=(timesF_in hx).1;omega
  show F (thenF p u)=F (thenF p x)
  unfold thenF
  rw[upto_last hax h1 h2 h3]
theorem lineP_len (p:Past) (F:Net→T) (a b:Int):(lineP p F a b).length≤(timesF p.evs a b).length+1:=by
 have:=lineG_len (fun t=>F (thenF p t)) b (a::timesF p.evs a b) []
 unfold lineP
 simpa using this
end Go.Am
namespace Go.Am
variable {T U R:Type} [DecidableEq T] [DecidableEq U] [DecidableEq R]
end Go.Am
namespace Go.Am
variable {T:Type} [DecidableEq T]
end Go.Am
namespace Go.Am
open Go.Proofs
theorem eachO_spec (p:Past) (a b:Int):FSpec Tryz.prog 136 [p.av,.agg [.int .i64 a,.int .i64 b]] [] (.fn 211 [.ptr 0 0,.ptr 1 0]) [pastO p,.box 43 [.int .i64 a,.int .i64 b]]:=by
 refine FSpec.of_o (q:=[]) Tryz.func136 (by kernel_rfl) rfl Tryz.ntmps136 Tryz.results136 hP (by kernel_rfl) (by simp) (by first|rfl|simp) ?_
 simp -implicitDefEqProofs
 refine EndO.ret [] [0,1] (.fn 211 [.ptr 0 0,.ptr 1 0]) (by simp) ?_
 simp -implicitDefEqProofs
def accG {T:Type} [DecidableEq T] (f:Int→T) (ts:List Int):Nat→List (Pc T)
 |0=>[]
 |k+1=>addPc (accG f ts k) (ts.getD k 0) (ts.getD (k+1) 0-1) (f (ts.getD k 0))
theorem accG_len {T:Type} [DecidableEq T] (f:Int→T) (ts:List Int):∀k,(accG f ts k).length≤k
 |0=>Nat.le_refl _
 |k+1=>by
  have h1:=accG_len f ts k
  have h2:=addPc_len (accG f ts k) (ts.getD k 0) (ts.getD (k+1) 0-1) (f (ts.getD k 0))
  rw[accG]
  omega
theorem lineG_from {T:Type} [DecidableEq T] (f:Int→T) (b:Int) (ts:List Int):∀(d k:Nat),k+d+1=ts.length→lineG f b (ts.drop k) (accG f ts k)=addPc (accG f ts (k+d)) (ts.getD (k+d) 0) b (f (ts.getD (k+d) 0))
 |0,k,h=>by
  have hk:k<ts.length:=by omega
  rw[List.drop_eq_getElem_cons hk,List.drop_eq_nil_of_le (by omega),lineG]
  simp[List.getD_eq_getElem?_getD,List.getElem?_eq_getElem hk]
 |d+1,k,h=>by
  have hk:k<ts.length:=by omega
  have hk1:k+1<ts.length:=by omega
  have ih:=lineG_from f b ts d (k+1) (by omega)
  rw[show k+1+d=k+(d+1)by omega]at ih
  rw[←ih,List.drop_eq_getElem_cons hk,List.drop_eq_getElem_cons hk1,lineG,accG]
  simp[List.getD_eq_getElem?_getD,List.getElem?_eq_getElem hk,List.getElem?_eq_getElem hk1]
theorem lineG_acc {T:Type} [DecidableEq T] (f:Int→T) (b:Int) (ts:List Int) (n:Nat) (h:ts.length=n+1):lineG f b ts []=addPc (accG f ts n) (ts.getD n 0) b (f (ts.getD n 0)):=by
 have:=lineG_from f b ts n 0 (by omega)
 simpa [accG]using this
end Go.Am
namespace Go.Am
open Go.Proofs
def onL:List Int→Int→Int→Int
 |[],_,_=> -1
 |y::l,x,k=>if y=x then k else onL l x (k+1)
theorem on_spec (l:List Int) (x:Int):FSpec Tryz.prog 135 [.im (.sl 1 (rowI l)),.int .i64 x] [] (.int .i64 (onL l x 0)) []:=by
 refine FSpec.bd (enters_of Tryz.func135 (by kernel_rfl) rfl) fun hbd=>?_
 have hl:l.length≤9223372036854775807:=by simp[maxLen]at hbd;exact hbd.1
 refine FSpec.of_flat (q:=[]) Tryz.func135 (by kernel_rfl) rfl Tryz.ntmps135 Tryz.results135 hP (by kernel_rfl) (by simp) (by first|rfl|simp) ?_
 simp
 refine LoopK.plain (fun k:Nat=>[(1,.int .i64 x),(7,.im (.sl 1 (rowI l))),(8,.int .i64 l.length),(9,.int .i64 k)])
  (fun k=>k≤l.length∧onL (l.drop k) x k=onL l x 0) (fun k=>l.length-k) 0 ⟨Nat.zero_le _,by simp⟩ (by simp) ?_
 rintro k ⟨hk,hR⟩
 by_cases hlt:k<l.length
 ·have e1:IntKind.i64.wrap (k+1)=(k+1:Nat):=wrap64 (by omega) (by omega)
  have hg:=rowI_get l k _ (List.getElem?_eq_getElem hlt)
  rw[List.drop_eq_getElem_cons hlt,onL]at hR
  simp[hlt,e1,hg]
  refine⟨fun h=>?_,fun h=>?_⟩
  ·rw[←hR,if_pos h]
  ·rw[if_neg h]at hR
   refine Again.plain (k+1) ⟨hlt,by rw[←hR];simp⟩ (by omega) (by simp)
 ·have:k=l.length:=by omega
  subst this
  simp[onL]at hR
  simp[←hR]
structure Verd where
 kind:Int
 at_:Int
@[simp] def Verd.av (v:Verd):AV:=.agg [.int .u8 v.kind,.int .i64 v.at_]
end Go.Am
namespace Go.Am
open Go.Proofs
@[simp] def Pc.ivVd (x:Pc Verd):List IV:=[.sc (.int .i64 x.a),.sc (.int .i64 x.b),.sc (.int .u8 x.v.kind),.sc (.int .i64 x.v.at_)]
@[simp] def lineVd (n:Nat):AObj:=.box 124 [.row n]
@[simp] def rowVd (l:List (Pc Verd)):AObj:=.row 126 4 (l.map Pc.ivVd)
theorem Vd_ext {v w:Verd}:v.kind=w.kind→v.at_=w.at_→v=w:=by
 obtain⟨a,b⟩:=v
 obtain⟨a',b'⟩:=w
 simp only
 intros
 subst_vars
 rfl
set_option maxRecDepth 8000 in
set_option maxHeartbeats 2000000 in
theorem addVd_ext (L:List (Pc Verd)) (x:Pc Verd) (a b:Int) (hl:L.length≤100000):
  FSpec Tryz.prog 137 [.ptr 0 0,.agg [.int .i64 a,.int .i64 b],x.v.av] [lineVd 1,rowVd (L++[x])] (.tup [])
   [lineVd 1,rowVd (L++[(⟨x.a,b,x.v⟩:Pc Verd)])]:=by
 have e1:IntKind.i64.wrap (L.length:Int)=(L.length:Int):=wrap64 (by omega) (by omega)
 have hg:=get_end Pc.ivVd L (Pc.ivVd x)
 have hm:=fun g=>mod_end g (Pc.ivVd x) (L.map Pc.ivVd)
 simp at hg hm
 refine FSpec.of_o (q:=[(2,.n 13),(3,.n 8),(4,.m [.p [1,2] [],.p [1] [],.p [1] [],.p [1] [],.p [1] [],.p [] [],.p [] [],.p [] [],.e [45],.e [42,46]])]) Tryz.func137 (by kernel_rfl) rfl Tryz.ntmps137 Tryz.results137 hP (by kernel_rfl) (by simp) (by first|rfl|simp) ?_
 simp -implicitDefEqProofs [e1,hg,hm]
 refine⟨by omega,?_⟩
 refine EndO.ret [] [0,1] (.tup []) (by simp) ?_
 simp -implicitDefEqProofs
set_option maxRecDepth 8000 in
set_option maxHeartbeats 2000000 in
theorem addVd_new (L:List (Pc Verd)) (a b:Int) (v:Verd) (hl:L.length≤100000) (hne:∀x,L.getLast? =some x→x.v≠v):
  FSpec Tryz.prog 137 [.ptr 0 0,.agg [.int .i64 a,.int .i64 b],v.av] [lineVd 1,rowVd L] (.tup [])
   [lineVd 2,.gone,rowVd (L++[(⟨a,b,v⟩:Pc Verd)])]:=by
 rcases List.eq_nil_or_concat L with rfl|⟨L',x,rfl⟩
 ·refine FSpec.of_o (q:=[(2,.n 13),(3,.n 8),(4,.m [.p [1,2] [],.p [1] [],.p [1] [],.p [1] [],.p [1] [],.p [] [],.p [] [],.p [] [],.e [45],.e [42,46]])]) Tryz.func137 (by kernel_rfl) rfl Tryz.ntmps137 Tryz.results137 hP (by kernel_rfl) (by simp) (by first|rfl|simp) ?_
  simp -implicitDefEqProofs
  refine⟨by unfold maxLen;omega,?_⟩
  refine EndO.normal [] [0,1,5] (.tup []) (by simp) ?_
  simp -implicitDefEqProofs
 ·rw[List.concat_eq_append]at hl hne⊢
  have hxv:=hne x (by simp)
  rw[List.length_append,List.length_singleton]at hl
  have e1:IntKind.i64.wrap (L'.length:Int)=(L'.length:Int):=wrap64 (by omega) (by omega)
  have hg:=get_end Pc.ivVd L' (Pc.ivVd x)
  simp at hg
  refine FSpec.of_o (q:=[(2,.n 13),(3,.n 8),(4,.m [.p [1,2] [],.p [1] [],.p [1] [],.p [1] [],.p [1] [],.p [] [],.p [] [],.p [] [],.e [45],.e [42,46]])]) Tryz.func137 (by kernel_rfl) rfl Tryz.ntmps137 Tryz.results137 hP (by kernel_rfl) (by simp) (by first|rfl|simp) ?_
  simp -implicitDefEqProofs [e1,hg]
  have hkp:∀(_:x.v.kind=v.kind) (_:x.v.at_=v.at_),False:=fun h0 h1=>hxv (Vd_ext h0 h1)
  refine⟨by omega,fun h0 h1=>(hkp h0 h1).elim,fun _=>⟨⟨by omega,by unfold maxLen;omega⟩,?_⟩⟩
  refine EndO.normal [] [0,1,5] (.tup []) (by simp) ?_
  simp -implicitDefEqProofs
end Go.Am
namespace Go.Am
open Go.Proofs
theorem alike_spec (l t:List Int):FSpec Tryz.prog 18 [.im (.sl 1 (rowI l)),.im (.sl 1 (rowI t))] [] (.bool (decide (l=t))) []:=by
 refine FSpec.bd (enters_of Tryz.func18 (by kernel_rfl) rfl) fun hbd=>?_
 have hl:l.length≤9223372036854775807:=by simp[maxLen]at hbd;exact hbd.1.1
 refine FSpec.of_flat (q:=[(6,.n 8)]) Tryz.func18 (by kernel_rfl) rfl Tryz.ntmps18 Tryz.results18 hP (by kernel_rfl) (by simp) (by first|rfl|simp) ?_
 simp
 refine⟨fun h e=>?_,fun h=>?_⟩
 ·subst e;exact h rfl
 have hlen:l.length=t.length:=by omega
 refine LoopK.plain (fun k:Nat=>[(0,.im (.sl 1 (rowI l))),(1,.im (.sl 1 (rowI t))),(12,.int .i64 l.length),(13,.int .i64 k)])
  (fun k=>k≤l.length∧l.take k=t.take k) (fun k=>l.length-k) 0 ⟨Nat.zero_le _,by simp⟩ (by simp) ?_
 rintro k ⟨hk,hR⟩
 by_cases hlt:k<l.length
 ·have hlt2:k<t.length:=by omega
  have e1:IntKind.i64.wrap (k+1)=(k+1:Nat):=wrap64 (by omega) (by omega)
  have hg:=rowI_get l k _ (List.getElem?_eq_getElem hlt)
  have hg2:=rowI_get t k _ (List.getElem?_eq_getElem hlt2)
  simp[hlt,hlt2,e1,hg,hg2]
  refine⟨fun h1 h2=>?_,fun h1=>?_⟩
  ·subst h2;exact h1 rfl
  ·refine Again.plain (k+1) ⟨hlt,?_⟩ (by omega) (by simp)
   rw[List.take_add_one,List.take_add_one,hR,List.getElem?_eq_getElem hlt,List.getElem?_eq_getElem hlt2,h1]
 ·have:k=l.length:=by omega
  subst this
  rw[List.take_length,hlen,List.take_length]at hR
  simp[hR]
end Go.Am
namespace Go.Am
open Go.Proofs
end Go.Am
namespace Go.Am
open Go.Proofs
def wayF (H:Int→Hop):Nat→List Int→Int→List Int×Verd
 |0,way,r=>(way,⟨0,0⟩)
 |f+1,way,r=>
  if(H r).kind=0 then(way,⟨3,r⟩)
  else if(H r).kind=2 then(way,⟨1,r⟩)
  else if(H r).kind=3 then(way,⟨2,r⟩)
  else if 0≤onL way (H r).peer 0 then(way++[(H r).peer],⟨4,(H r).peer⟩)
  else wayF H f (way++[(H r).peer]) (H r).peer
theorem onL_neg:∀(l:List Int) (x k:Int),0≤k→(0≤onL l x k↔x∈l)
 |[],x,k,hk=>by simp[onL]
 |y::l,x,k,hk=>by
  rw[onL]
  split
  ·rename_i h;subst h;simp[hk]
  ·rename_i h
   rw[onL_neg l x (k+1) (by omega)]
   simp[Ne.symm h]
theorem countP_lt {α:Type} {p q:α→Bool}:∀{l:List α} {y:α},(∀x∈l,q x=true→p x=true)→y∈l→p y=true→q y=false→l.countP q<l.countP p
 |z::l,y,h,hy,hp,hq=>by
  have hle:l.countP q≤l.countP p:=List.countP_mono_left fun x hx h1=>h x (List.mem_cons_of_mem _ hx) h1
  rw[List.countP_cons,List.countP_cons]
  rcases List.mem_cons.1 hy with rfl|hy
  ·simp[hp,hq];omega
  ·have:=countP_lt (fun x hx=>h x (List.mem_cons_of_mem _ hx)) hy hp hq
   have hz:=h z List.mem_cons_self
   cases hqz:q z with
   |true=>simp[hz hqz];omega
   |false=>simp;omega
def roundsL (l:List Router) (way:List Int) (r:Int):Nat:=2*l.countP (fun x=>!way.contains x.id)+(if(routerF l r).isSome then 1 else 0)
theorem rounds_step {l:List Router} {way:List Int} {r p:Int} (hr:(routerF l r).isSome=true) (hp:¬p∈way):roundsL l (way++[p]) p<roundsL l way r:=by
 unfold roundsL
 rw[if_pos hr]
 have hle:l.countP (fun x=>!(way++[p]).contains x.id)≤l.countP (fun x=>!way.contains x.id):=by
  refine List.countP_mono_left fun x _ hx=>?_
  simp at hx⊢
  exact hx.1
 by_cases hs:(routerF l p).isSome=true
 ·rw[if_pos hs]
  obtain⟨y,hy⟩:=Option.isSome_iff_exists.1 hs
  have hm:=List.mem_of_find?_eq_some hy
  have hid:y.id=p:=by have:=List.find?_some hy;simpa using this
  have:l.countP (fun x=>!(way++[p]).contains x.id)<l.countP (fun x=>!way.contains x.id):=by
   refine countP_lt (y:=y) (fun x _ hx=>?_) hm ?_ ?_
   ·simp at hx⊢
    exact hx.1
   ·simp[hid,hp]
   ·simp[hid]
  omega
 ·rw[if_neg hs];omega
set_option maxRecDepth 8000 in
theorem way_spec (n:Net) (r:Int) (six:Bool) (a:Addr4) (hok:netOk n=true) (hw:n.wf) (ha:a.wf):
  FSpec Tryz.prog 61 [n.av,.int .i64 r,.bool six,a.av] [] (.tup [.im (.sl 1 (rowI (wayF (fun x=>doesF n x six a) (2*n.routers.length+2) [r] r).1)),(wayF (fun x=>doesF n x six a) (2*n.routers.length+2) [r] r).2.av]) []:=by
 refine FSpec.of_z (q:=[]) Tryz.func61 (by kernel_rfl) rfl Tryz.ntmps61 Tryz.results61 hP (by kernel_rfl) (by simp) (by first|rfl|simp) ?_
 simp
 have hlen:n.routers.length≤64:=by
  unfold netOk at hok
  simp only[Bool.and_eq_true,beq_iff_eq]at hok
  have:=checkS_len hok.1.1.1
  omega
 refine LoopK.os (fun g:List Int×Int×Nat=>[(1,.int .i64 g.2.1),(2,.bool six),(4,.ptr 0 0),(7,.ptr 1 0),(9,.ptr 2 0),(10,.row 3)])
  (fun g=>[.box 25 [.im (.sl 4 (n.seats.map Seat.iv)),.im (.sl 4 (n.routers.map Router.iv))],.box 31 [.int .u64 a.hi,.int .u64 a.lo],.box 35 [.int .u8 0,.int .i64 0],.row 3 1 (rowI g.1)])
  (fun g=>roundsL n.routers g.1 g.2.1<g.2.2∧g.1.length+g.2.2≤2*n.routers.length+3∧wayF (fun x=>doesF n x six a) g.2.2 g.1 g.2.1=wayF (fun x=>doesF n x six a) (2*n.routers.length+2) [r] r)
  (fun g=>g.2.2) ([r],r,2*n.routers.length+2) [0,1,2,3] ⟨?_,by simp;omega,rfl⟩ (by simp[rowI]) ?_
 ·have:n.routers.countP (fun x=>!([r]:List Int).contains x.id)≤n.routers.length:=List.countP_le_length
  unfold roundsL
  simp only
  split<;>omega
 rintro⟨way,p,f⟩ ⟨hf,hl,hR⟩
 simp only at hf hl hR
 obtain⟨f,rfl⟩:∃f',f=f'+1:=⟨f-1,by omega⟩
 rw[wayF]at hR
 simp
 first|refine CallK.same (doesNr_spec n p six a hw ha) rfl rfl ?_|refine CallQ.same (doesNr_spec n p six a hw ha) rfl rfl ?_|refine CallQG.same _ (doesNr_spec n p six a hw ha) rfl ?_|refine CallG.same _ (doesNr_spec n p six a hw ha) rfl ?_|refine CallK.pv (doesNr_spec n p six a hw ha) rfl rfl ?_
 simp
 have hsome:¬(doesF n p six a).kind=0→(routerF n.routers p).isSome=true:=by
  intro h
  unfold doesF at h
  cases hh:routerF n.routers p with
  |none=>rw[hh]at h;exact absurd rfl h
  |some x=>rfl
 generalize hRES:wayF (fun x=>doesF n x six a) (2*n.routers.length+2) [r] r=RES at*
 generalize hH:doesF n p six a=H at*
 refine⟨fun h0=>?_,fun h0=>⟨fun h2=>?_,fun h2=>⟨fun h3=>?_,fun h3=>?_⟩⟩⟩
 ·rw[if_pos h0]at hR
  refine EndZ.ret [3] (.tup [.row 3,.agg [.int .u8 3,.int .i64 p]]) (by simp) ?_
  simp[←hR]
 ·rw[if_neg h0,if_pos h2]at hR
  refine EndZ.ret [3] (.tup [.row 3,.agg [.int .u8 1,.int .i64 p]]) (by simp) ?_
  simp[←hR]
 ·rw[if_neg h0,if_neg h2,if_pos h3]at hR
  refine EndZ.ret [3] (.tup [.row 3,.agg [.int .u8 2,.int .i64 p]]) (by simp) ?_
  simp[←hR]
 ·rw[if_neg h0,if_neg h2,if_neg h3]at hR
  refine CallK.fz [3] (on_spec way H.peer) (by simp) (by simp) rfl ?_
  simp
  have hrow:∀x,rowI (way++[x])=rowI way++[[.sc (.int .i64 x)]]:=fun x=>by simp[rowI]
  refine⟨⟨by omega,by unfold maxLen;omega⟩,fun h4=>?_,fun h4=>?_⟩
  ·rw[if_pos h4]at hR
   refine EndZ.ret [6] (.tup [.row 6,.agg [.int .u8 4,.int .i64 H.peer]]) (by simp) ?_
   simp[←hR,hrow]
  ·rw[if_neg (by omega)]at hR
   have hm:¬H.peer∈way:=fun h=>by
    have:=(onL_neg way H.peer 0 (Int.le_refl _)).2 h
    omega
   have hst:=rounds_step (hsome h0) hm
   refine Again.os (way++[H.peer],H.peer,f) [0,1,2,6] ⟨by simp only;omega,by simp;omega,hR⟩ (by simp only;omega) ?_
   simp[hrow]
end Go.Am
namespace Go.Am
open Go.Proofs
def wayN (n:Net) (six:Bool) (a:Addr4) (r:Int):List Int×Verd:=wayF (fun x=>doesF n x six a) (2*n.routers.length+2) [r] r
def rightN (n:Net) (six:Bool) (a:Addr4):Bool:=netOk n&&rightA six a
end Go.Am
namespace Go.Am
open Go.Proofs
end Go.Am
namespace Go.Am
open Go.Proofs
def kget {β:Type}:List (Int×β)→Int→Option β
 |[],_=>none
 |(k,v)::l,x=>if x=k then some v else kget l x
def kput {β:Type}:List (Int×β)→Int→β→List (Int×β)
 |[],x,v=>[(x,v)]
 |(k,u)::l,x,v=>if x=k then(k,v)::l else(k,u)::kput l x v
theorem kget_put {β:Type}:∀(l:List (Int×β)) (x y:Int) (v:β),kget (kput l x v) y=if y=x then some v else kget l y
 |[],x,y,v=>by simp[kput,kget]
 |(k,u)::l,x,y,v=>by
  rw[kput]
  split
  ·rename_i h;subst h
   simp only[kget]
   split<;>rfl
  ·rename_i h
   simp only[kget,kget_put l x y v]
   by_cases hy:y=k
   ·subst hy;simp[Ne.symm h]
   ·simp[hy]
variable {H:Int→Hop}
def moves (H:Int→Hop) (r:Int):Prop:=¬(H r).kind=0∧¬(H r).kind=2∧¬(H r).kind=3
def endsF (h:Hop) (r:Int):Verd:=⟨if h.kind=2 then 1 else if h.kind=3 then 2 else 3,r⟩
inductive Goes (H:Int→Hop):List Int→Int→List Int×Verd→Prop
 |ends {way:List Int} {r:Int} (h:¬moves H r):Goes H way r (way,endsF (H r) r)
 |again {way:List Int} {r:Int} (h:moves H r) (hp:(H r).peer∈way):Goes H way r (way++[(H r).peer],⟨4,(H r).peer⟩)
 |step {way:List Int} {r:Int} {res:List Int×Verd} (h:moves H r) (hp:¬(H r).peer∈way) (hs:Goes H (way++[(H r).peer]) (H r).peer res):Goes H way r res
theorem Goes.det {way:List Int} {r:Int} {a b:List Int×Verd} (h1:Goes H way r a) (h2:Goes H way r b):a=b:=by
 induction h1 with
 |ends h=>cases h2 with
  |ends=>rfl
  |again h'=>exact absurd h' h
  |step h'=>exact absurd h' h
 |again h hp=>cases h2 with
  |ends h'=>exact absurd h h'
  |again=>rfl
  |step _ hp'=>exact absurd hp hp'
 |step h hp _ ih=>cases h2 with
  |ends h'=>exact absurd h h'
  |again _ hp'=>exact absurd hp' hp
  |step _ _ hs=>exact ih hs
def roundsI (l way:List Int):Nat:=l.countP (fun x=>!way.contains x)
theorem roundsI_step {l way:List Int} {x:Int} (h1:x∈l) (h2:¬x∈way):roundsI l (way++[x])<roundsI l way:=by
 unfold roundsI
 refine countP_lt (y:=x) (fun y _ hy=>?_) h1 (by simp[h2]) (by simp)
 simp at hy⊢
 exact hy.1
theorem wayF_goes {l:List Int} (hl:∀x,moves H x→x∈l):∀(f:Nat) (way:List Int) (r:Int),(r∈way)→roundsI l way+1<f→Goes H way r (wayF H f way r)
 |0,way,r,hr,hf=>by omega
 |f+1,way,r,hr,hf=>by
  rw[wayF]
  split
  ·rename_i h
   have:=Goes.ends (H:=H) (way:=way) (r:=r) (fun hm=>hm.1 h)
   simpa [endsF,h]using this
  ·rename_i h0
   split
   ·rename_i h
    have:=Goes.ends (H:=H) (way:=way) (r:=r) (fun hm=>hm.2.1 h)
    simpa [endsF,h]using this
   ·rename_i h2
    split
    ·rename_i h
     have:=Goes.ends (H:=H) (way:=way) (r:=r) (fun hm=>hm.2.2 h)
     simpa [endsF,h]using this
    ·rename_i h3
     split
     ·rename_i h
      exact .again ⟨h0,h2,h3⟩ ((onL_neg _ _ _ (Int.le_refl _)).1 h)
     ·rename_i h
      have hp:¬(H r).peer∈way:=fun h'=>h ((onL_neg _ _ _ (Int.le_refl _)).2 h')
      refine .step ⟨h0,h2,h3⟩ hp ?_
      by_cases hq:(H r).peer∈l
      ·exact wayF_goes hl f _ _ (by simp) (by have:=roundsI_step hq hp;omega)
      ·have hm:¬moves H (H r).peer:=fun h=>hq (hl _ h)
       have hfp:0<f:=by omega
       obtain⟨f,rfl⟩:∃f',f=f'+1:=⟨f-1,by omega⟩
       rw[wayF]
       have:=Goes.ends (way:=way++[(H r).peer]) hm
       unfold moves at hm
       split
       ·rename_i e;simpa [endsF,e]using this
       ·rename_i e1
        split
        ·rename_i e;simpa [endsF,e]using this
        ·rename_i e2
         split
         ·rename_i e;simpa [endsF,e]using this
         ·rename_i e3;exact absurd ⟨e1,e2,e3⟩ hm
end Go.Am
namespace Go.Am
open Go.Proofs
theorem wayF_len (H:Int→Hop):∀(f:Nat) (way:List Int) (r:Int),(wayF H f way r).1.length≤way.length+f
 |0,way,r=>by simp[wayF]
 |f+1,way,r=>by
  have ih:=wayF_len H f (way++[(H r).peer]) (H r).peer
  rw[wayF]
  repeat' split
  all_goals simp at ih⊢
  all_goals omega
end Go.Am
namespace Go.Am
open Go.Proofs
theorem indexI_spec (l:List Int) (x:Int):FSpec Tryz.prog 166 [.im (.sl 1 (rowI l)),.int .i64 x] [] (.int .i64 (onL l x 0)) []:=by
 refine FSpec.bd (enters_of Tryz.func166 (by kernel_rfl) rfl) fun hbd=>?_
 have hl:l.length≤9223372036854775807:=by simp[maxLen]at hbd;exact hbd.1
 refine FSpec.of_flat (q:=[]) Tryz.func166 (by kernel_rfl) rfl Tryz.ntmps166 Tryz.results166 hP (by kernel_rfl) (by simp) (by first|rfl|simp) ?_
 simp
 refine LoopK.plain (fun k:Nat=>[(0,.im (.sl 1 (rowI l))),(1,.int .i64 x),(7,.int .i64 l.length),(8,.int .i64 k)])
  (fun k=>k≤l.length∧onL (l.drop k) x k=onL l x 0) (fun k=>l.length-k) 0 ⟨Nat.zero_le _,by simp⟩ (by simp) ?_
 rintro k ⟨hk,hR⟩
 by_cases hlt:k<l.length
 ·have e1:IntKind.i64.wrap (k+1)=(k+1:Nat):=wrap64 (by omega) (by omega)
  have hg:=rowI_get l k _ (List.getElem?_eq_getElem hlt)
  rw[List.drop_eq_getElem_cons hlt,onL]at hR
  simp[hlt,e1,hg]
  refine⟨fun h=>?_,fun h=>?_⟩
  ·rw[←hR,if_pos h.symm]
  ·rw[if_neg (Ne.symm h)]at hR
   refine Again.plain (k+1) ⟨hlt,by rw[←hR];simp⟩ (by omega) (by simp)
 ·have:k=l.length:=by omega
  subst this
  simp[onL]at hR
  simp[←hR]
end Go.Am
namespace Go.Am
open Go.Proofs
end Go.Am
namespace Go.Am
open Go.Proofs
def kmap {β:Type} (f:β→AV) (l:List (Int×β)):List (Int×AV):=l.map fun p=>(p.1,f p.2)
theorem midx_kmap {β:Type} (f:β→AV):∀(l:List (Int×β)) (x:Int),(midx (kmap f l) x=none↔kget l x=none)∧∀i,midx (kmap f l) x=some i→∃v,kget l x=some v∧l[i]? =some (x,v)∧∀u,kput l x u=l.modify i fun p=>(p.1,u)
 |[],x=>⟨by simp[kmap,midx,kget],fun i h=>by simp[kmap,midx]at h⟩
 |(k,v)::l,x=>by
  obtain⟨h1,h2⟩:=midx_kmap f l x
  have e:kmap f ((k,v)::l)=(k,f v)::kmap f l:=rfl
  rw[e]
  by_cases hk:x=k
  ·subst hk
   refine⟨by simp[midx,kget],fun i hi=>?_⟩
   simp[midx]at hi
   subst hi
   exact⟨v,by simp[kget],rfl,fun u=>by simp[kput]⟩
  ·refine⟨by simp[midx,kget,hk,h1],fun i hi=>?_⟩
   simp only[midx,hk,if_false,Option.map_eq_some_iff]at hi
   obtain⟨j,hj,rfl⟩:=hi
   obtain⟨u,g1,g2,g3⟩:=h2 j hj
   exact⟨u,by simp[kget,hk,g1],by simpa using g2,fun u=>by simp[kput,hk,g3]⟩
theorem mget_kmap {β:Type} (f:β→AV) (l:List (Int×β)) (x:Int):mget (kmap f l) x=(kget l x).map f:=by
 obtain⟨h1,h2⟩:=midx_kmap f l x
 unfold mget
 cases h:midx (kmap f l) x with
 |none=>rw[h1.1 h];rfl
 |some i=>
  obtain⟨v,g1,g2,_⟩:=h2 i h
  rw[g1]
  simp[kmap,g2]
theorem mput_kmap {β:Type} (f:β→AV) (l:List (Int×β)) (x:Int) (v:β):mput (kmap f l) x (f v)=kmap f (kput l x v):=by
 obtain⟨h1,h2⟩:=midx_kmap f l x
 unfold mput
 cases h:midx (kmap f l) x with
 |none=>
  have hput:∀(l:List (Int×β)),kget l x=none→kput l x v=l++[(x,v)]:=by
   intro l
   induction l with
   |nil=>intro _;rfl
   |cons p l ih=>
    obtain⟨k,u⟩:=p
    intro hg
    rw[kget]at hg
    split at hg
    ·cases hg
    ·rename_i hk
     simp[kput,hk,ih hg]
  rw[hput l (h1.1 h)]
  simp[kmap]
 |some i=>
  obtain⟨u,g1,g2,g3⟩:=h2 i h
  rw[g3]
  simp only[kmap]
  have key:∀(l:List (Int×β)) (i:Nat),(l.map fun p=>(p.1,f p.2)).modify i (fun y=>(y.1,f v))=(l.modify i fun p=>(p.1,v)).map fun p=>(p.1,f p.2):=by
   intro l
   induction l with
   |nil=>intro i;simp
   |cons p l ih=>
    intro i
    cases i with
    |zero=>simp
    |succ i=>simp[ih i]
  exact key l i
end Go.Am
namespace Go.Am
open Go.Proofs
@[simp] theorem kmap_nil {β:Type} (f:β→AV):kmap f []=[]:=rfl
@[simp] theorem renM_nil (ρ:Nat→Nat):renM ρ ([]:List (Int×AV))=[]:=rfl
def idsN (n:Net):List Int:=n.routers.map Router.id
def hopN (n:Net) (six:Bool) (a:Addr4):Int→Hop:=fun x=>doesF n x six a
theorem hopN_out {n:Net} {six:Bool} {a:Addr4} {x:Int} (h:x∉idsN n):hopN n six a x=⟨0,0⟩:=by
 unfold hopN doesF
 cases hr:routerF n.routers x with
 |none=>rfl
 |some r=>
  exfalso
  have hm:=List.mem_of_find?_eq_some hr
  have hp:=List.find?_some hr
  simp at hp
  exact h (List.mem_map.2 ⟨r,hm,hp⟩)
theorem hopN_moves (n:Net) (six:Bool) (a:Addr4) (x:Int) (h:moves (hopN n six a) x):x∈idsN n:=by
 apply Classical.byContradiction
 intro hx
 rw[moves,hopN_out hx]at h
 exact h.1 rfl
theorem hopF_kind (r:Router) (six:Bool) (a:Addr4):(hopF r six a).kind=0∨(hopF r six a).kind=1∨(hopF r six a).kind=2∨(hopF r six a).kind=3:=by
 unfold hopF
 repeat' split
 all_goals simp
theorem hopN_kind (n:Net) (six:Bool) (a:Addr4) (x:Int):(hopN n six a x).kind=0∨(hopN n six a x).kind=1∨(hopN n six a x).kind=2∨(hopN n six a x).kind=3:=by
 unfold hopN doesF
 split
 ·simp
 ·exact hopF_kind _ _ _
end Go.Am
namespace Go.Am
open Go.Proofs
theorem wayN_goes (n:Net) (six:Bool) (a:Addr4) (r:Int):Goes (hopN n six a) [r] r (wayN n six a r):=by
 have h1:roundsI (idsN n) [r]≤(idsN n).length:=List.countP_le_length
 have h2:(idsN n).length=n.routers.length:=by simp[idsN]
 exact wayF_goes (hopN_moves n six a) _ _ _ (by simp) (by omega)
end Go.Am
namespace Go.Am
open Go.Proofs
end Go.Am
namespace Go.Proofs
end Go.Proofs
namespace Go.Am
open Go.Proofs
end Go.Am
namespace Go.Am
open Go.Proofs
end Go.Am
namespace Go.Am
open Go.Proofs
end Go.Am
namespace Go.Proofs
end Go.Proofs
namespace Go.Am
open Go.Proofs
end Go.Am
namespace Go.Am
open Go.Proofs
end Go.Am
namespace Go.Am
open Go.Proofs
end Go.Am
namespace Go.Am
open Go.Proofs
end Go.Am
