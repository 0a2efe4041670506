import Derived.Test.YthlfjihaoiedkaaGreatVB3
import Derived.Test.YthlfjihaoiedkaaGreatVB6
import Derived.Test.YthlfjihaoiedkaaGreatVB7
set_option linter.unusedVariables false
set_option linter.unusedSimpArgs false
set_option linter.unusedSectionVars false
namespace Go.Am
open Go.Proofs
theorem eachO_spec (p:Past) (a b:Int):FSpec Tryz.prog 146 [p.av,.agg [.int .i64 a,.int .i64 b]] [] (.fn 204 [.ptr 0 0,.ptr 1 0]) [pastO p,.box 53 [.int .i64 a,.int .i64 b]]:=by
 refine FSpec.of_o (q:=[]) Tryz.func146 (by kernel_rfl) rfl Tryz.ntmps146 Tryz.results146 hP (by kernel_rfl) (by simp) (by first|rfl|simp) ?_
 simp -implicitDefEqProofs
 refine EndO.ret [] [0,1] (.fn 204 [.ptr 0 0,.ptr 1 0]) (by simp) ?_
 simp -implicitDefEqProofs
def accG {T:Type} [DecidableEq T] (f:Int→T) (ts:List Int):Nat→List (Pc T)
 |0=>[]
 |k+1=>addPc (accG f ts k) (ts.getD k 0) (ts.getD (k+1) 0-1) (f (ts.getD k 0))
theorem accG_len {T:Type} [DecidableEq T] (f:Int→T) (ts:List Int):∀k,(accG f ts k).length≤k
 |0=>Nat.le_refl _
 |k+1=>by
  have h1:=accG_len f ts k
  have h2:=addPc_len (accG f ts k) (ts.getD k 0) (ts.getD (k+1) 0-1) (f (ts.getD k 0))
  rw[accG]
  omega
theorem lineG_from {T:Type} [DecidableEq T] (f:Int→T) (b:Int) (ts:List Int):∀(d k:Nat),k+d+1=ts.length→lineG f b (ts.drop k) (accG f ts k)=addPc (accG f ts (k+d)) (ts.getD (k+d) 0) b (f (ts.getD (k+d) 0))
 |0,k,h=>by
  have hk:k<ts.length:=by omega
  rw[List.drop_eq_getElem_cons hk,List.drop_eq_nil_of_le (by omega),lineG]
  simp[List.getD_eq_getElem?_getD,List.getElem?_eq_getElem hk]
 |d+1,k,h=>by
  have hk:k<ts.length:=by omega
  have hk1:k+1<ts.length:=by omega
  have ih:=lineG_from f b ts d (k+1) (by omega)
  rw[show k+1+d=k+(d+1)by omega]at ih
  rw[←ih,List.drop_eq_getElem_cons hk,List.drop_eq_getElem_cons hk1,lineG,accG]
  simp[List.getD_eq_getElem?_getD,List.getElem?_eq_getElem hk,List.getElem?_eq_getElem hk1]
theorem lineG_acc {T:Type} [DecidableEq T] (f:Int→T) (b:Int) (ts:List Int) (n:Nat) (h:ts.length=n+1):lineG f b ts []=addPc (accG f ts n) (ts.getD n 0) b (f (ts.getD n 0)):=by
 have:=lineG_from f b ts n 0 (by omega)
 simpa [accG]using this
end Go.Am
namespace Go.Am
open Go.Proofs
def Past.wf (p:Past):Prop:=p.base.wf∧∀e∈p.evs,0≤e.seq∧e.pfx.addr.wf
def earlyP (p:Past):Bool:=decide (p.hz< -1)||decide (1099511627776<p.hz)||!netOk p.base||decide (1024<p.evs.length)
def lateP (p:Past):Bool:=p.base.seats.any fun s=>decide (p.hz<s.time)
def nowD (p:Past):Net:=if earlyP p||lateP p then net0 else nowP p
theorem allN_ok {n:Net} {l:List Ev} {hz:Int} (h:(allN n l hz).2.2=0):netOk n=true:=by
 cases hn:netOk n with
 |true=>rfl
 |false=>unfold allN at h;rw[if_pos hn]at h;cases h
theorem okP_eq (p:Past):okP p=(!earlyP p&&!lateP p&&decide ((allN p.base p.evs p.hz).2.2=0)&&decide (weightF p≤1024)):=by
 unfold okP earlyP lateP
 by_cases h:(allN p.base p.evs p.hz).2.2=0
 ·rw[allN_ok h]
  by_cases h1:p.hz< -1
  ·have:¬ -1≤p.hz:=by omega
   simp[h1,this]
  ·have h1': -1≤p.hz:=by omega
   by_cases h2:1099511627776<p.hz
   ·have:¬p.hz≤1099511627776:=by omega
    simp[h2,this]
   ·have h2':p.hz≤1099511627776:=by omega
    by_cases h3:1024<p.evs.length
    ·have:¬p.evs.length≤1024:=by omega
     simp[h3,this]
    ·have h3':p.evs.length≤1024:=by omega
     simp[h1,h2,h3,h1',h2',h3',h]
 ·simp[h]
set_option maxRecDepth 8000 in
set_option maxHeartbeats 4000000 in
theorem nowr_spec (p:Past) (hw:p.wf):FSpec Tryz.prog 208 [p.av] [] (.tup [(nowD p).av,.bool (okP p)]) []:=by
 have h1:=checkNr_spec p.base hw.1
 have h2:=allNr_spec p.base p.evs p.hz hw.1 (fun e he=>(hw.2 e he).2)
 have hok:=okP_eq p
 have hN:nowD p=if earlyP p||lateP p then net0 else nowP p:=rfl
 unfold nowP at hN
 generalize nowD p=N at*
 generalize okP p=OK at*
 refine FSpec.of_z (q:=[(10,.m [.p [] [],.p [] [],.p [] [],.p [] [],.p [] [],.p [] [],.p [1] [],.p [1] [],.e [2,56]])]) Tryz.func208 (by kernel_rfl) rfl Tryz.ntmps208 Tryz.results208 hP (by kernel_rfl) (by simp) (by first|rfl|simp) ?_
 simp -implicitDefEqProofs
 first|refine CallK.same (h1) rfl rfl ?_|refine CallQ.same (h1) rfl rfl ?_|refine CallQG.same _ (h1) rfl ?_|refine CallG.same _ (h1) rfl ?_|refine CallK.pv (h1) rfl rfl ?_
 simp -implicitDefEqProofs
 refine⟨fun h=>?_,fun b1 b2 b3 b4=>?_⟩
 ·have he:earlyP p=true:=by
   unfold earlyP
   rcases h with((h|h)|h)|h
   ·simp[h]
   ·simp[h]
   ·simp[h]
   ·have:1024<p.evs.length:=by omega
    simp[this]
  rw[he]at hok hN
  simp at hok hN
  subst hok
  subst hN
  refine EndZ.ret [] (.tup [.agg [.im (.sc (.slice none 0 0)),.im (.sc (.slice none 0 0))],.bool false]) (by simp) ?_
  simp[net0]
 have he:earlyP p=false:=by
  unfold earlyP
  have e1:¬p.hz< -1:=by omega
  have e2:¬1099511627776<p.hz:=by omega
  have e3:¬1024<p.evs.length:=by omega
  simp[e1,e2,e3,b3]
 rw[he]at hok hN
 simp only[Bool.not_false,Bool.true_and,Bool.false_or]at hok hN
 have hsl:=netOk_seats b3
 have hwt:=weightr_spec p hw.1 (by omega)
 refine LoopK.os (fun k:Nat=>[(1,.ptr 0 0),(2,.ptr 1 0),(32,.im (.sl 4 (p.base.seats.map Seat.iv))),(33,.int .i64 p.base.seats.length),(34,.int .i64 k)])
  (fun _=>[pastO p,.box 43 [.im (.sc (.slice none 0 0)),.im (.sc (.slice none 0 0))]])
  (fun k=>k≤p.base.seats.length∧((p.base.seats.drop k).any fun s=>decide (p.hz<s.time))=lateP p) (fun k=>p.base.seats.length-k) 0 [0,1] ⟨Nat.zero_le _,by simp[lateP]⟩ (by simp) ?_
 rintro k ⟨hk,hR⟩
 by_cases hlt:k<p.base.seats.length
 ·have e1:IntKind.i64.wrap (k+1)=(k+1:Nat):=wrap64 (by omega) (by omega)
  obtain⟨E,hE⟩:∃E,p.base.seats[k]=E:=⟨_,rfl⟩
  rw[List.drop_eq_getElem_cons hlt,List.any_cons,hE]at hR
  simp -implicitDefEqProofs [hlt,hE]
  refine⟨fun h=>?_,fun h=>?_⟩
  ·have hl:lateP p=true:=by rw[←hR];simp[h]
   rw[hl]at hok hN
   simp at hok hN
   subst hok
   subst hN
   refine EndZ.ret [] (.tup [.agg [.im (.sc (.slice none 0 0)),.im (.sc (.slice none 0 0))],.bool false]) (by simp) ?_
   simp[net0]
  ·have hd:decide (p.hz<E.time)=false:=by simp;omega
   rw[hd,Bool.false_or]at hR
   refine Again.os (k+1) [0,1] ⟨hlt,hR⟩ (by omega) ?_
   simp -implicitDefEqProofs [e1]
 ·have hkk:k=p.base.seats.length:=by omega
  subst hkk
  have hl:lateP p=false:=by rw[←hR];simp
  rw[hl]at hok hN
  simp only[Bool.not_false,Bool.true_and,Bool.false_eq_true,if_false]at hok hN
  generalize allN p.base p.evs p.hz=RES at*
  subst hN
  simp -implicitDefEqProofs
  first|refine CallK.same (h2) rfl rfl ?_|refine CallQ.same (h2) rfl rfl ?_|refine CallQG.same _ (h2) rfl ?_|refine CallG.same _ (h2) rfl ?_|refine CallK.pv (h2) rfl rfl ?_
  simp -implicitDefEqProofs
  first|refine CallK.same (hwt) rfl rfl ?_|refine CallQ.same (hwt) rfl rfl ?_|refine CallQG.same _ (hwt) rfl ?_|refine CallG.same _ (hwt) rfl ?_|refine CallK.pv (hwt) rfl rfl ?_
  simp -implicitDefEqProofs
  have hok':OK=(RES.2.2==0&&decide (weightF p≤1024)):=hok
  subst hok'
  refine EndZ.ret [] (.tup [RES.1.av,.bool (RES.2.2==0&&decide (weightF p≤1024))]) (by simp) ?_
  simp
end Go.Am
namespace Go.Am
open Go.Proofs
theorem checkPr21_spec (p:Past) (hw:p.wf):FSpec Tryz.prog 152 [p.av] [] (.int .i64 (if okP p then 0 else 2)) []:=by
 have h1:=nowr_spec p hw
 generalize nowD p=N at*
 refine FSpec.of_z (q:=[]) Tryz.func152 (by kernel_rfl) rfl Tryz.ntmps152 Tryz.results152 hP (by kernel_rfl) (by simp) (by first|rfl|simp) ?_
 simp -implicitDefEqProofs
 first|refine CallK.same (h1) rfl rfl ?_|refine CallQ.same (h1) rfl rfl ?_|refine CallQG.same _ (h1) rfl ?_|refine CallG.same _ (h1) rfl ?_|refine CallK.pv (h1) rfl rfl ?_
 simp -implicitDefEqProofs
 cases hok:okP p with
 |true=>
  simp -implicitDefEqProofs
  refine EndZ.ret [] (.int .i64 0) (by simp) (by simp)
 |false=>
  simp -implicitDefEqProofs
  refine EndZ.ret [] (.int .i64 2) (by simp) (by simp)
theorem rowN_I (l:List Int):rowN l=rowI l:=rfl
theorem rowI_app (l:List Int) (x:Int):rowI (l++[x])=rowI l++[[.sc (.int .i64 x)]]:=by simp[rowI]
set_option maxRecDepth 8000 in
set_option maxHeartbeats 2000000 in
theorem timesPr_spec (p:Past) (a b:Int) (hw:p.wf):FSpec Tryz.prog 154 [p.av,.agg [.int .i64 a,.int .i64 b]] []
  (.tup [.im (.sl 1 (rowN (if timesW p a b=0 then timesF p.evs a b else[]))),.int .i64 (timesW p a b)]) []:=by
 have h1:=checkPr21_spec p hw
 have h2:=one_spec a b
 rw[show(decide (0≤a)&&decide (a≤b)&&decide (b≤1099511627776))=oneI a b from rfl]at h2
 refine FSpec.of_z (q:=[]) Tryz.func154 (by kernel_rfl) rfl Tryz.ntmps154 Tryz.results154 hP (by kernel_rfl) (by simp) (by first|rfl|simp) ?_
 simp -implicitDefEqProofs
 first|refine CallK.same (h1) rfl rfl ?_|refine CallQ.same (h1) rfl rfl ?_|refine CallQG.same _ (h1) rfl ?_|refine CallG.same _ (h1) rfl ?_|refine CallK.pv (h1) rfl rfl ?_
 simp -implicitDefEqProofs
 cases hok:okP p with
 |false=>
  have hW:timesW p a b=2:=by unfold timesW;rw[if_pos hok]
  rw[hW]
  simp -implicitDefEqProofs
  refine EndZ.ret [] (.tup [.im (.sc (.slice none 0 0)),.int .i64 2]) (by simp) (by simp[rowN])
 |true=>
  have hW:timesW p a b=winW p a b:=by unfold timesW;rw[if_neg (by simp[hok])]
  rw[hW]
  simp -implicitDefEqProofs
  first|refine CallK.same (h2) rfl rfl ?_|refine CallQ.same (h2) rfl rfl ?_|refine CallQG.same _ (h2) rfl ?_|refine CallG.same _ (h2) rfl ?_|refine CallK.pv (h2) rfl rfl ?_
  simp -implicitDefEqProofs
  cases ho:oneI a b with
  |false=>
   have hX:winW p a b=1:=by unfold winW;rw[if_pos ho]
   rw[hX]
   simp -implicitDefEqProofs
   refine EndZ.ret [] (.tup [.im (.sc (.slice none 0 0)),.int .i64 1]) (by simp) (by simp[rowN])
  |true=>
   simp -implicitDefEqProofs
   refine⟨fun h=>?_,fun h=>?_⟩
   ·have hX:winW p a b=15:=by unfold winW;rw[if_neg (by simp[ho]),if_pos h]
    rw[hX]
    refine EndZ.ret [] (.tup [.im (.sc (.slice none 0 0)),.int .i64 15]) (by simp) (by simp[rowN])
   have hX:winW p a b=0:=by unfold winW;rw[if_neg (by simp[ho]),if_neg (by omega)]
   rw[hX]
   have hl:=okP_len hok
   have hhl:=happT_len p.evs a b
   have h3:=sorted19_spec (happT p.evs a b) (by omega) (timesF p.evs a b) (timesF_sorted _ _ _) (timesF_mem _ _ _)
   simp only[if_true]
   generalize timesF p.evs a b=D at*
   refine LoopK.nil (.sl 6 2 1) ?_
   simp -implicitDefEqProofs
   refine LoopK.os (fun k:Nat=>[(3,.ptr 0 0),(6,.row 1),(21,.im (.sl 12 (p.evs.map Ev.iv))),(22,.int .i64 p.evs.length),(23,.int .i64 k)])
    (fun k=>[.box 53 [.int .i64 a,.int .i64 b],.row 2 1 (rowI (happT (p.evs.take k) a b))])
    (fun k=>k≤p.evs.length) (fun k=>p.evs.length-k) 0 [1,2] (Nat.zero_le _) (by simp[happT,rowI]) ?_
   intro k hk
   by_cases hlt:k<p.evs.length
   ·have e1:IntKind.i64.wrap (k+1)=(k+1:Nat):=wrap64 (by omega) (by omega)
    have g1:=happT_take p.evs a b k hlt
    have b1:=happT_len (p.evs.take k) a b
    rw[List.length_take]at b1
    have b2:(rowI (happT (p.evs.take k) a b)).length=(happT (p.evs.take k) a b).length:=by simp[rowI]
    obtain⟨E,hE⟩:∃E,p.evs[k]=E:=⟨_,rfl⟩
    rw[hE]at g1
    simp -implicitDefEqProofs [hlt,hE,b2]
    refine⟨fun h1 h2=>⟨⟨by omega,by unfold maxLen;omega⟩,?_⟩,fun h=>?_⟩
    ·rw[if_pos ⟨h1,h2⟩]at g1
     refine Again.os (k+1) [0,4] hlt (by omega) ?_
     simp -implicitDefEqProofs [e1,g1,rowI_app]
    ·rw[if_neg (by intro hh;have:=h hh.1;omega)]at g1
     refine Again.os (k+1) [0,1] hlt (by omega) ?_
     simp -implicitDefEqProofs [e1,g1]
   ·have hkk:k=p.evs.length:=by omega
    subst hkk
    simp -implicitDefEqProofs
    refine CallX.pre (.fz [1]) ?_
    simp -implicitDefEqProofs
    refine CallK.v0 h3 rfl (by simp) rfl ?_
    simp -implicitDefEqProofs
    refine EndZ.ret [] (.tup [.im (.sl 1 (rowI D)),.int .i64 0]) (by simp) ?_
    simp[rowN_I]
end Go.Am
namespace Go.Am
open Go.Proofs
end Go.Am
namespace Go.Am
open Go.Proofs
theorem find_put {α:Type} (key:α→Int) (l:List α) (s:α) (r:Int):
  (l.filter (fun a=>decide (key a<key s))++[s]++l.filter (fun a=>decide (key s<key a))).find? (fun a=>decide (key a=r))=if r=key s then some s else l.find? fun a=>decide (key a=r):=by
 rw[List.find?_append,List.find?_append,List.find?_filter,List.find?_filter]
 by_cases h:r=key s
 ·subst h
  have h1:(l.find? fun a=>decide (decide (key a<key s)=true∧decide (key a=key s)=true))=none:=by
   rw[List.find?_eq_none]
   intro x _
   simp
   omega
  rw[if_pos rfl,h1]
  simp
 ·rw[if_neg h]
  have hs:[s].find? (fun a=>decide (key a=r))=none:=by
   rw[List.find?_eq_none]
   intro x hx
   rw[List.mem_singleton]at hx
   subst hx
   simp
   omega
  rw[hs]
  rcases Int.lt_or_gt_of_ne h with h1|h1
  ·have e1:(l.find? fun a=>decide (decide (key a<key s)=true∧decide (key a=r)=true))=l.find? fun a=>decide (key a=r):=by
    congr
    funext a
    by_cases h2:key a=r
    ·simp[h2,h1]
    ·simp[h2]
   have e2:(l.find? fun a=>decide (decide (key s<key a)=true∧decide (key a=r)=true))=none:=by
    rw[List.find?_eq_none]
    intro x _
    simp
    omega
   rw[e1,e2]
   simp
  ·have e1:(l.find? fun a=>decide (decide (key s<key a)=true∧decide (key a=r)=true))=l.find? fun a=>decide (key a=r):=by
    congr
    funext a
    by_cases h2:key a=r
    ·simp[h2,h1]
    ·simp[h2]
   have e2:(l.find? fun a=>decide (decide (key a<key s)=true∧decide (key a=r)=true))=none:=by
    rw[List.find?_eq_none]
    intro x _
    simp
    omega
   rw[e1,e2]
   simp
theorem seatF_find:∀(l:List Seat) (r:Int),seatF l r=l.find? fun s=>decide (s.router=r)
 |[],r=>rfl
 |s::l,r=>by
  rw[seatF,List.find?_cons]
  by_cases h:s.router=r
  ·simp[h]
  ·simp[h,seatF_find l r]
theorem seatF_put (l:List Seat) (e:Ev) (r:Int):seatF (putSeat l (seatOf e)) r=if r=e.router then some (seatOf e)else seatF l r:=by
 rw[seatF_find,seatF_find]
 exact find_put Seat.router l (seatOf e) r
theorem routerF_after {n:Net} {e:Ev} {hz:Int} (hok:netOk n=true) (h:mayS n.seats e hz=0) (h2:(applyR (mineN n e) e).2=0) (r:Int):
  routerF (netAfter n e hz).routers r=if r=e.router then some (applyR (mineN n e) e).1 else routerF n.routers r:=by
 obtain⟨g1,g2,g3,g4,g5⟩:=mayS_zero h
 obtain⟨m1,m2⟩:=mineN_ok hok g2
 obtain⟨a1,a2,a3⟩:=applyR_ok m1 g2 m2 h2
 rw[netAfter_routers hok h]
 simp only[cmpT_neg,cmpT_gt]
 have:=find_put Router.id n.routers (applyR (mineN n e) e).1 r
 rw[a2]at this
 exact this
theorem happensF_get {n:Net} {e:Ev} {hz:Int} (hok:netOk n=true) (h:(happensF n e hz).2=0):
  (∀r,seatF (happensF n e hz).1.seats r=if r=e.router then some (seatOf e)else seatF n.seats r)∧∀r,routerF (happensF n e hz).1.routers r=if r=e.router then some (applyR (mineN n e) e).1 else routerF n.routers r:=by
 obtain⟨h1,h2,h3⟩:=happensF_zero h
 have hx:happensF n e hz=(netAfter n e hz,0):=by
  unfold happensF
  rw[if_neg (by omega),if_neg (by omega),if_neg h3]
 rw[hx]
 refine⟨fun r=>?_,routerF_after hok h1 h2⟩
 show seatF (nextS n.seats e hz).1 r=_
 rw[nextS_zero h1]
 exact seatF_put _ _ _
theorem putRt_sz (l:List Route) (x:Route):(putRt l x).1.length≤l.length+1:=by
 unfold putRt
 split
 ·simp
 rename_i hc
 have hR:checkR l=0:=by apply Classical.byContradiction;intro hn;exact hc (.inl hn)
 split
 ·simp
 rw[ltR_wo,gtR_wo]
 cases hf:bsF (cmpQ x.pfx) l with
 |true=>rw[←bs_set (strictR hR _) x hf];simp
 |false=>
  rw[←bs_ins (strictR hR _) x hf]
  simp only[List.length_append,List.length_cons,List.length_take,List.length_drop]
  omega
theorem delRt_sz (l:List Route) (p:Pfx):(delRt l p).1.length≤l.length:=by
 unfold delRt
 split
 ·simp
 ·exact woR_len _ _
theorem putLk_sz (l:List Link) (x:Link):(putLk l x).1.length≤l.length+1:=by
 unfold putLk
 split
 ·simp
 rename_i hc
 have hR:checkL l=0:=by apply Classical.byContradiction;intro hn;exact hc (.inl hn)
 split
 ·simp
 rw[ltL_cmp,gtL_cmp]
 cases hf:bsF (cmpL x.iface) l with
 |true=>rw[←bs_set (strictL hR _) x hf];simp
 |false=>
  rw[←bs_ins (strictL hR _) x hf]
  simp only[List.length_append,List.length_cons,List.length_take,List.length_drop]
  omega
theorem delLk_sz (l:List Link) (i:Int):(delLk l i).1.length≤l.length:=by
 unfold delLk
 split
 ·simp
 rename_i hc
 have hR:checkL l=0:=by apply Classical.byContradiction;intro hn;exact hc hn
 rw[ltL_cmp,gtL_cmp,←bs_ne (strictL hR i)]
 exact List.length_filter_le _ _
theorem applyR_sz (r:Router) (e:Ev):sz (applyR r e).1≤sz r+if growsE e then 1 else 0:=by
 have b1:=putRt_sz r.routes ⟨e.pfx,e.act⟩
 have b2:=delRt_sz r.routes e.pfx
 have b3:=putLk_sz r.links ⟨e.iface,e.peer⟩
 have b4:=delLk_sz r.links e.iface
 have hg3:e.kind=3→growsE e=true:=fun h=>by simp[growsE,h]
 have hg5:e.kind=5→growsE e=true:=fun h=>by simp[growsE,h]
 unfold applyR
 split
 ·simp[sz,router0]
 split
 ·simp
 split
 ·simp
 split
 ·simp[sz]
 split
 ·simp[sz]
 split
 ·rename_i h
  rw[hg3 h]
  split
  ·simp[sz];omega
  ·simp
 split
 ·simp[sz];omega
 split
 ·rename_i h
  rw[hg5 h]
  split
  ·simp[sz];omega
  ·simp
 ·simp[sz];omega
theorem happensF_sum {n:Net} {e:Ev} {hz:Int} (hok:netOk n=true) (h:(happensF n e hz).2=0):sumR (happensF n e hz).1.routers≤sumR n.routers+if growsE e then 1 else 0:=by
 have hok2:=happensF_ok (e:=e) (hz:=hz) hok
 obtain⟨h1,h2,h3⟩:=happensF_zero h
 have hx:happensF n e hz=(netAfter n e hz,0):=by
  unfold happensF
  rw[if_neg (by omega),if_neg (by omega),if_neg h3]
 rw[hx]at hok2⊢
 have hm:=(netOk_many hok2).1
 obtain⟨c1,c2,c3⟩:=many_after hok h1 h2
 have hs:=applyR_sz (mineN n e) e
 simp only at hm⊢
 rw[c1]at hm
 omega
end Go.Am
namespace Go.Am
open Go.Proofs
def Rel (t:Int) (N M:Net):Prop:=∀r,(seatF M.seats r=seatF N.seats r∧routerF M.routers r=routerF N.routers r)∨∃s,seatF N.seats r=some s∧t<s.time
def Sub (N M:Net):Prop:=∀r,seatF N.seats r=none→seatF M.seats r=none
theorem sorted_le:∀(b a:List Int),a.Pairwise (·<·)→b.Pairwise (·<·)→(∀x∈a,x∈b)→a.length≤b.length
 |[],a,_,_,h=>by
  cases a with
  |nil=>exact Nat.le_refl _
  |cons x a=>exact absurd (h x List.mem_cons_self) (by simp)
 |y::b,[],_,_,_=>Nat.zero_le _
 |y::b,x::a,ha,hb,h=>by
  have ha1:=List.pairwise_cons.1 ha
  have hb1:=List.pairwise_cons.1 hb
  by_cases hxy:x=y
  ·subst hxy
   have:=sorted_le b a ha1.2 hb1.2 fun z hz=>by
    have h1:=ha1.1 z hz
    rcases List.mem_cons.1 (h z (List.mem_cons_of_mem _ hz))with rfl|h2
    ·omega
    ·exact h2
   simp only[List.length_cons]
   omega
  ·have hx:x∈b:=(List.mem_cons.1 (h x List.mem_cons_self)).resolve_left hxy
   have hyx:=hb1.1 x hx
   have:=sorted_le b (x::a) ha hb1.2 fun z hz=>by
    rcases List.mem_cons.1 hz with rfl|hz'
    ·exact hx
    ·have h1:=ha1.1 z hz'
     rcases List.mem_cons.1 (h z hz)with rfl|h2
     ·omega
     ·exact h2
   simp only[List.length_cons]at*
   omega
theorem sub_len {N M:Net} (hN:netOk N=true) (hM:netOk M=true) (h:Sub N M):M.seats.length≤N.seats.length:=by
 have:=sorted_le (N.seats.map Seat.router) (M.seats.map Seat.router) (by rw[List.pairwise_map];exact checkS_sorted (netOk_checkS hM)) (by rw[List.pairwise_map];exact checkS_sorted (netOk_checkS hN)) fun x hx=>by
  obtain⟨s,hs,rfl⟩:=List.mem_map.1 hx
  apply Classical.byContradiction
  intro hn
  have h1:seatF N.seats s.router=none:=by
   rw[seatF_none]
   rintro⟨u,hu,hur⟩
   exact hn (List.mem_map.2 ⟨u,hu,hur⟩)
  have h2:=h _ h1
  rw[seatF_none]at h2
  exact h2 ⟨s,hs,rfl⟩
 simpa using this
theorem mayT_time {l:List Seat} {e:Ev} {hz:Int} (h:mayT l e hz=0):((seatF l e.router).getD seat0).time≤e.time:=by
 unfold mayT at h
 split at h
 ·cases h
 split at h
 ·cases h
 split at h
 ·cases h
 omega
theorem mayT_same {l m:List Seat} {e:Ev} {hz:Int} (h:mayT l e hz=0) (hs:seatF m e.router=seatF l e.router) (hl:seatF l e.router=none→¬m.length=64):mayT m e hz=0:=by
 unfold mayT at h⊢
 rw[hs]
 split at h
 ·cases h
 rename_i c1
 split at h
 ·cases h
 rename_i c2
 split at h
 ·cases h
 rename_i c3
 split at h
 ·cases h
 rename_i c4
 rw[if_neg c1,if_neg c2,if_neg c3,if_neg c4,if_neg]
 rintro⟨h1,h2⟩
 exact hl h1 h2
theorem happens_like {N M:Net} {e:Ev} {hz:Int} (hN:netOk N=true) (hM:netOk M=true) (h:(happensF N e hz).2=0) (hs:seatF M.seats e.router=seatF N.seats e.router) (hr:routerF M.routers e.router=routerF N.routers e.router)
  (hl:seatF N.seats e.router=none→¬M.seats.length=64) (hsum:sumR M.routers+(if growsE e then 1 else 0)≤1024):(happensF M e hz).2=0∧mineN M e=mineN N e:=by
 obtain⟨h1,h2,h3⟩:=happensF_zero h
 obtain⟨g1,g2,g3,g4,g5⟩:=mayS_zero h1
 have hmine:mineN M e=mineN N e:=by unfold mineN;rw[hr]
 have k1:mayS M.seats e hz=0:=by
  rw[mayS_T (netOk_checkS hM) g2 g3 g4]
  exact mayT_same g5 hs hl
 have k2:(applyR (mineN M e) e).2=0:=by rw[hmine];exact h2
 have k3:¬1024<many (netAfter M e hz).routers 0:=by
  obtain⟨c1,c2,c3⟩:=many_after hM k1 k2
  have hsz:=applyR_sz (mineN M e) e
  rw[c1]
  omega
 refine⟨?_,hmine⟩
 unfold happensF
 rw[if_neg (by omega),if_neg (by omega),if_neg k3]
theorem rel_step {N M:Net} {e:Ev} {hz t:Int} (hN:netOk N=true) (hM:netOk M=true) (h:(happensF N e hz).2=0) (hrel:Rel t N M) (hsub:Sub N M) (het:e.time≤t) (hsum:sumR M.routers+(if growsE e then 1 else 0)≤1024):
  (happensF M e hz).2=0∧Rel t (happensF N e hz).1 (happensF M e hz).1∧Sub (happensF N e hz).1 (happensF M e hz).1:=by
 obtain⟨h1,h2,h3⟩:=happensF_zero h
 obtain⟨g1,g2,g3,g4,g5⟩:=mayS_zero h1
 rcases hrel e.router with⟨hs,hr⟩|⟨s,hs,hst⟩
 ·have hlen:=sub_len hN hM hsub
  have h64:=netOk_seats hN
  obtain⟨k,hmine⟩:=happens_like hN hM h hs hr (fun hn=>by have:=mayT_len g5 hn;omega) hsum
  obtain⟨n1,n2⟩:=happensF_get hN h
  obtain⟨m1,m2⟩:=happensF_get hM k
  refine⟨k,fun r=>?_,fun r hr0=>?_⟩
  ·rw[n1,n2,m1,m2,hmine]
   by_cases hre:r=e.router
   ·simp only[if_pos hre]
    exact .inl (by simp)
   ·simp only[if_neg hre]
    exact hrel r
  ·rw[n1]at hr0
   rw[m1]
   by_cases hre:r=e.router
   ·rw[if_pos hre]at hr0;cases hr0
   ·rw[if_neg hre]at hr0⊢
    exact hsub r hr0
 ·have:=mayT_time g5
  rw[hs]at this
  simp only[Option.getD_some]at this
  omega
theorem rel_late {N M:Net} {e:Ev} {hz t:Int} (hN:netOk N=true) (h:(happensF N e hz).2=0) (hrel:Rel t N M) (hsub:Sub N M) (het:t<e.time):Rel t (happensF N e hz).1 M∧Sub (happensF N e hz).1 M:=by
 obtain⟨n1,n2⟩:=happensF_get hN h
 refine⟨fun r=>?_,fun r hr0=>?_⟩
 ·rw[n1,n2]
  by_cases hre:r=e.router
  ·simp only[if_pos hre]
   exact .inr ⟨seatOf e,rfl,het⟩
  ·simp only[if_neg hre]
   exact hrel r
 ·rw[n1]at hr0
  by_cases hre:r=e.router
  ·rw[if_pos hre]at hr0;cases hr0
  ·rw[if_neg hre]at hr0
   exact hsub r hr0
theorem allGo_step {hz:Int} {e:Ev} {l:List Ev} {n:Net} {i:Int} (h:(allGo hz (e::l) n i).2.2=0):(happensF n e hz).2=0∧allGo hz (e::l) n i=allGo hz l (happensF n e hz).1 (i+1):=by
 rw[allGo]at h
 split at h
 ·rename_i h1
  exact⟨h1,by rw[allGo,if_pos h1]⟩
 ·rename_i h1
  exact absurd h h1
theorem filt_all {t hz:Int}:∀(l:List Ev) (N M:Net) (i j:Int),netOk N=true→netOk M=true→Rel t N M→Sub N M→sumR M.routers+addsE (upto t l)≤1024→(allGo hz l N i).2.2=0→
  (allGo hz (upto t l) M j).2.2=0∧Rel t (allGo hz l N i).1 (allGo hz (upto t l) M j).1∧netOk (allGo hz (upto t l) M j).1=true
 |[],N,M,i,j,hN,hM,hr,hs,_,_=>⟨rfl,hr,hM⟩
 |e::l,N,M,i,j,hN,hM,hr,hs,hsum,h=>by
  obtain⟨h1,h2⟩:=allGo_step h
  rw[h2]at h⊢
  have hN':=happensF_ok (e:=e) (hz:=hz) hN
  by_cases het:e.time≤t
  ·have hu:upto t (e::l)=e::upto t l:=by unfold upto;rw[List.filter_cons,if_pos (by simpa using het)]
   have ha:addsE (upto t (e::l))=addsE (upto t l)+if growsE e then 1 else 0:=by
    rw[hu]
    unfold addsE growsE
    rw[List.countP_cons]
   rw[ha]at hsum
   obtain⟨k1,k2,k3⟩:=rel_step hN hM h1 hr hs het (by omega)
   have hM':=happensF_ok (e:=e) (hz:=hz) hM
   have hsz:=happensF_sum hM k1
   rw[hu,allGo,if_pos k1]
   exact filt_all l _ _ _ _ hN' hM' k2 k3 (by omega) h
  ·have hu:upto t (e::l)=upto t l:=by unfold upto;rw[List.filter_cons,if_neg (by simpa using het)]
   rw[hu]at hsum⊢
   obtain⟨k2,k3⟩:=rel_late hN h1 hr hs (by omega)
   exact filt_all l _ _ _ _ hN' hM k2 k3 hsum h
theorem addsE_upto (t:Int) (l:List Ev):addsE (upto t l)≤addsE l:=(List.filter_sublist).countP_le
theorem okP_base {p:Past} (h:okP p=true):netOk p.base=true:=by
 unfold okP at h
 simp only[Bool.and_eq_true,decide_eq_true_eq]at h
 exact allN_ok h.1.2
theorem okP_all {p:Past} (h:okP p=true):(allGo p.hz p.evs p.base 0).2.2=0:=by
 have hb:=okP_base h
 unfold okP at h
 simp only[Bool.and_eq_true,decide_eq_true_eq]at h
 have:=h.1.2
 unfold allN at this
 rw[if_neg (by simp[hb])]at this
 exact this
theorem okP_sum {p:Past} (h:okP p=true):sumR p.base.routers+addsE p.evs≤1024:=by
 have hb:=okP_base h
 have hw:=okP_weight h
 have hm:=(netOk_many hb).1
 unfold weightF sizeN at hw
 rw[if_pos hb,hm]at hw
 omega
theorem Rel.refl (t:Int) (N:Net):Rel t N N:=fun r=>.inl ⟨rfl,rfl⟩
theorem thenW_ok {p:Past} (h:okP p=true) (t:Int):thenW p t=0:=by
 have hb:=okP_base h
 have hs:=okP_sum h
 have ha:=addsE_upto t p.evs
 unfold thenW allN
 rw[if_neg (by simp[hb])]
 exact(filt_all p.evs p.base p.base 0 0 hb hb (Rel.refl _ _) (fun r h=>h) (by omega) (okP_all h)).1
end Go.Am
namespace Go.Am
open Go.Proofs
end Go.Am
namespace Go.Am
open Go.Proofs
end Go.Am
namespace Go.Am
open Go.Proofs
theorem nowP_go {p:Past} (h:okP p=true):nowP p=(allGo p.hz p.evs p.base 0).1:=by
 unfold nowP allN
 rw[if_neg (by simp[okP_base h])]
theorem thenF_go {p:Past} (h:okP p=true) (t:Int):thenF p t=(allGo p.hz (upto t p.evs) p.base 0).1:=by
 unfold thenF allN
 rw[if_neg (by simp[okP_base h])]
theorem thenF_all {p:Past} (h:okP p=true) (t:Int):(allGo p.hz (upto t p.evs) p.base 0).2.2=0∧Rel t (nowP p) (thenF p t)∧netOk (thenF p t)=true:=by
 have hb:=okP_base h
 have hs:=okP_sum h
 have ha:=addsE_upto t p.evs
 rw[nowP_go h,thenF_go h]
 exact filt_all p.evs p.base p.base 0 0 hb hb (Rel.refl _ _) (fun r h=>h) (by omega) (okP_all h)
end Go.Am
namespace Go.Am
open Go.Proofs
end Go.Am
namespace Go.Am
open Go.Proofs
theorem atO_spec (p:Past) (t:Int) (hew:∀e∈p.evs,0≤e.seq):FSpec Tryz.prog 34 [p.av,.int .i64 t] []
  (.tup [(if okP p=true∧askT p t=0 then thenF p t else net0).av,.int .i64 (if okP p then askT p t else 2)]) []:=by
 have h:=atP_spec p t hew
 have e:(if okP p then(if askT p t=0 then thenW p t else askT p t)else 2)=if okP p then askT p t else 2:=by
  by_cases hok:okP p=true
  ·rw[if_pos hok,if_pos hok]
   by_cases hb:askT p t=0
   ·rw[if_pos hb,hb,thenW_ok hok]
   ·rw[if_neg hb]
  ·rw[if_neg hok,if_neg hok]
 rw[e]at h
 exact h
theorem retO_spec (p:Past) (t:Int) (hew:∀e∈p.evs,0≤e.seq):FSpec Tryz.prog 89 [p.av,.int .i64 t] [] (.tup [(retainP p t).1.av,.int .i64 (retainP p t).2]) []:=
 retainPo_spec p t hew fun h _=>thenW_ok h t
def lE1:Ev:=⟨1,4,1,5,⟨false,⟨0,0⟩,0⟩,⟨0,0⟩,0,0⟩
def lE2:Ev:=⟨5,4,2,8,⟨false,⟨0,0⟩,0⟩,⟨0,0⟩,3,7⟩
def lP0:Past:=⟨⟨[],[]⟩,-1,[]⟩
def lP1:Past:=⟨⟨[],[]⟩,-1,[lE1]⟩
def lP2:Past:=⟨⟨[],[]⟩,-1,[lE1,lE2]⟩
theorem l1:takeP lP0 lE1=(lP1,0):=by kernel_rfl
theorem l2:takeP lP1 lE2=(lP2,0):=by kernel_rfl
theorem l3:okP lP2=true:=by kernel_rfl
theorem s1:FSpec Tryz.prog 40 [lP0.av,lE1.av] [] (.tup [lP1.av,.int .i64 0]) []:=by
 have h:=takePo_spec lP0 lE1 (by intro e he;cases he) (by decide)
 rw[l1]at h;exact h
theorem s2:FSpec Tryz.prog 40 [lP1.av,lE2.av] [] (.tup [lP2.av,.int .i64 0]) []:=by
 have h:=takePo_spec lP1 lE2 (by intro e he;simp[lP1,lE1]at he;subst he;decide) (by decide)
 rw[l2]at h;exact h
end Go.Am
namespace Go.Am
open Go.Proofs
theorem rows_of {α:Type} {f:α→List IV} {Q:α→Prop} {l:List Sh} (h:∀y,Sh.hasL l y→∃a,Q a∧y=f a):∀xs:List (List IV),(∀y∈xs,Sh.hasL l y)→∃zs:List α,xs=zs.map f∧∀a∈zs,Q a
 |[],_=>⟨[],rfl,fun a ha=>by cases ha⟩
 |x::xs,hx=>by
  obtain⟨a,h1,h2⟩:=h x (hx x List.mem_cons_self)
  obtain⟨zs,h3,h4⟩:=rows_of h xs fun y hy=>hx y (List.mem_cons_of_mem _ hy)
  exact⟨a::zs,by rw[h2,h3];rfl,fun b hb=>by
   rcases List.mem_cons.1 hb with rfl|hb
   ·exact h1
   ·exact h4 b hb⟩
theorem hasL_cons {s:Sh} {l:List Sh} {xs:List IV} (h:Sh.hasL (s::l) xs):∃y ys,xs=y::ys∧s.has y∧Sh.hasL l ys:=by simpa only[Sh.hasL]using h
theorem hasL_nil {xs:List IV} (h:Sh.hasL [] xs):xs=[]:=by simpa only[Sh.hasL]using h
theorem has_int {q:IntKind} {x:IV} (h:(Sh.int q).has x):∃n:Int,x=.sc (.int q n)∧(Lit.int q n).wf=true:=by simpa only[Sh.has]using h
theorem has_bool {x:IV} (h:Sh.bool.has x):∃b:Bool,x=.sc (.bool b):=by simpa only[Sh.has]using h
theorem has_sl {l:List Sh} {x:IV} (h:(Sh.sl l).has x):∃xs:List (List IV),x=.sl l.length xs∧∀y∈xs,Sh.hasL l y:=by simpa only[Sh.has]using h
theorem u64_wf {n:Int} (h:(Lit.int .u64 n).wf=true):0≤n∧n<18446744073709551616:=by
 simp[Lit.wf,IntKind.min,IntKind.max,IntKind.signed,IntKind.bits]at h
 omega
def seatSh:List Sh:=[.int .i64,.int .u64,.int .i64,.bool]
def routeSh:List Sh:=[.bool,.int .u64,.int .u64,.int .i64,.int .u8,.int .i64]
def linkSh:List Sh:=[.int .i64,.int .i64]
def routerSh:List Sh:=[.int .i64,.bool,.sl routeSh,.sl linkSh]
def addrSh:List Sh:=[.int .u64,.int .u64]
theorem seat_of (y:List IV) (h:Sh.hasL seatSh y):∃s:Seat,True∧y=s.iv:=by
 obtain⟨a,_,rfl,ha,h⟩:=hasL_cons h
 obtain⟨b,_,rfl,hb,h⟩:=hasL_cons h
 obtain⟨c,_,rfl,hc,h⟩:=hasL_cons h
 obtain⟨d,_,rfl,hd,h⟩:=hasL_cons h
 cases hasL_nil h
 obtain⟨a,rfl,_⟩:=has_int ha
 obtain⟨b,rfl,_⟩:=has_int hb
 obtain⟨c,rfl,_⟩:=has_int hc
 obtain⟨d,rfl⟩:=has_bool hd
 exact⟨⟨a,b,c,d⟩,trivial,rfl⟩
theorem link_of (y:List IV) (h:Sh.hasL linkSh y):∃s:Link,True∧y=s.iv:=by
 obtain⟨a,_,rfl,ha,h⟩:=hasL_cons h
 obtain⟨b,_,rfl,hb,h⟩:=hasL_cons h
 cases hasL_nil h
 obtain⟨a,rfl,_⟩:=has_int ha
 obtain⟨b,rfl,_⟩:=has_int hb
 exact⟨⟨a,b⟩,trivial,rfl⟩
theorem route_of (y:List IV) (h:Sh.hasL routeSh y):∃s:Route,s.pfx.addr.wf∧y=s.iv:=by
 obtain⟨a,_,rfl,ha,h⟩:=hasL_cons h
 obtain⟨b,_,rfl,hb,h⟩:=hasL_cons h
 obtain⟨c,_,rfl,hc,h⟩:=hasL_cons h
 obtain⟨d,_,rfl,hd,h⟩:=hasL_cons h
 obtain⟨e,_,rfl,he,h⟩:=hasL_cons h
 obtain⟨f,_,rfl,hf,h⟩:=hasL_cons h
 cases hasL_nil h
 obtain⟨a,rfl⟩:=has_bool ha
 obtain⟨b,rfl,wb⟩:=has_int hb
 obtain⟨c,rfl,wc⟩:=has_int hc
 obtain⟨d,rfl,_⟩:=has_int hd
 obtain⟨e,rfl,_⟩:=has_int he
 obtain⟨f,rfl,_⟩:=has_int hf
 exact⟨⟨⟨a,⟨b,c⟩,d⟩,⟨e,f⟩⟩,⟨(u64_wf wb).1,(u64_wf wb).2,u64_wf wc⟩,rfl⟩
theorem router_of (y:List IV) (h:Sh.hasL routerSh y):∃s:Router,s.wf∧y=s.iv:=by
 obtain⟨a,_,rfl,ha,h⟩:=hasL_cons h
 obtain⟨b,_,rfl,hb,h⟩:=hasL_cons h
 obtain⟨c,_,rfl,hc,h⟩:=hasL_cons h
 obtain⟨d,_,rfl,hd,h⟩:=hasL_cons h
 cases hasL_nil h
 obtain⟨a,rfl,_⟩:=has_int ha
 obtain⟨b,rfl⟩:=has_bool hb
 obtain⟨c,rfl,wc⟩:=has_sl hc
 obtain⟨d,rfl,wd⟩:=has_sl hd
 obtain⟨rs,rfl,hr⟩:=rows_of route_of c wc
 obtain⟨ls,rfl,_⟩:=rows_of link_of d wd
 exact⟨⟨a,b,rs,ls⟩,hr,rfl⟩
theorem addr_of (y:List IV) (h:Sh.hasL addrSh y):∃a:Addr4,a.wf∧y.map AV.im=[.int .u64 a.hi,.int .u64 a.lo]:=by
 obtain⟨a,_,rfl,ha,h⟩:=hasL_cons h
 obtain⟨b,_,rfl,hb,h⟩:=hasL_cons h
 cases hasL_nil h
 obtain⟨a,rfl,wa⟩:=has_int ha
 obtain⟨b,rfl,wb⟩:=has_int hb
 exact⟨⟨a,b⟩,⟨(u64_wf wa).1,(u64_wf wa).2,u64_wf wb⟩,rfl⟩
theorem hasArgs_cons {s:List Sh} {l:List (List Sh)} {xs:List (List IV)} (h:hasArgs (s::l) xs):∃y ys,xs=y::ys∧Sh.hasL s y∧hasArgs l ys:=h
end Go.Am
namespace Go.Am
open Go.Proofs
def evSh:List Sh:=[.int .u8,.int .i64,.int .u64,.int .i64,.bool,.int .u64,.int .u64,.int .i64,.int .u8,.int .i64,.int .i64,.int .i64]
def pastSh:List Sh:=[.sl seatSh,.sl routerSh,.int .i64,.sl evSh]
def ivlSh:List Sh:=[.int .i64,.int .i64]
theorem ev_of (y:List IV) (h:Sh.hasL evSh y):∃e:Ev,(0≤e.seq∧e.pfx.addr.wf)∧y=e.iv:=by
 obtain⟨a,_,rfl,ha,h⟩:=hasL_cons h
 obtain⟨b,_,rfl,hb,h⟩:=hasL_cons h
 obtain⟨c,_,rfl,hc,h⟩:=hasL_cons h
 obtain⟨d,_,rfl,hd,h⟩:=hasL_cons h
 obtain⟨e,_,rfl,he,h⟩:=hasL_cons h
 obtain⟨f,_,rfl,hf,h⟩:=hasL_cons h
 obtain⟨g,_,rfl,hg,h⟩:=hasL_cons h
 obtain⟨i,_,rfl,hi,h⟩:=hasL_cons h
 obtain⟨j,_,rfl,hj,h⟩:=hasL_cons h
 obtain⟨k,_,rfl,hk,h⟩:=hasL_cons h
 obtain⟨l,_,rfl,hl,h⟩:=hasL_cons h
 obtain⟨m,_,rfl,hm,h⟩:=hasL_cons h
 cases hasL_nil h
 obtain⟨a,rfl,_⟩:=has_int ha
 obtain⟨b,rfl,_⟩:=has_int hb
 obtain⟨c,rfl,wc⟩:=has_int hc
 obtain⟨d,rfl,_⟩:=has_int hd
 obtain⟨e,rfl⟩:=has_bool he
 obtain⟨f,rfl,wf⟩:=has_int hf
 obtain⟨g,rfl,wg⟩:=has_int hg
 obtain⟨i,rfl,_⟩:=has_int hi
 obtain⟨j,rfl,_⟩:=has_int hj
 obtain⟨k,rfl,_⟩:=has_int hk
 obtain⟨l,rfl,_⟩:=has_int hl
 obtain⟨m,rfl,_⟩:=has_int hm
 exact⟨⟨a,b,c,d,⟨e,⟨f,g⟩,i⟩,⟨j,k⟩,l,m⟩,⟨(u64_wf wc).1,⟨(u64_wf wf).1,(u64_wf wf).2,u64_wf wg⟩⟩,rfl⟩
theorem past_of (y:List IV) (h:Sh.hasL pastSh y):∃p:Past,p.wf∧y.map AV.im=[.im (.sl 4 (p.base.seats.map Seat.iv)),.im (.sl 4 (p.base.routers.map Router.iv)),.int .i64 p.hz,.im (.sl 12 (p.evs.map Ev.iv))]:=by
 obtain⟨a,_,rfl,ha,h⟩:=hasL_cons h
 obtain⟨b,_,rfl,hb,h⟩:=hasL_cons h
 obtain⟨c,_,rfl,hc,h⟩:=hasL_cons h
 obtain⟨d,_,rfl,hd,h⟩:=hasL_cons h
 cases hasL_nil h
 obtain⟨a,rfl,wa⟩:=has_sl ha
 obtain⟨b,rfl,wb⟩:=has_sl hb
 obtain⟨c,rfl,_⟩:=has_int hc
 obtain⟨d,rfl,wd⟩:=has_sl hd
 obtain⟨ss,rfl,_⟩:=rows_of seat_of a wa
 obtain⟨rs,rfl,hr⟩:=rows_of router_of b wb
 obtain⟨es,rfl,hes⟩:=rows_of ev_of d wd
 exact⟨⟨⟨ss,rs⟩,c,es⟩,⟨hr,hes⟩,rfl⟩
theorem int1_of {x:List IV} (h:Sh.hasL [.int .i64] x):∃t:Int,x=[.sc (.int .i64 t)]:=by
 obtain⟨a,_,rfl,ha,h⟩:=hasL_cons h
 cases hasL_nil h
 obtain⟨a,rfl,_⟩:=has_int ha
 exact⟨a,rfl⟩
theorem ivl_of {x:List IV} (h:Sh.hasL ivlSh x):∃a b:Int,x=[.sc (.int .i64 a),.sc (.int .i64 b)]:=by
 obtain⟨a,_,rfl,ha,h⟩:=hasL_cons h
 obtain⟨b,_,rfl,hb,h⟩:=hasL_cons h
 cases hasL_nil h
 obtain⟨a,rfl,_⟩:=has_int ha
 obtain⟨b,rfl,_⟩:=has_int hb
 exact⟨a,b,rfl⟩
end Go.Am
namespace Go.Am
open Go.Proofs
theorem past_arg (y:List IV) (h:Sh.hasL pastSh y):∃p:Past,p.wf∧argAV Tryz.prog 51 y=p.av:=by
 obtain⟨p,hp,ep⟩:=past_of y h
 refine⟨p,hp,?_⟩
 simp only[argAV,Tryz.underlying51,ep]
 rfl
theorem int_arg (y:List IV) (h:Sh.hasL [.int .i64] y):∃t:Int,argAV Tryz.prog 2 y=.int .i64 t:=by
 obtain⟨t,rfl⟩:=int1_of h
 refine⟨t,?_⟩
 simp only[argAV,Tryz.underlying2]
end Go.Am
namespace Go.Am
open Go.Proofs
end Go.Am
namespace Go.Am
open Go.Proofs
theorem allGo_wf {hz:Int}:∀(l:List Ev) (n:Net) (i:Int),n.wf→(∀e∈l,e.pfx.addr.wf)→(allGo hz l n i).1.wf
 |[],n,i,h,_=>h
 |e::l,n,i,h,hl=>by
  rw[allGo]
  split
  ·exact allGo_wf l _ _ (happensF_wf h (hl e List.mem_cons_self)) fun x hx=>hl x (List.mem_cons_of_mem _ hx)
  ·exact h
theorem net0_wf:net0.wf:=by intro r hr;cases hr
theorem allN_wf {n:Net} {l:List Ev} {hz:Int} (h:n.wf) (hl:∀e∈l,e.pfx.addr.wf):(allN n l hz).1.wf:=by
 unfold allN
 split
 ·exact net0_wf
 ·exact allGo_wf l n 0 h hl
end Go.Am
namespace Go.Am
open Go.Proofs
def askV (p:Past) (r:Int) (six:Bool) (x:Addr4) (a b:Int):Int:=if okP p=false∨rightA six x=false then 2 else if oneI a b=false∨r<0∨1048576<r then 1 else if a<p.hz then 15 else 0
set_option maxRecDepth 8000 in
theorem askedV_spec (p:Past) (r:Int) (six:Bool) (x:Addr4) (a b:Int) (hw:p.wf):
  FSpec Tryz.prog 72 [p.av,.int .i64 r,.bool six,x.av,.agg [.int .i64 a,.int .i64 b]] [] (.int .i64 (askV p r six x a b)) []:=by
 have h1:=checkP_spec_ p fun e he=>(hw.2 e he).1
 have h2:=rightA_spec six x
 have h3:=window_spec p a b
 unfold winW at h3
 unfold askV
 generalize okP p=O at*
 generalize rightA six x=R at*
 generalize oneI a b=W at*
 refine FSpec.of_flat (q:=[]) Tryz.func72 (by kernel_rfl) rfl Tryz.ntmps72 Tryz.results72 hP (by kernel_rfl) (by simp) (by first|rfl|simp) ?_
 simp -implicitDefEqProofs
 first|refine CallK.same (h1) rfl rfl ?_|refine CallQ.same (h1) rfl rfl ?_|refine CallQG.same _ (h1) rfl ?_|refine CallG.same _ (h1) rfl ?_|refine CallK.pv (h1) rfl rfl ?_
 simp -implicitDefEqProofs
 cases O with
 |false=>
  simp -implicitDefEqProofs
  first|refine CallG.off (.bool true) ?_|(refine CallG.on ?_;first|refine CallK.same (h2) rfl rfl ?_|refine CallQ.same (h2) rfl rfl ?_|refine CallQG.same _ (h2) rfl ?_|refine CallG.same _ (h2) rfl ?_|refine CallK.pv (h2) rfl rfl ?_)
  simp -implicitDefEqProofs
 |true=>
  simp -implicitDefEqProofs
  first|refine CallG.off (.bool true) ?_|(refine CallG.on ?_;first|refine CallK.same (h2) rfl rfl ?_|refine CallQ.same (h2) rfl rfl ?_|refine CallQG.same _ (h2) rfl ?_|refine CallG.same _ (h2) rfl ?_|refine CallK.pv (h2) rfl rfl ?_)
  simp -implicitDefEqProofs
  cases R with
  |false=>simp -implicitDefEqProofs
  |true=>
   simp -implicitDefEqProofs
   first|refine CallK.same (h3) rfl rfl ?_|refine CallQ.same (h3) rfl rfl ?_|refine CallQG.same _ (h3) rfl ?_|refine CallG.same _ (h3) rfl ?_|refine CallK.pv (h3) rfl rfl ?_
   cases W with
   |false=>simp -implicitDefEqProofs
   |true=>
    simp -implicitDefEqProofs
    by_cases ha:a<p.hz<;>by_cases hr1:r<0<;>by_cases hr2:1048576<r<;>simp[ha,hr1,hr2,impB]<;>omega
set_option maxRecDepth 8000 in
theorem askedVr_spec (p:Past) (r:Int) (six:Bool) (x:Addr4) (a b:Int) (hw:p.wf) (hx:x.wf):
  FSpec Tryz.prog 78 [p.av,.int .i64 r,.bool six,x.av,.agg [.int .i64 a,.int .i64 b]] [] (.int .i64 (askV p r six x a b)) []:=by
 have h1:=checkPr21_spec p hw
 have h2:=rightAr_spec six x hx
 have h3:=one_spec a b
 rw[show(decide (0≤a)&&decide (a≤b)&&decide (b≤1099511627776))=oneI a b from rfl]at h3
 unfold askV
 generalize okP p=O at*
 generalize rightA six x=R at*
 generalize oneI a b=W at*
 refine FSpec.of_flat (q:=[]) Tryz.func78 (by kernel_rfl) rfl Tryz.ntmps78 Tryz.results78 hP (by kernel_rfl) (by simp) (by first|rfl|simp) ?_
 simp -implicitDefEqProofs
 first|refine CallK.same (h1) rfl rfl ?_|refine CallQ.same (h1) rfl rfl ?_|refine CallQG.same _ (h1) rfl ?_|refine CallG.same _ (h1) rfl ?_|refine CallK.pv (h1) rfl rfl ?_
 simp -implicitDefEqProofs
 cases O with
 |false=>
  simp -implicitDefEqProofs
  first|refine CallG.off (.bool true) ?_|(refine CallG.on ?_;first|refine CallK.same (h2) rfl rfl ?_|refine CallQ.same (h2) rfl rfl ?_|refine CallQG.same _ (h2) rfl ?_|refine CallG.same _ (h2) rfl ?_|refine CallK.pv (h2) rfl rfl ?_)
  simp -implicitDefEqProofs
 |true=>
  simp -implicitDefEqProofs
  first|refine CallG.off (.bool true) ?_|(refine CallG.on ?_;first|refine CallK.same (h2) rfl rfl ?_|refine CallQ.same (h2) rfl rfl ?_|refine CallQG.same _ (h2) rfl ?_|refine CallG.same _ (h2) rfl ?_|refine CallK.pv (h2) rfl rfl ?_)
  simp -implicitDefEqProofs
  cases R with
  |false=>simp -implicitDefEqProofs
  |true=>
   simp -implicitDefEqProofs
   first|refine CallK.same (h3) rfl rfl ?_|refine CallQ.same (h3) rfl rfl ?_|refine CallQG.same _ (h3) rfl ?_|refine CallG.same _ (h3) rfl ?_|refine CallK.pv (h3) rfl rfl ?_
   cases W with
   |false=>simp -implicitDefEqProofs
   |true=>
    simp -implicitDefEqProofs
    by_cases ha:a<p.hz<;>by_cases hr1:r<0<;>by_cases hr2:1048576<r<;>simp[ha,hr1,hr2,impB]<;>omega
end Go.Am
namespace Go.Am
open Go.Proofs
def endT (b:Int) (ts:List Int) (k:Nat):Int:=if k+1<ts.length then ts.getD (k+1) 0-1 else b
def accE {T:Type} [DecidableEq T] (f:Int→T) (b:Int) (ts:List Int):Nat→List (Pc T)
 |0=>[]
 |k+1=>addPc (accE f b ts k) (ts.getD k 0) (endT b ts k) (f (ts.getD k 0))
theorem accE_acc {T:Type} [DecidableEq T] (f:Int→T) (b:Int) (ts:List Int):∀k,k<ts.length→accE f b ts k=accG f ts k
 |0,_=>rfl
 |k+1,h=>by rw[accE,accG,accE_acc f b ts k (by omega),endT,if_pos h]
theorem accE_all {T:Type} [DecidableEq T] (f:Int→T) (b:Int) (ts:List Int) (n:Nat) (h:ts.length=n+1):accE f b ts ts.length=lineG f b ts []:=by
 rw[lineG_acc f b ts n h,h,accE,accE_acc f b ts n (by omega),endT,if_neg (by omega)]
theorem accE_len {T:Type} [DecidableEq T] (f:Int→T) (b:Int) (ts:List Int):∀k,(accE f b ts k).length≤k
 |0=>Nat.le_refl _
 |k+1=>by
  have h1:=accE_len f b ts k
  have h2:=addPc_len (accE f b ts k) (ts.getD k 0) (endT b ts k) (f (ts.getD k 0))
  rw[accE]
  omega
theorem accE_p {T:Type} [DecidableEq T] (p:Past) (F:Net→T) (a b:Int):accE (fun t=>F (thenF p t)) b (a::timesF p.evs a b) (a::timesF p.evs a b).length=lineP p F a b:=accE_all _ _ _ _ rfl
theorem askV_zero {p:Past} {r:Int} {six:Bool} {x:Addr4} {a b:Int} (h:askV p r six x a b=0):okP p=true∧rightA six x=true∧oneI a b=true∧0≤r∧r≤1048576∧p.hz≤a:=by
 unfold askV at h
 split at h
 ·cases h
 split at h
 ·cases h
 split at h
 ·cases h
 rename_i h1 h2 h3
 simp at h1 h2
 exact⟨h1.1,h1.2,h2.1,h2.2.1,h2.2.2,by omega⟩
theorem oneI_le {a b:Int} (h:oneI a b=true):0≤a∧a≤b∧b≤1099511627776:=by
 unfold oneI at h
 simp at h
 exact⟨h.1.1,h.1.2,h.2⟩
theorem ask_timesW {p:Past} {r:Int} {six:Bool} {x:Addr4} {a b:Int} (h:askV p r six x a b=0):timesW p a b=0:=by
 obtain⟨h1,h2,h3,h4,h5,h6⟩:=askV_zero h
 unfold timesW winW
 rw[if_neg (by simp[h1]),if_neg (by simp[h3]),if_neg (by omega)]
theorem timesF_bd {l:List Ev} {a b t:Int} (h:oneI a b=true) (ht:t∈a::timesF l a b):0≤t∧t≤1099511627776:=by
 have:=oneI_le h
 rcases List.mem_cons.1 ht with rfl|ht
 ·omega
 ·have:=timesF_in ht;omega
theorem timesF_len (l:List Ev) (a b:Int):(timesF l a b).length≤l.length:=by
 unfold timesF
 have h1:=dedup_len (sortI (happT l a b))
 rw[(sortI_perm _).length_eq]at h1
 have h2:=happT_len l a b
 omega
set_option maxRecDepth 8000 in
theorem timesD_spec (p:Past) (a b:Int) (hw:p.wf) (h:timesW p a b=0) (hok:okP p=true):FSpec Tryz.prog 79 [p.av,.agg [.int .i64 a,.int .i64 b]] [] (.im (.sl 1 (rowN (a::timesF p.evs a b)))) []:=by
 have h1:=timesPr_spec p a b hw
 rw[h,if_pos rfl]at h1
 have hl:=okP_len hok
 have hl2:=timesF_len p.evs a b
 generalize timesF p.evs a b=D at*
 refine FSpec.of_z (q:=[]) Tryz.func79 (by kernel_rfl) rfl Tryz.ntmps79 Tryz.results79 hP (by kernel_rfl) (by simp) (by first|rfl|simp) ?_
 simp -implicitDefEqProofs
 first|refine CallK.same (h1) rfl rfl ?_|refine CallQ.same (h1) rfl rfl ?_|refine CallQG.same _ (h1) rfl ?_|refine CallG.same _ (h1) rfl ?_|refine CallK.pv (h1) rfl rfl ?_
 simp -implicitDefEqProofs
 refine⟨⟨by omega,by unfold maxLen;omega⟩,?_⟩
 refine EndZ.ret [3] (.row 3) (by simp) (by simp[rowN])
theorem end_spec (ts:List Int) (k:Nat) (a b:Int) (hk:k<ts.length) (hl:ts.length≤100000) (hb:∀t∈ts,0≤t∧t≤1099511627776):FSpec Tryz.prog 81 [.im (.sl 1 (rowN ts)),.int .i64 k,.agg [.int .i64 a,.int .i64 b]] [] (.int .i64 (endT b ts k)) []:=by
 have e1:IntKind.i64.wrap (k+1)=(k+1:Nat):=wrap64 (by omega) (by omega)
 unfold endT
 refine FSpec.of_flat (q:=[]) Tryz.func81 (by kernel_rfl) rfl Tryz.ntmps81 Tryz.results81 hP (by kernel_rfl) (by simp) (by first|rfl|simp) ?_
 by_cases hlt:k+1<ts.length
 ·have hg:=rowN_get hlt
  have hb1:=hb ts[k+1] (List.getElem_mem hlt)
  have e2:IntKind.i64.wrap (ts[k+1]-1)=ts[k+1]-1:=wrap64 (by omega) (by omega)
  simp -implicitDefEqProofs [e1,hlt,hg,e2]
  omega
 ·simp -implicitDefEqProofs [e1,hlt]
  omega
set_option maxRecDepth 8000 in
set_option maxHeartbeats 4000000 in
theorem hopsD_spec (p:Past) (r:Int) (six:Bool) (x:Addr4) (a b:Int) (hw:p.wf) (hx:x.wf):
  FSpec Tryz.prog 24 [p.av,.int .i64 r,.bool six,x.av,.agg [.int .i64 a,.int .i64 b]] []
   (.tup [.im (.sl 4 ((if askV p r six x a b=0 then lineP p (fun n=>doesF n r six x) a b else[]).map Pc.ivHop)),.int .i64 (askV p r six x a b)]) []:=by
 have h1:=askedVr_spec p r six x a b hw hx
 refine FSpec.of_z (q:=[(9,.m [.p [] [],.p [] [],.e [39,40],.p [0] [],.p [0] [],.p [0] [],.e [41,42,43,44],.a 0 2]),(12,.n 10)]) Tryz.func24 (by kernel_rfl) rfl Tryz.ntmps24 Tryz.results24 hP (by kernel_rfl) (by simp) (by first|rfl|simp) ?_
 simp -implicitDefEqProofs
 first|refine CallK.same (h1) rfl rfl ?_|refine CallQ.same (h1) rfl rfl ?_|refine CallQG.same _ (h1) rfl ?_|refine CallG.same _ (h1) rfl ?_|refine CallK.pv (h1) rfl rfl ?_
 simp -implicitDefEqProofs
 refine⟨fun h=>?_,fun h=>?_⟩
 ·refine EndZ.ret [] (.tup [.im (.sc (.slice none 0 0)),.int .i64 (askV p r six x a b)]) (by simp) (by simp[h])
 obtain⟨hok,hr,ho,h3,h4,h5⟩:=askV_zero h
 have htm:=timesD_spec p a b hw (ask_timesW h) hok
 have hbd:∀t∈a::timesF p.evs a b,0≤t∧t≤1099511627776:=fun t ht=>timesF_bd ho ht
 have hl:=okP_len hok
 have hl2:=timesF_len p.evs a b
 rw[if_pos h,←accE_p,h]
 have hlen:(a::timesF p.evs a b).length≤2000:=by simp;omega
 generalize a::timesF p.evs a b=ts at*
 first|refine CallK.same (htm) rfl rfl ?_|refine CallQ.same (htm) rfl rfl ?_|refine CallQG.same _ (htm) rfl ?_|refine CallG.same _ (htm) rfl ?_|refine CallK.pv (htm) rfl rfl ?_
 simp -implicitDefEqProofs
 refine LoopK.nil (.sl 13 83 4) ?_
 simp -implicitDefEqProofs
 refine LoopK.os (fun k:Nat=>[(1,.int .i64 r),(2,.bool six),(5,.ptr 0 0),(8,.ptr 1 0),(9,.ptr 2 0),(13,.row 3),(14,.im (.sl 1 (rowN ts))),(32,.im (.sl 1 (rowN ts))),(33,.int .i64 ts.length),(34,.int .i64 k)])
  (fun k=>[pastO p,.box 25 [.int .u64 x.hi,.int .u64 x.lo],.box 53 [.int .i64 a,.int .i64 b],.row 83 4 ((accE (fun t=>doesF (thenF p t) r six x) b ts k).map Pc.ivHop)])
  (fun k=>k≤ts.length) (fun k=>ts.length-k) 0 [0,1,2,3] (Nat.zero_le _) (by simp[accE]) ?_
 intro k hk
 by_cases hlt:k<ts.length
 ·have e1:IntKind.i64.wrap (k+1)=(k+1:Nat):=wrap64 (by omega) (by omega)
  have hg:=rowN_get hlt
  have hacc:accE (fun t=>doesF (thenF p t) r six x) b ts (k+1)=addPc (accE (fun t=>doesF (thenF p t) r six x) b ts k) ts[k] (endT b ts k) (doesF (thenF p ts[k]) r six x):=by
   rw[accE,List.getD_eq_getElem?_getD,List.getElem?_eq_getElem hlt];rfl
  have hal:=accE_len (fun t=>doesF (thenF p t) r six x) b ts k
  have hnw:(thenF p ts[k]).wf:=allN_wf hw.1 fun e he=>(hw.2 e (List.mem_filter.1 he).1).2
  have g1:=thenr_spec p ts[k] hw.1 (fun e he=>(hw.2 e he).2) (by omega)
  have g2:=doesNr_spec (thenF p ts[k]) r six x hnw hx
  have g3:=end_spec ts k a b hlt (by omega) hbd
  generalize accE (fun t=>doesF (thenF p t) r six x) b ts k=L at*
  generalize doesF (thenF p ts[k]) r six x=H at*
  generalize thenF p ts[k]=N at*
  generalize endT b ts k=E at*
  obtain⟨t,ht⟩:∃t,ts[k]=t:=⟨_,rfl⟩
  rw[ht]at hg hacc g1
  simp -implicitDefEqProofs [hlt,hg,ht]
  first|refine CallK.same (g1) rfl rfl ?_|refine CallQ.same (g1) rfl rfl ?_|refine CallQG.same _ (g1) rfl ?_|refine CallG.same _ (g1) rfl ?_|refine CallK.pv (g1) rfl rfl ?_
  simp -implicitDefEqProofs
  first|refine CallK.same (g2) rfl rfl ?_|refine CallQ.same (g2) rfl rfl ?_|refine CallQG.same _ (g2) rfl ?_|refine CallG.same _ (g2) rfl ?_|refine CallK.pv (g2) rfl rfl ?_
  simp -implicitDefEqProofs
  first|refine CallK.same (g3) rfl rfl ?_|refine CallQ.same (g3) rfl rfl ?_|refine CallQG.same _ (g3) rfl ?_|refine CallG.same _ (g3) rfl ?_|refine CallK.pv (g3) rfl rfl ?_
  rcases List.eq_nil_or_concat L with rfl|⟨L',y,rfl⟩
  ·simp -implicitDefEqProofs
   refine⟨by unfold maxLen;omega,?_⟩
   refine Again.os (k+1) [0,1,2,6] hlt (by omega) ?_
   simp -implicitDefEqProofs [e1,hacc,addPc]
  ·rw[List.concat_eq_append]at hacc hal⊢
   rw[List.length_append,List.length_singleton]at hal
   have e2:IntKind.i64.wrap (L'.length:Int)=(L'.length:Int):=wrap64 (by omega) (by omega)
   have hg2:=get_end Pc.ivHop L' (Pc.ivHop y)
   have hm:=fun g=>mod_end g (Pc.ivHop y) (L'.map Pc.ivHop)
   simp at hg2 hm
   simp -implicitDefEqProofs [e2,hg2,hm]
   refine⟨by omega,fun h1 h2=>⟨by omega,?_⟩,fun hne=>⟨⟨by omega,by unfold maxLen;omega⟩,?_⟩⟩
   ·have hv:y.v=H:=Hop_ext h1 h2
    subst hv
    rw[addPc_ext]at hacc
    refine Again.os (k+1) [0,1,2,3] hlt (by omega) ?_
    simp -implicitDefEqProofs [e1,hacc]
   ·have hv:y.v≠H:=fun e=>by subst e;exact hne rfl rfl
    rw[addPc_new _ _ _ _ (fun z hz=>by simp at hz;rw[←hz];exact hv)]at hacc
    refine Again.os (k+1) [0,1,2,6] hlt (by omega) ?_
    simp -implicitDefEqProofs [e1,hacc]
 ·have hkk:k=ts.length:=by omega
  subst hkk
  simp -implicitDefEqProofs
  refine EndZ.ret [3] (.tup [.row 3,.int .i64 0]) (by simp) (by simp)
end Go.Am
namespace Go.Am
open Go.Proofs
def wasHop (f:Int→Hop) (ts:List Int):Nat→List AV
 |0=>[.int .u8 0,.int .i64 0]
 |k+1=>[.int .u8 (f (ts.getD k 0)).kind,.int .i64 (f (ts.getD k 0)).peer]
set_option maxRecDepth 8000 in
set_option maxHeartbeats 4000000 in
theorem lineHop_spec (p:Past) (a b:Int) (g:FuncId) (F:Net→Hop) (router:Int) (six:Bool) (x:Addr4) (hok:okP p=true) (hew:∀e∈p.evs,0≤e.seq)
  (hw:p.wf) (hg:∀n:Net,n.wf→netOk n=true→FSpec Tryz.prog g [n.av,.ptr 0 0,.ptr 1 0,.ptr 2 0] [.box 3 [.int .i64 router],.box 4 [.bool six],.box 25 [.int .u64 x.hi,.int .u64 x.lo]] (F n).av [.box 3 [.int .i64 router],.box 4 [.bool six],.box 25 [.int .u64 x.hi,.int .u64 x.lo]]) (hbd:∀t∈a::timesF p.evs a b,0≤t∧t≤1099511627776) (hasT:∀t∈a::timesF p.evs a b,askT p t=0):
  FSpec Tryz.prog 156 [p.av,.agg [.int .i64 a,.int .i64 b],.fn g [.ptr 0 0,.ptr 1 0,.ptr 2 0]] [.box 3 [.int .i64 router],.box 4 [.bool six],.box 25 [.int .u64 x.hi,.int .u64 x.lo]] (.ptr 3 0) [.box 3 [.int .i64 router],.box 4 [.bool six],.box 25 [.int .u64 x.hi,.int .u64 x.lo],lineHop 4,rowHop (lineP p F a b)]:=by
 have hl:=okP_len hok
 have htm:=timesK_spec p a b (by omega)
 refine FSpec.of_o (q:=[(2,.m [.p [] [],.p [] [],.a 0 1,.p [1] [],.p [1] [0],.a 1 0,.a 2 0,.a 3 0,.e [8,16]])]) Tryz.func156 (by kernel_rfl) rfl Tryz.ntmps156 Tryz.results156 hP (by kernel_rfl) (by simp) (by first|rfl|simp) ?_
 simp -implicitDefEqProofs
 refine CallK.outs [] (eachO_spec p a b) rfl (by simp) (by simp[AV.flat]) ?_
 simp -implicitDefEqProofs [rangeK]
 intro a0 b0 rr
 refine⟨_,_,_,[(1,.m [.p [1] [],.p [1] [],.a 0 1,.p [] [],.p [] [],.e [16,17],.e [15,18],.e [19],.p [] [],.p [0,1,2] []])],Tryz.func204,(by kernel_rfl),rfl,Tryz.ntmps204,Tryz.results204,(by kernel_rfl),(by simp),?_⟩
 simp -implicitDefEqProofs
 refine CallO.mk [] [16] htm (by simp) rfl (by simp) (by simp) (by simp) ?_
 simp -implicitDefEqProofs
 have hcc:=concatN_spec [[a],timesF p.evs a b] (by simp[sumM];have:=timesF_len p.evs a b;omega) (by simp)
 simp only[List.flatten_cons,List.flatten_nil,List.append_nil,List.singleton_append]at hcc
 have hcl:(a::timesF p.evs a b).length≤2000:=by have:=timesF_len p.evs a b;simp;omega
 refine CallK.outs [17,18] hcc rfl (by simp[rowM,rowN]) (by simp[AV.flat,rowN]) ?_
 generalize hts:a::timesF p.evs a b=ts at*
 simp -implicitDefEqProofs
 have h0:ts[0]?.getD 0=a:=by rw[←hts];rfl
 have hpos:0<ts.length:=by rw[←hts];simp
 refine LoopK.nil (.cl 6 0 189 4) ?_
 simp -implicitDefEqProofs
 refine LoopK.os (fun k:Nat=>[(0,.yld 13),(4,.ptr 11 0),(20,.im (.sl 1 (rowN ts))),(21,.int .i64 ts.length),(22,.int .i64 k)])
  (fun k=>[.box 3 [.int .i64 router],.box 4 [.bool six],.box 25 [.int .u64 x.hi,.int .u64 x.lo],.box 53 [.int .i64 a,.int .i64 b],
   .box 284 [.fn g [.ptr 0 0,.ptr 1 0,.ptr 2 0]],lineHop 6,rowHop (accG (fun t=>F (thenF p t)) ts (k-1)),.box 186 [.ptr 5 0],
   .box 2 [.int .i64 (ts.getD (k-1) 0)],.box 81 (wasHop (fun t=>F (thenF p t)) ts k),.box 4 [.bool (decide (0<k))],bookI p,
   .sv a0 [(4,.ptr 3 0),(5,.ptr 4 0),(7,.ptr 7 0),(8,.ptr 8 0),(9,.ptr 9 0),(10,.ptr 10 0)],.lp b0 rr .ready none])
  (fun k=>k≤ts.length) (fun k=>ts.length-k) 0 [0,1,2,4,5,6,19,7,9,10,11,16,14,15] (Nat.zero_le _) (by simp[renM,accG,wasHop,h0];rintro _ _ (⟨rfl,rfl⟩|⟨rfl,rfl⟩|⟨rfl,rfl⟩|⟨rfl,rfl⟩|⟨rfl,rfl⟩|⟨rfl,rfl⟩)<;>rfl) ?_
 intro k hk
 by_cases hlt:k<ts.length
 ·have e1:IntKind.i64.wrap (k+1)=(k+1:Nat):=wrap64 (by omega) (by omega)
  have hgt:=rowN_get hlt
  have htk:=hasT ts[k] (List.getElem_mem hlt)
  have hat:=atK_spec p ts[k] hew (by omega) htk
  rw[thenW_ok hok]at hat
  have hgf:=hg (thenF p ts[k]) (allN_wf hw.1 fun e he=>(hw.2 e (List.mem_filter.1 he).1).2) (thenF_all hok ts[k]).2.2
  have hgd:ts[k]?.getD 0=ts[k]:=by rw[List.getElem?_eq_getElem hlt];rfl
  have hlen:=accG_len (fun t=>F (thenF p t)) ts (k-1)
  obtain⟨t,ht⟩:∃t,ts[k]=t:=⟨_,rfl⟩
  rw[ht]at hgt hat hgf hgd
  simp -implicitDefEqProofs [hlt,hgt,ht]
  refine CallO.mk [] [11] hat (by simp) rfl (by simp) (by simp) (by simp) ?_
  simp -implicitDefEqProofs
  refine⟨12,_,rfl,rfl,rfl,fun aI=>?_⟩
  simp -implicitDefEqProofs [putL,asgK]
  refine⟨13,by simp,?_⟩
  simp -implicitDefEqProofs
  cases k with
  |zero=>
   simp -implicitDefEqProofs [wasHop,accG]
   refine CallO.mk [] [0,1,2] hgf (by simp) rfl (by simp) (by simp) (by simp) ?_
   simp -implicitDefEqProofs
   refine endRd_normal 16 13 (by simp;rfl) (by simp) ?_
   simp -implicitDefEqProofs
   refine Again.os 1 [0,1,2,3,4,5,6,7,8,9,10,11,12,13] hlt (by omega) ?_
   simp -implicitDefEqProofs [renM,accG,wasHop,hgd,show IntKind.i64.wrap 1=1 by decide]
   rintro _ _ (⟨rfl,rfl⟩|⟨rfl,rfl⟩|⟨rfl,rfl⟩|⟨rfl,rfl⟩|⟨rfl,rfl⟩|⟨rfl,rfl⟩)<;>rfl
  |succ j=>
   have hacc:accG (fun t=>F (thenF p t)) ts (j+1)=addPc (accG (fun t=>F (thenF p t)) ts j) (ts[j]?.getD 0) (t-1) (F (thenF p (ts[j]?.getD 0))):=by
    rw[accG,List.getD_eq_getElem?_getD,List.getD_eq_getElem?_getD,hgd]
   have htb:=hbd t (by rw[←ht];exact List.getElem_mem hlt)
   have e3:IntKind.i64.wrap (t-1)=t-1:=wrap64 (by omega) (by omega)
   have hws:wasHop (fun t=>F (thenF p t)) ts (j+1+1)=[.int .u8 (F (thenF p t)).kind,.int .i64 (F (thenF p t)).peer]:=by
    rw[wasHop,List.getD_eq_getElem?_getD,hgd]
   rw[Nat.add_sub_cancel]at hlen
   simp -implicitDefEqProofs [wasHop,e3]
   generalize ts[j]?.getD 0=s at*
   generalize F (thenF p s)=W at*
   generalize hH:F (thenF p t)=H at*
   generalize accG (fun t=>F (thenF p t)) ts j=L at*
   by_cases hL:∃L' y,L=L'++[y]∧y.v=W
   ·obtain⟨L',y,rfl,rfl⟩:=hL
    rw[addPc_ext]at hacc
    rw[List.length_append,List.length_singleton]at hlen
    refine CallO.mk [] [5,6] (addHop_ext L' y s (t-1) (by omega)) (by simp) rfl (by simp) (by simp) (by simp) ?_
    simp -implicitDefEqProofs
    refine CallO.mk [] [0,1,2] hgf (by simp) rfl (by simp) (by simp) (by simp) ?_
    simp -implicitDefEqProofs
    refine endRd_normal 16 13 (by simp;rfl) (by simp) ?_
    simp -implicitDefEqProofs
    refine Again.os (j+1+1) [0,1,2,3,4,5,6,7,8,9,10,11,12,13] hlt (by omega) ?_
    simp -implicitDefEqProofs at e1
    simp -implicitDefEqProofs [renM,e1,hacc,hws,hgd,hH]
    rintro _ _ (⟨rfl,rfl⟩|⟨rfl,rfl⟩|⟨rfl,rfl⟩|⟨rfl,rfl⟩|⟨rfl,rfl⟩|⟨rfl,rfl⟩)<;>rfl
   ·have hne:∀y,L.getLast? =some y→y.v≠W:=fun y hy h=>hL (by
     rcases List.eq_nil_or_concat L with rfl|⟨L',z,rfl⟩
     ·cases hy
     ·rw[List.concat_eq_append]at hy⊢
      simp at hy
      exact⟨L',z,rfl,by rw[hy];exact h⟩)
    rw[addPc_new _ _ _ _ hne]at hacc
    refine CallO.mk [] [5,6] (addHop_new L s (t-1) W (by omega) hne) (by simp) rfl (by simp) (by simp) (by simp) ?_
    simp -implicitDefEqProofs
    refine CallO.mk [] [0,1,2] hgf (by simp) rfl (by simp) (by simp) (by simp) ?_
    simp -implicitDefEqProofs
    refine endRd_normal 16 13 (by simp;rfl) (by simp) ?_
    simp -implicitDefEqProofs
    refine Again.os (j+1+1) [0,1,2,3,4,5,18,7,8,9,10,11,12,13] hlt (by omega) ?_
    simp -implicitDefEqProofs at e1
    simp -implicitDefEqProofs [renM,e1,hacc,hws,hgd,hH]
    rintro _ _ (⟨rfl,rfl⟩|⟨rfl,rfl⟩|⟨rfl,rfl⟩|⟨rfl,rfl⟩|⟨rfl,rfl⟩|⟨rfl,rfl⟩)<;>rfl
 ·have hkk:k=ts.length:=by omega
  subst hkk
  obtain⟨n,hn⟩:∃n,ts.length=n+1:=⟨ts.length-1,by omega⟩
  have hline:lineP p F a b=addPc (accG (fun t=>F (thenF p t)) ts n) (ts[n]?.getD 0) b (F (thenF p (ts[n]?.getD 0))):=by
   unfold lineP
   rw[hts,lineG_acc _ _ _ n hn,List.getD_eq_getElem?_getD]
  rw[hline,hn]
  have hlen:=accG_len (fun t=>F (thenF p t)) ts n
  simp -implicitDefEqProofs [wasHop]
  generalize ts[n]?.getD 0=s at*
  generalize F (thenF p s)=W at*
  generalize accG (fun t=>F (thenF p t)) ts n=L at*
  refine⟨12,_,13,.ready,none,rfl,rfl,.inl rfl,?_⟩
  simp -implicitDefEqProofs [pendK]
  by_cases hL:∃L' y,L=L'++[y]∧y.v=W
  ·obtain⟨L',y,rfl,rfl⟩:=hL
   rw[addPc_ext]
   rw[List.length_append,List.length_singleton]at hlen
   refine CallO.mk [] [5,6] (addHop_ext L' y s b (by omega)) (by simp) rfl (by simp) (by simp) (by simp) ?_
   simp -implicitDefEqProofs
   refine EndO.ret [] [0,1,2,5,6] (.ptr 5 0) (by simp) ?_
   simp -implicitDefEqProofs
  ·have hne:∀y,L.getLast? =some y→y.v≠W:=fun y hy h=>hL (by
    rcases List.eq_nil_or_concat L with rfl|⟨L',z,rfl⟩
    ·cases hy
    ·rw[List.concat_eq_append]at hy⊢
     simp at hy
     exact⟨L',z,rfl,by rw[hy];exact h⟩)
   rw[addPc_new _ _ _ _ hne]
   refine CallO.mk [] [5,6] (addHop_new L s b W (by omega) hne) (by simp) rfl (by simp) (by simp) (by simp) ?_
   simp -implicitDefEqProofs
   refine EndO.ret [] [0,1,2,5,14] (.ptr 5 0) (by simp) ?_
   simp -implicitDefEqProofs
end Go.Am
namespace Go.Am
open Go.Proofs
structure HeldR where
 is:Bool
 r:Route
deriving instance DecidableEq for Addr4
deriving instance DecidableEq for Pfx
deriving instance DecidableEq for Go.Am.Act
deriving instance DecidableEq for Route
deriving instance DecidableEq for HeldR
@[simp] def HeldR.av (v:HeldR):AV:=.agg [.bool v.is,.bool v.r.pfx.six,.int .u64 v.r.pfx.addr.hi,.int .u64 v.r.pfx.addr.lo,.int .i64 v.r.pfx.len,.int .u8 v.r.act.kind,.int .i64 v.r.act.iface]
@[simp] def Pc.ivHd (x:Pc HeldR):List IV:=[.sc (.int .i64 x.a),.sc (.int .i64 x.b),.sc (.bool x.v.is),.sc (.bool x.v.r.pfx.six),.sc (.int .u64 x.v.r.pfx.addr.hi),.sc (.int .u64 x.v.r.pfx.addr.lo),.sc (.int .i64 x.v.r.pfx.len),.sc (.int .u8 x.v.r.act.kind),.sc (.int .i64 x.v.r.act.iface)]
@[simp] def lineHd (n:Nat):AObj:=.box 177 [.row n]
@[simp] def rowHd (l:List (Pc HeldR)):AObj:=.row 179 9 (l.map Pc.ivHd)
theorem Hd_ext {v w:HeldR}:v.is=w.is→v.r.pfx.six=w.r.pfx.six→v.r.pfx.addr.hi=w.r.pfx.addr.hi→v.r.pfx.addr.lo=w.r.pfx.addr.lo→v.r.pfx.len=w.r.pfx.len→v.r.act.kind=w.r.act.kind→v.r.act.iface=w.r.act.iface→v=w:=by
 obtain⟨a,⟨⟨b,⟨c,d⟩,e⟩,⟨f,g⟩⟩⟩:=v
 obtain⟨a',⟨⟨b',⟨c',d'⟩,e'⟩,⟨f',g'⟩⟩⟩:=w
 simp only
 intros
 subst_vars
 rfl
set_option maxRecDepth 8000 in
set_option maxHeartbeats 2000000 in
theorem addHd_ext (L:List (Pc HeldR)) (x:Pc HeldR) (a b:Int) (hl:L.length≤100000):
  FSpec Tryz.prog 147 [.ptr 0 0,.agg [.int .i64 a,.int .i64 b],(HeldR.av x.v)] [lineHd 1,rowHd (L++[x])] (.tup [])
   [lineHd 1,rowHd (L++[(⟨x.a,b,x.v⟩:Pc HeldR)])]:=by
 have e1:IntKind.i64.wrap (L.length:Int)=(L.length:Int):=wrap64 (by omega) (by omega)
 have hg:=get_end Pc.ivHd L (Pc.ivHd x)
 have hm:=fun g=>mod_end g (Pc.ivHd x) (L.map Pc.ivHd)
 simp at hg hm
 refine FSpec.of_o (q:=[(2,.n 13),(3,.n 8),(4,.m [.p [1,2] [],.p [1] [],.p [1] [],.p [1] [],.p [1] [],.p [] [],.p [] [],.p [] [],.e [45],.e [42,46]])]) Tryz.func147 (by kernel_rfl) rfl Tryz.ntmps147 Tryz.results147 hP (by kernel_rfl) (by simp) (by first|rfl|simp) ?_
 simp -implicitDefEqProofs [e1,hg,hm]
 refine⟨by omega,?_⟩
 refine EndO.ret [] [0,1] (.tup []) (by simp) ?_
 simp -implicitDefEqProofs
set_option maxRecDepth 8000 in
set_option maxHeartbeats 2000000 in
theorem addHd_new (L:List (Pc HeldR)) (a b:Int) (v:HeldR) (hl:L.length≤100000) (hne:∀x,L.getLast? =some x→x.v≠v):
  FSpec Tryz.prog 147 [.ptr 0 0,.agg [.int .i64 a,.int .i64 b],(HeldR.av v)] [lineHd 1,rowHd L] (.tup [])
   [lineHd 2,.gone,rowHd (L++[(⟨a,b,v⟩:Pc HeldR)])]:=by
 rcases List.eq_nil_or_concat L with rfl|⟨L',x,rfl⟩
 ·refine FSpec.of_o (q:=[(2,.n 13),(3,.n 8),(4,.m [.p [1,2] [],.p [1] [],.p [1] [],.p [1] [],.p [1] [],.p [] [],.p [] [],.p [] [],.e [45],.e [42,46]])]) Tryz.func147 (by kernel_rfl) rfl Tryz.ntmps147 Tryz.results147 hP (by kernel_rfl) (by simp) (by first|rfl|simp) ?_
  simp -implicitDefEqProofs
  refine⟨by unfold maxLen;omega,?_⟩
  refine EndO.normal [] [0,1,5] (.tup []) (by simp) ?_
  simp -implicitDefEqProofs
 ·rw[List.concat_eq_append]at hl hne⊢
  have hxv:=hne x (by simp)
  rw[List.length_append,List.length_singleton]at hl
  have e1:IntKind.i64.wrap (L'.length:Int)=(L'.length:Int):=wrap64 (by omega) (by omega)
  have hg:=get_end Pc.ivHd L' (Pc.ivHd x)
  simp at hg
  refine FSpec.of_o (q:=[(2,.n 13),(3,.n 8),(4,.m [.p [1,2] [],.p [1] [],.p [1] [],.p [1] [],.p [1] [],.p [] [],.p [] [],.p [] [],.e [45],.e [42,46]])]) Tryz.func147 (by kernel_rfl) rfl Tryz.ntmps147 Tryz.results147 hP (by kernel_rfl) (by simp) (by first|rfl|simp) ?_
  simp -implicitDefEqProofs [e1,hg]
  have hkp:∀(_:x.v.is=v.is) (_:x.v.r.pfx.six=v.r.pfx.six) (_:x.v.r.pfx.addr.hi=v.r.pfx.addr.hi) (_:x.v.r.pfx.addr.lo=v.r.pfx.addr.lo) (_:x.v.r.pfx.len=v.r.pfx.len) (_:x.v.r.act.kind=v.r.act.kind) (_:x.v.r.act.iface=v.r.act.iface),False:=fun h0 h1 h2 h3 h4 h5 h6=>hxv (Hd_ext h0 h1 h2 h3 h4 h5 h6)
  refine⟨by omega,fun h0 h1 h2 h3 h4 h5 h6=>(hkp h0 h1 h2 h3 h4 h5 h6).elim,fun _=>⟨⟨by omega,by unfold maxLen;omega⟩,?_⟩⟩
  refine EndO.normal [] [0,1,5] (.tup []) (by simp) ?_
  simp -implicitDefEqProofs
end Go.Am
namespace Go.Am
open Go.Proofs
def wasHd (f:Int→HeldR) (ts:List Int):Nat→List AV
 |0=>[.bool false,.bool false,.int .u64 0,.int .u64 0,.int .i64 0,.int .u8 0,.int .i64 0]
 |k+1=>[.bool (f (ts.getD k 0)).is,.bool (f (ts.getD k 0)).r.pfx.six,.int .u64 (f (ts.getD k 0)).r.pfx.addr.hi,.int .u64 (f (ts.getD k 0)).r.pfx.addr.lo,.int .i64 (f (ts.getD k 0)).r.pfx.len,.int .u8 (f (ts.getD k 0)).r.act.kind,.int .i64 (f (ts.getD k 0)).r.act.iface]
set_option maxRecDepth 8000 in
set_option maxHeartbeats 4000000 in
theorem lineHd_spec (p:Past) (a b:Int) (g:FuncId) (F:Net→HeldR) (router:Int) (six:Bool) (x:Addr4) (hok:okP p=true) (hew:∀e∈p.evs,0≤e.seq)
  (hw:p.wf) (hg:∀n:Net,n.wf→netOk n=true→FSpec Tryz.prog g [n.av,.ptr 0 0,.ptr 1 0,.ptr 2 0] [.box 3 [.int .i64 router],.box 4 [.bool six],.box 25 [.int .u64 x.hi,.int .u64 x.lo]] (F n).av [.box 3 [.int .i64 router],.box 4 [.bool six],.box 25 [.int .u64 x.hi,.int .u64 x.lo]]) (hbd:∀t∈a::timesF p.evs a b,0≤t∧t≤1099511627776) (hasT:∀t∈a::timesF p.evs a b,askT p t=0):
  FSpec Tryz.prog 73 [p.av,.agg [.int .i64 a,.int .i64 b],.fn g [.ptr 0 0,.ptr 1 0,.ptr 2 0]] [.box 3 [.int .i64 router],.box 4 [.bool six],.box 25 [.int .u64 x.hi,.int .u64 x.lo]] (.ptr 3 0) [.box 3 [.int .i64 router],.box 4 [.bool six],.box 25 [.int .u64 x.hi,.int .u64 x.lo],lineHd 4,rowHd (lineP p F a b)]:=by
 have hl:=okP_len hok
 have htm:=timesK_spec p a b (by omega)
 refine FSpec.of_o (q:=[(2,.m [.p [] [],.p [] [],.a 0 1,.p [1] [],.p [1] [0],.a 1 0,.a 2 0,.a 3 0,.e [8,16]])]) Tryz.func73 (by kernel_rfl) rfl Tryz.ntmps73 Tryz.results73 hP (by kernel_rfl) (by simp) (by first|rfl|simp) ?_
 simp -implicitDefEqProofs
 refine CallK.outs [] (eachO_spec p a b) rfl (by simp) (by simp[AV.flat]) ?_
 simp -implicitDefEqProofs [rangeK]
 intro a0 b0 rr
 refine⟨_,_,_,[(1,.m [.p [1] [],.p [1] [],.a 0 1,.p [] [],.p [] [],.e [16,17],.e [15,18],.e [19],.p [] [],.p [0,1,2] []])],Tryz.func204,(by kernel_rfl),rfl,Tryz.ntmps204,Tryz.results204,(by kernel_rfl),(by simp),?_⟩
 simp -implicitDefEqProofs
 refine CallO.mk [] [16] htm (by simp) rfl (by simp) (by simp) (by simp) ?_
 simp -implicitDefEqProofs
 have hcc:=concatN_spec [[a],timesF p.evs a b] (by simp[sumM];have:=timesF_len p.evs a b;omega) (by simp)
 simp only[List.flatten_cons,List.flatten_nil,List.append_nil,List.singleton_append]at hcc
 have hcl:(a::timesF p.evs a b).length≤2000:=by have:=timesF_len p.evs a b;simp;omega
 refine CallK.outs [17,18] hcc rfl (by simp[rowM,rowN]) (by simp[AV.flat,rowN]) ?_
 generalize hts:a::timesF p.evs a b=ts at*
 simp -implicitDefEqProofs
 have h0:ts[0]?.getD 0=a:=by rw[←hts];rfl
 have hpos:0<ts.length:=by rw[←hts];simp
 refine LoopK.nil (.cl 6 0 179 9) ?_
 simp -implicitDefEqProofs
 refine LoopK.os (fun k:Nat=>[(0,.yld 13),(4,.ptr 11 0),(20,.im (.sl 1 (rowN ts))),(21,.int .i64 ts.length),(22,.int .i64 k)])
  (fun k=>[.box 3 [.int .i64 router],.box 4 [.bool six],.box 25 [.int .u64 x.hi,.int .u64 x.lo],.box 53 [.int .i64 a,.int .i64 b],
   .box 174 [.fn g [.ptr 0 0,.ptr 1 0,.ptr 2 0]],lineHd 6,rowHd (accG (fun t=>F (thenF p t)) ts (k-1)),.box 164 [.ptr 5 0],
   .box 2 [.int .i64 (ts.getD (k-1) 0)],.box 167 (wasHd (fun t=>F (thenF p t)) ts k),.box 4 [.bool (decide (0<k))],bookI p,
   .sv a0 [(4,.ptr 3 0),(5,.ptr 4 0),(7,.ptr 7 0),(8,.ptr 8 0),(9,.ptr 9 0),(10,.ptr 10 0)],.lp b0 rr .ready none])
  (fun k=>k≤ts.length) (fun k=>ts.length-k) 0 [0,1,2,4,5,6,19,7,9,10,11,16,14,15] (Nat.zero_le _) (by simp[renM,accG,wasHd,h0];rintro _ _ (⟨rfl,rfl⟩|⟨rfl,rfl⟩|⟨rfl,rfl⟩|⟨rfl,rfl⟩|⟨rfl,rfl⟩|⟨rfl,rfl⟩)<;>rfl) ?_
 intro k hk
 by_cases hlt:k<ts.length
 ·have e1:IntKind.i64.wrap (k+1)=(k+1:Nat):=wrap64 (by omega) (by omega)
  have hgt:=rowN_get hlt
  have htk:=hasT ts[k] (List.getElem_mem hlt)
  have hat:=atK_spec p ts[k] hew (by omega) htk
  rw[thenW_ok hok]at hat
  have hgf:=hg (thenF p ts[k]) (allN_wf hw.1 fun e he=>(hw.2 e (List.mem_filter.1 he).1).2) (thenF_all hok ts[k]).2.2
  have hgd:ts[k]?.getD 0=ts[k]:=by rw[List.getElem?_eq_getElem hlt];rfl
  have hlen:=accG_len (fun t=>F (thenF p t)) ts (k-1)
  obtain⟨t,ht⟩:∃t,ts[k]=t:=⟨_,rfl⟩
  rw[ht]at hgt hat hgf hgd
  simp -implicitDefEqProofs [hlt,hgt,ht]
  refine CallO.mk [] [11] hat (by simp) rfl (by simp) (by simp) (by simp) ?_
  simp -implicitDefEqProofs
  refine⟨12,_,rfl,rfl,rfl,fun aI=>?_⟩
  simp -implicitDefEqProofs [putL,asgK]
  refine⟨13,by simp,?_⟩
  simp -implicitDefEqProofs
  cases k with
  |zero=>
   simp -implicitDefEqProofs [wasHd,accG]
   refine CallO.mk [] [0,1,2] hgf (by simp) rfl (by simp) (by simp) (by simp) ?_
   simp -implicitDefEqProofs
   refine endRd_normal 16 13 (by simp;rfl) (by simp) ?_
   simp -implicitDefEqProofs
   refine Again.os 1 [0,1,2,3,4,5,6,7,8,9,10,11,12,13] hlt (by omega) ?_
   simp -implicitDefEqProofs [renM,accG,wasHd,hgd,show IntKind.i64.wrap 1=1 by decide]
   rintro _ _ (⟨rfl,rfl⟩|⟨rfl,rfl⟩|⟨rfl,rfl⟩|⟨rfl,rfl⟩|⟨rfl,rfl⟩|⟨rfl,rfl⟩)<;>rfl
  |succ j=>
   have hacc:accG (fun t=>F (thenF p t)) ts (j+1)=addPc (accG (fun t=>F (thenF p t)) ts j) (ts[j]?.getD 0) (t-1) (F (thenF p (ts[j]?.getD 0))):=by
    rw[accG,List.getD_eq_getElem?_getD,List.getD_eq_getElem?_getD,hgd]
   have htb:=hbd t (by rw[←ht];exact List.getElem_mem hlt)
   have e3:IntKind.i64.wrap (t-1)=t-1:=wrap64 (by omega) (by omega)
   have hws:wasHd (fun t=>F (thenF p t)) ts (j+1+1)=[.bool (F (thenF p t)).is,.bool (F (thenF p t)).r.pfx.six,.int .u64 (F (thenF p t)).r.pfx.addr.hi,.int .u64 (F (thenF p t)).r.pfx.addr.lo,.int .i64 (F (thenF p t)).r.pfx.len,.int .u8 (F (thenF p t)).r.act.kind,.int .i64 (F (thenF p t)).r.act.iface]:=by
    rw[wasHd,List.getD_eq_getElem?_getD,hgd]
   rw[Nat.add_sub_cancel]at hlen
   simp -implicitDefEqProofs [wasHd,e3]
   generalize ts[j]?.getD 0=s at*
   generalize F (thenF p s)=W at*
   generalize hH:F (thenF p t)=H at*
   generalize accG (fun t=>F (thenF p t)) ts j=L at*
   by_cases hL:∃L' y,L=L'++[y]∧y.v=W
   ·obtain⟨L',y,rfl,rfl⟩:=hL
    rw[addPc_ext]at hacc
    rw[List.length_append,List.length_singleton]at hlen
    refine CallO.mk [] [5,6] (addHd_ext L' y s (t-1) (by omega)) (by simp) rfl (by simp) (by simp) (by simp) ?_
    simp -implicitDefEqProofs
    refine CallO.mk [] [0,1,2] hgf (by simp) rfl (by simp) (by simp) (by simp) ?_
    simp -implicitDefEqProofs
    refine endRd_normal 16 13 (by simp;rfl) (by simp) ?_
    simp -implicitDefEqProofs
    refine Again.os (j+1+1) [0,1,2,3,4,5,6,7,8,9,10,11,12,13] hlt (by omega) ?_
    simp -implicitDefEqProofs at e1
    simp -implicitDefEqProofs [renM,e1,hacc,hws,hgd,hH]
    rintro _ _ (⟨rfl,rfl⟩|⟨rfl,rfl⟩|⟨rfl,rfl⟩|⟨rfl,rfl⟩|⟨rfl,rfl⟩|⟨rfl,rfl⟩)<;>rfl
   ·have hne:∀y,L.getLast? =some y→y.v≠W:=fun y hy h=>hL (by
     rcases List.eq_nil_or_concat L with rfl|⟨L',z,rfl⟩
     ·cases hy
     ·rw[List.concat_eq_append]at hy⊢
      simp at hy
      exact⟨L',z,rfl,by rw[hy];exact h⟩)
    rw[addPc_new _ _ _ _ hne]at hacc
    refine CallO.mk [] [5,6] (addHd_new L s (t-1) W (by omega) hne) (by simp) rfl (by simp) (by simp) (by simp) ?_
    simp -implicitDefEqProofs
    refine CallO.mk [] [0,1,2] hgf (by simp) rfl (by simp) (by simp) (by simp) ?_
    simp -implicitDefEqProofs
    refine endRd_normal 16 13 (by simp;rfl) (by simp) ?_
    simp -implicitDefEqProofs
    refine Again.os (j+1+1) [0,1,2,3,4,5,18,7,8,9,10,11,12,13] hlt (by omega) ?_
    simp -implicitDefEqProofs at e1
    simp -implicitDefEqProofs [renM,e1,hacc,hws,hgd,hH]
    rintro _ _ (⟨rfl,rfl⟩|⟨rfl,rfl⟩|⟨rfl,rfl⟩|⟨rfl,rfl⟩|⟨rfl,rfl⟩|⟨rfl,rfl⟩)<;>rfl
 ·have hkk:k=ts.length:=by omega
  subst hkk
  obtain⟨n,hn⟩:∃n,ts.length=n+1:=⟨ts.length-1,by omega⟩
  have hline:lineP p F a b=addPc (accG (fun t=>F (thenF p t)) ts n) (ts[n]?.getD 0) b (F (thenF p (ts[n]?.getD 0))):=by
   unfold lineP
   rw[hts,lineG_acc _ _ _ n hn,List.getD_eq_getElem?_getD]
  rw[hline,hn]
  have hlen:=accG_len (fun t=>F (thenF p t)) ts n
  simp -implicitDefEqProofs [wasHd]
  generalize ts[n]?.getD 0=s at*
  generalize F (thenF p s)=W at*
  generalize accG (fun t=>F (thenF p t)) ts n=L at*
  refine⟨12,_,13,.ready,none,rfl,rfl,.inl rfl,?_⟩
  simp -implicitDefEqProofs [pendK]
  by_cases hL:∃L' y,L=L'++[y]∧y.v=W
  ·obtain⟨L',y,rfl,rfl⟩:=hL
   rw[addPc_ext]
   rw[List.length_append,List.length_singleton]at hlen
   refine CallO.mk [] [5,6] (addHd_ext L' y s b (by omega)) (by simp) rfl (by simp) (by simp) (by simp) ?_
   simp -implicitDefEqProofs
   refine EndO.ret [] [0,1,2,5,6] (.ptr 5 0) (by simp) ?_
   simp -implicitDefEqProofs
  ·have hne:∀y,L.getLast? =some y→y.v≠W:=fun y hy h=>hL (by
    rcases List.eq_nil_or_concat L with rfl|⟨L',z,rfl⟩
    ·cases hy
    ·rw[List.concat_eq_append]at hy⊢
     simp at hy
     exact⟨L',z,rfl,by rw[hy];exact h⟩)
   rw[addPc_new _ _ _ _ hne]
   refine CallO.mk [] [5,6] (addHd_new L s b W (by omega) hne) (by simp) rfl (by simp) (by simp) (by simp) ?_
   simp -implicitDefEqProofs
   refine EndO.ret [] [0,1,2,5,14] (.ptr 5 0) (by simp) ?_
   simp -implicitDefEqProofs
end Go.Am
namespace Go.Am
open Go.Proofs
def zeroR:Route:=⟨⟨false,⟨0,0⟩,0⟩,⟨0,0⟩⟩
def heldB (o:Option Route):HeldR:=match o with
 |none=>⟨false,zeroR⟩
 |some q=>⟨true,q⟩
def heldF (n:Net) (r:Int) (six:Bool) (x:Addr4):HeldR:=match routerF n.routers r with
 |none=>heldB none
 |some y=>heldB (bestF six x y.routes none)
theorem heldB_av (o:Option Route):(AV.tup [.agg (rcO o),.bool o.isSome])=.tup [(heldB o).r.av,.bool (heldB o).is]:=by cases o<;>rfl
set_option maxRecDepth 8000 in
set_option maxHeartbeats 2000000 in
theorem routeD_spec (p:Past) (r:Int) (six:Bool) (x:Addr4) (t:Int) (hw:p.wf) (hx:x.wf) (hl:p.evs.length≤100000000) (hrl:(thenF p t).routers.length≤100000000):
  FSpec Tryz.prog 80 [p.av,.int .i64 r,.bool six,x.av,.int .i64 t] [] (.tup [(heldF (thenF p t) r six x).r.av,.bool (heldF (thenF p t) r six x).is]) []:=by
 have g1:=thenr_spec p t hw.1 (fun e he=>(hw.2 e he).2) hl
 have hnw:(thenF p t).wf:=allN_wf hw.1 fun e he=>(hw.2 e (List.mem_filter.1 he).1).2
 generalize thenF p t=n at*
 refine FSpec.of_z (q:=[]) Tryz.func80 (by kernel_rfl) rfl Tryz.ntmps80 Tryz.results80 hP (by kernel_rfl) (by simp) (by first|rfl|simp) ?_
 simp -implicitDefEqProofs
 first|refine CallK.same (g1) rfl rfl ?_|refine CallQ.same (g1) rfl rfl ?_|refine CallQG.same _ (g1) rfl ?_|refine CallG.same _ (g1) rfl ?_|refine CallK.pv (g1) rfl rfl ?_
 simp -implicitDefEqProofs
 unfold heldF
 refine LoopK.os (fun k:Nat=>[(1,.int .i64 r),(2,.bool six),(8,.ptr 0 0),(10,.ptr 1 0),(17,.im (.sl 4 (n.routers.map Router.iv))),(18,.int .i64 n.routers.length),(19,.int .i64 k)])
  (fun _=>[.box 25 [.int .u64 x.hi,.int .u64 x.lo],.box 76 (zeroR.iv.map .im)])
  (fun k=>k≤n.routers.length∧(n.routers.drop k).find? (fun y=>decide (y.id=r))=n.routers.find? (fun y=>decide (y.id=r))) (fun k=>n.routers.length-k) 0 [1,2] ⟨Nat.zero_le _,by simp⟩ (by simp[zeroR]) ?_
 rintro k ⟨hk,hR⟩
 by_cases hlt:k<n.routers.length
 ·have e1:IntKind.i64.wrap (k+1)=(k+1:Nat):=wrap64 (by omega) (by omega)
  have hwy:=hnw n.routers[k] (List.getElem_mem hlt)
  rw[List.drop_eq_getElem_cons hlt,List.find?_cons]at hR
  simp -implicitDefEqProofs [hlt,e1]
  generalize n.routers[k]=y at*
  refine⟨fun hy=>?_,fun hy=>?_⟩
  ·have:routerF n.routers r=some y:=by
    unfold routerF
    rw[←hR];simp[hy]
   simp only[this]
   have hb:=best_spec y.routes six x hwy hx
   rw[heldB_av]at hb
   refine CallK.pv hb rfl (by simp) ?_
   simp -implicitDefEqProofs
   refine EndZ.ret [] (.tup [(heldB (bestF six x y.routes none)).r.av,.bool (heldB (bestF six x y.routes none)).is]) (by simp) (by simp)
  ·refine Again.os (k+1) [0,1] ⟨hlt,?_⟩ (by omega) (by simp[e1])
   rw[←hR];simp[hy]
 ·have:k=n.routers.length:=by omega
  subst this
  simp at hR
  have:routerF n.routers r=none:=by
   unfold routerF
   rw[←hR]
  simp only[this]
  simp -implicitDefEqProofs
  refine EndZ.ret [] (.tup [.agg [.bool false,.int .u64 0,.int .u64 0,.int .i64 0,.int .u8 0,.int .i64 0],.bool false]) (by simp) (by simp[heldB,zeroR])
set_option maxRecDepth 8000 in
set_option maxHeartbeats 4000000 in
theorem routesD_spec (p:Past) (r:Int) (six:Bool) (x:Addr4) (a b:Int) (hw:p.wf) (hx:x.wf):
  FSpec Tryz.prog 22 [p.av,.int .i64 r,.bool six,x.av,.agg [.int .i64 a,.int .i64 b]] []
   (.tup [.im (.sl 9 ((if askV p r six x a b=0 then lineP p (fun n=>heldF n r six x) a b else[]).map Pc.ivHd)),.int .i64 (askV p r six x a b)]) []:=by
 have h1:=askedVr_spec p r six x a b hw hx
 refine FSpec.of_z (q:=[(12,.n 20)]) Tryz.func22 (by kernel_rfl) rfl Tryz.ntmps22 Tryz.results22 hP (by kernel_rfl) (by simp) (by first|rfl|simp) ?_
 simp -implicitDefEqProofs
 first|refine CallK.same (h1) rfl rfl ?_|refine CallQ.same (h1) rfl rfl ?_|refine CallQG.same _ (h1) rfl ?_|refine CallG.same _ (h1) rfl ?_|refine CallK.pv (h1) rfl rfl ?_
 simp -implicitDefEqProofs
 refine⟨fun h=>?_,fun h=>?_⟩
 ·refine EndZ.ret [] (.tup [.im (.sc (.slice none 0 0)),.int .i64 (askV p r six x a b)]) (by simp) (by simp[h])
 obtain⟨hok,hr,ho,h3,h4,h5⟩:=askV_zero h
 have htm:=timesD_spec p a b hw (ask_timesW h) hok
 have hbd:∀t∈a::timesF p.evs a b,0≤t∧t≤1099511627776:=fun t ht=>timesF_bd ho ht
 have hl:=okP_len hok
 have hl2:=timesF_len p.evs a b
 rw[if_pos h,←accE_p,h]
 have hlen:(a::timesF p.evs a b).length≤2000:=by simp;omega
 generalize a::timesF p.evs a b=ts at*
 first|refine CallK.same (htm) rfl rfl ?_|refine CallQ.same (htm) rfl rfl ?_|refine CallQG.same _ (htm) rfl ?_|refine CallG.same _ (htm) rfl ?_|refine CallK.pv (htm) rfl rfl ?_
 simp -implicitDefEqProofs
 refine LoopK.nil (.sl 13 78 9) ?_
 simp -implicitDefEqProofs
 refine LoopK.os (fun k:Nat=>[(1,.int .i64 r),(2,.bool six),(5,.ptr 0 0),(8,.ptr 1 0),(9,.ptr 2 0),(13,.row 3),(14,.im (.sl 1 (rowN ts))),(33,.im (.sl 1 (rowN ts))),(34,.int .i64 ts.length),(35,.int .i64 k)])
  (fun k=>[pastO p,.box 25 [.int .u64 x.hi,.int .u64 x.lo],.box 53 [.int .i64 a,.int .i64 b],.row 78 9 ((accE (fun t=>heldF (thenF p t) r six x) b ts k).map Pc.ivHd)])
  (fun k=>k≤ts.length) (fun k=>ts.length-k) 0 [0,1,2,3] (Nat.zero_le _) (by simp[accE]) ?_
 intro k hk
 by_cases hlt:k<ts.length
 ·have e1:IntKind.i64.wrap (k+1)=(k+1:Nat):=wrap64 (by omega) (by omega)
  have hg:=rowN_get hlt
  have hacc:accE (fun t=>heldF (thenF p t) r six x) b ts (k+1)=addPc (accE (fun t=>heldF (thenF p t) r six x) b ts k) ts[k] (endT b ts k) (heldF (thenF p ts[k]) r six x):=by
   rw[accE,List.getD_eq_getElem?_getD,List.getElem?_eq_getElem hlt];rfl
  have hal:=accE_len (fun t=>heldF (thenF p t) r six x) b ts k
  have g1:=routeD_spec p r six x ts[k] hw hx (by omega) (by have:=netOk_len (thenF_all hok ts[k]).2.2;omega)
  have g3:=end_spec ts k a b hlt (by omega) hbd
  generalize accE (fun t=>heldF (thenF p t) r six x) b ts k=L at*
  generalize heldF (thenF p ts[k]) r six x=H at*
  generalize endT b ts k=E at*
  obtain⟨t,ht⟩:∃t,ts[k]=t:=⟨_,rfl⟩
  rw[ht]at hg hacc g1
  simp -implicitDefEqProofs [hlt,hg,ht]
  first|refine CallK.same (g1) rfl rfl ?_|refine CallQ.same (g1) rfl rfl ?_|refine CallQG.same _ (g1) rfl ?_|refine CallG.same _ (g1) rfl ?_|refine CallK.pv (g1) rfl rfl ?_
  simp -implicitDefEqProofs
  first|refine CallK.same (g3) rfl rfl ?_|refine CallQ.same (g3) rfl rfl ?_|refine CallQG.same _ (g3) rfl ?_|refine CallG.same _ (g3) rfl ?_|refine CallK.pv (g3) rfl rfl ?_
  rcases List.eq_nil_or_concat L with rfl|⟨L',y,rfl⟩
  ·simp -implicitDefEqProofs
   refine⟨by unfold maxLen;omega,?_⟩
   refine Again.os (k+1) [0,1,2,6] hlt (by omega) ?_
   simp -implicitDefEqProofs [e1,hacc,addPc]
  ·rw[List.concat_eq_append]at hacc hal⊢
   rw[List.length_append,List.length_singleton]at hal
   have e2:IntKind.i64.wrap (L'.length:Int)=(L'.length:Int):=wrap64 (by omega) (by omega)
   have hg2:=get_end Pc.ivHd L' (Pc.ivHd y)
   have hm:=fun g=>mod_end g (Pc.ivHd y) (L'.map Pc.ivHd)
   simp at hg2 hm
   by_cases hi:y.v.is=H.is
   ·simp only[hi]at hm
    simp -implicitDefEqProofs [e2,hm,hi]
    refine⟨by omega,fun h1 h2 h3 h4 h5 h6=>⟨by omega,?_⟩,fun hne=>⟨⟨by omega,by unfold maxLen;omega⟩,?_⟩⟩
    ·have hv:y.v=H:=Hd_ext hi h1 h2 h3 h4 h5 h6
     subst hv
     rw[addPc_ext]at hacc
     refine Again.os (k+1) [0,1,2,3] hlt (by omega) ?_
     simp -implicitDefEqProofs [e1,hacc]
    ·have hv:y.v≠H:=fun e=>by subst e;exact hne rfl rfl rfl rfl rfl rfl
     rw[addPc_new _ _ _ _ (fun z hz=>by simp at hz;rw[←hz];exact hv)]at hacc
     refine Again.os (k+1) [0,1,2,6] hlt (by omega) ?_
     simp -implicitDefEqProofs [e1,hacc,hi]
   ·have hv:y.v≠H:=fun e=>by subst e;exact hi rfl
    rw[addPc_new _ _ _ _ (fun z hz=>by simp at hz;rw[←hz];exact hv)]at hacc
    simp -implicitDefEqProofs [e2,hm,hi]
    refine⟨by omega,⟨by omega,by unfold maxLen;omega⟩,?_⟩
    refine Again.os (k+1) [0,1,2,6] hlt (by omega) ?_
    simp -implicitDefEqProofs [e1,hacc]
 ·have hkk:k=ts.length:=by omega
  subst hkk
  simp -implicitDefEqProofs
  refine EndZ.ret [3] (.tup [.row 3,.int .i64 0]) (by simp) (by simp)
end Go.Am
namespace Go.Am
open Go.Proofs
def routerI:List Router→Int→Int→Int
 |[],_,_=> -1
 |s::l,r,k=>if s.id=r then k else routerI l r (k+1)
theorem routerI_F:∀(l:List Router) (r k:Int),0≤k→(routerF l r=none∧routerI l r k= -1)∨∃(i:Nat) (s:Router),l[i]? =some s∧routerF l r=some s∧routerI l r k=k+i
 |[],r,k,_=>.inl ⟨rfl,rfl⟩
 |x::l,r,k,hk=>by
  unfold routerF
  rw[routerI,List.find?_cons]
  by_cases h:x.id=r
  ·rw[if_pos h]
   exact .inr ⟨0,x,rfl,by simp[h],by simp⟩
  ·rw[if_neg h]
   simp only[h,decide_false]
   rcases routerI_F l r (k+1) (by omega)with h|⟨i,s,h1,h2,h3⟩
   ·exact .inl h
   ·exact .inr ⟨i+1,s,by simpa using h1,h2,by rw[h3];omega⟩
theorem findV1_spec (s:Router) (r:Int):FSpec Tryz.prog 149 [s.av,.ptr 0 0] [.box 3 [.int .i64 r]] (.bool (s.id==r)) [.box 3 [.int .i64 r]]:=by
 refine FSpec.of_o (q:=[]) Tryz.func149 (by kernel_rfl) rfl Tryz.ntmps149 Tryz.results149 hP (by kernel_rfl) (by simp) (by first|rfl|simp) ?_
 simp
 refine EndO.ret [] [0] _ rfl ?_
 simp
theorem indexV_spec (l:List Router) (r:Int) (hl:l.length≤9223372036854775807):
  FSpec Tryz.prog 148 [.im (.sl 4 (l.map Router.iv)),.fn 149 [.ptr 0 0]] [.box 3 [.int .i64 r]] (.int .i64 (routerI l r 0)) [.box 3 [.int .i64 r]]:=by
 refine FSpec.of_o (q:=[]) Tryz.func148 (by kernel_rfl) rfl Tryz.ntmps148 Tryz.results148 hP (by kernel_rfl) (by simp) (by first|rfl|simp) ?_
 simp
 refine LoopK.os (fun k:Nat=>[(0,.im (.sl 4 (l.map Router.iv))),(1,.fn 149 [.ptr 0 0]),(7,.int .i64 l.length),(8,.int .i64 k)])
  (fun _=>[.box 3 [.int .i64 r]])
  (fun k=>k≤l.length∧routerI (l.drop k) r k=routerI l r 0) (fun k=>l.length-k) 0 [0] ⟨Nat.zero_le _,by simp⟩ (by simp) ?_
 rintro k ⟨hk,hR⟩
 by_cases hlt:k<l.length
 ·have e1:IntKind.i64.wrap (k+1)=(k+1:Nat):=wrap64 (by omega) (by omega)
  rw[List.drop_eq_getElem_cons hlt,routerI]at hR
  simp -implicitDefEqProofs [hlt,e1]
  refine CallO.mk [] [0] (findV1_spec l[k] r) (by simp) rfl (by simp) (by simp) (by simp) ?_
  simp -implicitDefEqProofs
  refine⟨fun h=>?_,fun h=>?_⟩
  ·rw[if_pos h]at hR
   refine EndO.ret [] [0] _ rfl ?_
   simp[←hR]
  ·rw[if_neg h]at hR
   refine Again.os (k+1) [0] ⟨hlt,by simpa using hR⟩ (by omega) ?_
   simp[e1]
 ·have hkk:k=l.length:=by omega
  subst hkk
  rw[List.drop_length,routerI]at hR
  simp
  refine EndO.ret [] [0] _ rfl ?_
  simp[←hR]
def routerZ:Router:=⟨0,false,[],[]⟩
theorem findV_spec (n:Net) (r:Int) (hl:n.routers.length≤100000000):FSpec Tryz.prog 75 [n.av,.int .i64 r] [] (.tup [((routerF n.routers r).getD routerZ).av,.bool (routerF n.routers r).isSome]) []:=by
 refine FSpec.of_z (q:=[]) Tryz.func75 (by kernel_rfl) rfl Tryz.ntmps75 Tryz.results75 hP (by kernel_rfl) (by simp) (by first|rfl|simp) ?_
 simp
 refine CallO.mk [] [1] (indexV_spec n.routers r (by omega)) (by simp) rfl (by simp) (by simp) (by simp) ?_
 simp
 rcases routerI_F n.routers r 0 (Int.le_refl _)with⟨h1,h2⟩|⟨i,s,h1,h2,h3⟩
 ·simp[h2]
  refine EndZ.ret [] (.tup [.agg [.int .i64 0,.bool false,.im (.sc (.slice none 0 0)),.im (.sc (.slice none 0 0))],.bool false]) (by simp) ?_
  simp[h1,routerZ]
 ·have hlt:=(List.getElem?_eq_some_iff.1 h1).1
  have hg:=(List.getElem?_eq_some_iff.1 h1).2
  rw[Int.zero_add]at h3
  simp[h3,h1,hlt,hg]
  refine⟨fun h=>by omega,?_⟩
  refine EndZ.ret [] (.tup [s.av,.bool true]) (by simp) ?_
  simp[h2]
@[simp] def capV (r:Int) (six:Bool) (x:Addr4):List AObj:=[.box 3 [.int .i64 r],.box 4 [.bool six],.box 25 [.int .u64 x.hi,.int .u64 x.lo]]
set_option maxRecDepth 8000 in
theorem hops1_spec (n:Net) (r:Int) (six:Bool) (x:Addr4) (hw:n.wf) (hok:netOk n=true) (hx:x.wf) (hr:rightA six x=true):
  FSpec Tryz.prog 157 [n.av,.ptr 0 0,.ptr 1 0,.ptr 2 0] (capV r six x) (doesF n r six x).av (capV r six x):=by
 have hl:=netOk_len hok
 have h1:=findV_spec n r (by omega)
 obtain⟨hp,hq⟩:=netOk_routers hok
 refine FSpec.of_o (q:=[]) Tryz.func157 (by kernel_rfl) rfl Tryz.ntmps157 Tryz.results157 hP (by kernel_rfl) (by simp) (by first|rfl|simp) ?_
 simp -implicitDefEqProofs
 first|refine CallK.same (h1) rfl rfl ?_|refine CallQ.same (h1) rfl rfl ?_|refine CallQG.same _ (h1) rfl ?_|refine CallG.same _ (h1) rfl ?_|refine CallK.pv (h1) rfl rfl ?_
 simp -implicitDefEqProofs
 unfold doesF
 cases hb:routerF n.routers r with
 |none=>
  simp -implicitDefEqProofs [routerZ]
  refine EndO.ret [] [0,1,2] (.agg [.int .u8 0,.int .i64 0]) (by simp) ?_
  simp -implicitDefEqProofs
 |some y=>
  have hm:y∈n.routers:=List.mem_of_find?_eq_some hb
  simp -implicitDefEqProofs
  first|refine CallK.same (does_spec y six x (hw y hm) (hq y hm) hx hr) rfl rfl ?_|refine CallQ.same (does_spec y six x (hw y hm) (hq y hm) hx hr) rfl rfl ?_|refine CallQG.same _ (does_spec y six x (hw y hm) (hq y hm) hx hr) rfl ?_|refine CallG.same _ (does_spec y six x (hw y hm) (hq y hm) hx hr) rfl ?_|refine CallK.pv (does_spec y six x (hw y hm) (hq y hm) hx hr) rfl rfl ?_
  simp -implicitDefEqProofs
  refine EndO.ret [] [0,1,2] (.agg [.int .u8 (hopF y six x).kind,.int .i64 (hopF y six x).peer]) (by simp) ?_
  simp -implicitDefEqProofs
theorem askV_T {p:Past} {r:Int} {six:Bool} {x:Addr4} {a b:Int} (h:askV p r six x a b=0):∀t∈a::timesF p.evs a b,askT p t=0:=by
 obtain⟨hok,hr,ho,h3,h4,h5⟩:=askV_zero h
 intro t ht
 have h1:=timesF_bd ho ht
 have h2:a≤t:=by
  rcases List.mem_cons.1 ht with rfl|ht
  ·exact Int.le_refl _
  ·have:=timesF_in ht;omega
 unfold askT
 rw[if_neg (by omega),if_neg (by omega)]
set_option maxRecDepth 8000 in
theorem hopsV_spec (p:Past) (r:Int) (six:Bool) (x:Addr4) (a b:Int) (hw:p.wf) (hx:x.wf) (h:askV p r six x a b=0):
  FSpec Tryz.prog 82 [p.av,.int .i64 r,.bool six,x.av,.agg [.int .i64 a,.int .i64 b]] [] (.ptr 0 0) [lineHop 1,rowHop (lineP p (fun n=>doesF n r six x) a b)]:=by
 obtain⟨hok,hr,ho,h3,h4,h5⟩:=askV_zero h
 have hl:=lineHop_spec p a b 157 (fun n=>doesF n r six x) r six x hok (fun e he=>(hw.2 e he).1) hw (fun n h1 h2=>hops1_spec n r six x h1 h2 hx hr) (fun t ht=>timesF_bd ho ht) (askV_T h)
 refine FSpec.of_o (q:=[]) Tryz.func82 (by kernel_rfl) rfl Tryz.ntmps82 Tryz.results82 hP (by kernel_rfl) (by simp) (by first|rfl|simp) ?_
 simp -implicitDefEqProofs
 refine CallO.mk [] [1,2,3] hl (by simp) rfl (by simp) (by simp) (by simp) ?_
 simp -implicitDefEqProofs
 refine EndO.ret [] [5,6] (.ptr 5 0) (by simp) ?_
 simp -implicitDefEqProofs
set_option maxRecDepth 8000 in
set_option maxHeartbeats 2000000 in
theorem routes1_spec (n:Net) (r:Int) (six:Bool) (x:Addr4) (hw:n.wf) (hok:netOk n=true) (hx:x.wf) (hr:rightA six x=true):
  FSpec Tryz.prog 74 [n.av,.ptr 0 0,.ptr 1 0,.ptr 2 0] (capV r six x) (heldF n r six x).av (capV r six x):=by
 have hl:=netOk_len hok
 have h1:=findV_spec n r (by omega)
 obtain⟨hp,hq⟩:=netOk_routers hok
 obtain⟨y,hy,hyw,hcr,hF⟩:∃y,(routerF n.routers r).getD routerZ=y∧(∀q∈y.routes,q.pfx.addr.wf)∧checkR y.routes=0∧heldF n r six x=heldB (bestF six x y.routes none):=by
  refine⟨_,rfl,?_⟩
  unfold heldF
  cases hb:routerF n.routers r with
  |none=>exact⟨fun q hq=>(by simp[routerZ]at hq),rfl,rfl⟩
  |some y=>
   have hm:y∈n.routers:=List.mem_of_find?_eq_some hb
   have hok:=hq y hm
   unfold routerOk at hok
   simp only[Bool.and_eq_true,beq_iff_eq]at hok
   exact⟨hw y hm,hok.1.2,rfl⟩
 have hcr':checkRL y.routes none=0:=by
  have hcr:=hcr
  unfold checkR at hcr
  split at hcr
  ·cases hcr
  ·exact hcr
 have hQ:∀q∈y.routes,q.pfx.addr.wf∧0≤q.pfx.len∧q.pfx.len≤wideN q.pfx.six:=fun q hqm=>by
  have:=(checkRL_sorted hcr').1 q hqm
  simp[routeOk]at this
  obtain⟨h1,h2,_⟩:=checkP_len this.2
  exact⟨hyw q hqm,h1,h2⟩
 have hT:=(ofT_wt six y.routes WT.one).1
 have hlb:=longest_best six x y.routes hcr hyw hr
 rw[hF]
 rw[hy]at h1
 clear hF hy
 generalize (routerF n.routers r).isSome=I at*
 refine FSpec.of_o (q:=[(2,.m [.p [] [],.p [] [],.p [] [],.e [18,19],.p [0] [],.e [20,21],.p [] [],.p [] [],.p [3] [],.a 0 2,.e [8,23]])]) Tryz.func74 (by kernel_rfl) rfl Tryz.ntmps74 Tryz.results74 hP (by kernel_rfl) (by simp) (by first|rfl|simp) ?_
 simp -implicitDefEqProofs
 first|refine CallK.same (h1) rfl rfl ?_|refine CallQ.same (h1) rfl rfl ?_|refine CallQG.same _ (h1) rfl ?_|refine CallG.same _ (h1) rfl ?_|refine CallK.pv (h1) rfl rfl ?_
 simp -implicitDefEqProofs
 refine CallK.outs [] (of_spec y.routes six hQ) rfl ?_ ?_ ?_
 ·simp
 ·simp[AV.flat]
 generalize hTT:ofT six y.routes [.nd [] none]=T at*
 simp -implicitDefEqProofs [look_enumL_lt]
 refine CallO.mk [] (List.range' 7 T.length) (longest_spec six T x hT hx) List.nodup_range' ?_ ?_ ?_ ?_ ?_
 ·simp
 ·simp
 ·refine entObjs_of _ 0 fun i o' ho=>?_
  have hi:i<T.length:=by have:=(List.getElem?_eq_some_iff.1 ho).1;simpa using this
  rw[Nat.zero_add,nmOf_range' hi]
  simp only[St.freeze]
  rw[look_enumL_at _ _ _ (by simpa using hi),List.getElem?_map,ho]
  refine⟨_,rfl,?_⟩
  rw[obs_get,Option.map_eq_some_iff]at ho
  obtain⟨e,he,rfl⟩:=ho
  rw[ob_ren2 six hT he (ρ:=fun x=>x+7) (σ:=nmOf (List.range' 7 T.length) (7+T.length)) (fun k hk=>by rw[nmOf_range' hk];omega)]
  exact ob_le_ren _ _ _ _ _
 ·have hT0:0<T.length:=by obtain⟨v,hv⟩:=hT.root;exact(List.getElem?_eq_some_iff.1 hv).1
  have r0:nmOf (List.range' 7 T.length) (7+T.length) 0=7:=nmOf_range' hT0
  simp[-nmOf,r0]
 ·rw[hlb]
  generalize bestF six x y.routes none=O
  cases O with
  |none=>
   simp -implicitDefEqProofs [look_enumX_lt,look_enumL_lt,rcO]
   refine EndO.ret [] [0,1,2] (heldB none).av (by simp[heldB,zeroR]) ?_
   simp -implicitDefEqProofs [look_enumX_lt,look_enumL_lt]
   omega
  |some q=>
   simp -implicitDefEqProofs [look_enumX_lt,look_enumL_lt,rcO]
   refine EndO.ret [] [0,1,2] (heldB (some q)).av (by simp[heldB]) ?_
   simp -implicitDefEqProofs [look_enumX_lt,look_enumL_lt]
   omega
end Go.Am
namespace Go.Am
open Go.Proofs
set_option maxRecDepth 8000 in
set_option maxHeartbeats 2000000 in
theorem hopsP_spec (p:Past) (r:Int) (six:Bool) (x:Addr4) (a b:Int) (hw:p.wf) (hx:x.wf):
  FSpec Tryz.prog 23 [p.av,.int .i64 r,.bool six,x.av,.agg [.int .i64 a,.int .i64 b]] []
   (.tup [.im (.sl 4 ((if askV p r six x a b=0 then lineP p (fun n=>doesF n r six x) a b else[]).map Pc.ivHop)),.int .i64 (askV p r six x a b)]) []:=by
 have h1:=askedV_spec p r six x a b hw
 refine FSpec.of_z (q:=[]) Tryz.func23 (by kernel_rfl) rfl Tryz.ntmps23 Tryz.results23 hP (by kernel_rfl) (by simp) (by first|rfl|simp) ?_
 simp -implicitDefEqProofs
 first|refine CallK.same (h1) rfl rfl ?_|refine CallQ.same (h1) rfl rfl ?_|refine CallQG.same _ (h1) rfl ?_|refine CallG.same _ (h1) rfl ?_|refine CallK.pv (h1) rfl rfl ?_
 simp -implicitDefEqProofs
 refine⟨fun h=>?_,fun h=>?_⟩
 ·refine EndZ.ret [] (.tup [.im (.sc (.slice none 0 0)),.int .i64 (askV p r six x a b)]) (by simp) (by simp[h])
 have h2:=hopsV_spec p r six x a b hw hx h
 obtain⟨hok,hr,ho,h3,h4,h5⟩:=askV_zero h
 have hl:=okP_len hok
 have hl2:=timesF_len p.evs a b
 have hl3:=lineP_len p (fun n=>doesF n r six x) a b
 rw[if_pos h,h]
 generalize lineP p (fun n=>doesF n r six x) a b=L at*
 refine CallK.outs [] h2 rfl (by simp) (by simp[AV.flat]) ?_
 simp -implicitDefEqProofs
 refine LoopK.nil (.sl 13 83 4) ?_
 simp -implicitDefEqProofs
 refine LoopK.os (fun k:Nat=>[(13,.row 1),(33,.row 0),(34,.int .i64 L.length),(35,.int .i64 k)])
  (fun k=>[rowHop L,.row 83 4 ((L.take k).map Pc.ivHop)])
  (fun k=>k≤L.length) (fun k=>L.length-k) 0 [4,5] (Nat.zero_le _) (by simp) ?_
 intro k hk
 by_cases hlt:k<L.length
 ·have e1:IntKind.i64.wrap (k+1)=(k+1:Nat):=wrap64 (by omega) (by omega)
  have ht:L.take (k+1)=L.take k++[L[k]]:=by rw[List.take_add_one,List.getElem?_eq_getElem hlt];rfl
  obtain⟨y,hy⟩:∃y,L[k]=y:=⟨_,rfl⟩
  rw[hy]at ht
  have ht2:=congrArg (List.map Pc.ivHop) ht
  simp at ht2
  simp -implicitDefEqProofs [hlt,hy]
  refine⟨⟨by omega,by unfold maxLen;omega⟩,?_⟩
  refine Again.os (k+1) [0,4] hlt (by omega) ?_
  simp -implicitDefEqProofs [e1,ht2]
 ·have hkk:k=L.length:=by omega
  subst hkk
  simp -implicitDefEqProofs
  refine EndZ.ret [1] (.tup [.row 1,.int .i64 0]) (by simp) (by simp)
set_option maxRecDepth 8000 in
set_option maxHeartbeats 2000000 in
theorem routesP_spec (p:Past) (r:Int) (six:Bool) (x:Addr4) (a b:Int) (hw:p.wf) (hx:x.wf):
  FSpec Tryz.prog 21 [p.av,.int .i64 r,.bool six,x.av,.agg [.int .i64 a,.int .i64 b]] []
   (.tup [.im (.sl 9 ((if askV p r six x a b=0 then lineP p (fun n=>heldF n r six x) a b else[]).map Pc.ivHd)),.int .i64 (askV p r six x a b)]) []:=by
 have h1:=askedV_spec p r six x a b hw
 refine FSpec.of_z (q:=[]) Tryz.func21 (by kernel_rfl) rfl Tryz.ntmps21 Tryz.results21 hP (by kernel_rfl) (by simp) (by first|rfl|simp) ?_
 simp -implicitDefEqProofs
 first|refine CallK.same (h1) rfl rfl ?_|refine CallQ.same (h1) rfl rfl ?_|refine CallQG.same _ (h1) rfl ?_|refine CallG.same _ (h1) rfl ?_|refine CallK.pv (h1) rfl rfl ?_
 simp -implicitDefEqProofs
 refine⟨fun h=>?_,fun h=>?_⟩
 ·refine EndZ.ret [] (.tup [.im (.sc (.slice none 0 0)),.int .i64 (askV p r six x a b)]) (by simp) (by simp[h])
 obtain⟨hok,hr,ho,h3,h4,h5⟩:=askV_zero h
 have h2:=lineHd_spec p a b 74 (fun n=>heldF n r six x) r six x hok (fun e he=>(hw.2 e he).1) hw (fun n h1 h2=>routes1_spec n r six x h1 h2 hx hr) (fun t ht=>timesF_bd ho ht) (askV_T h)
 have hl:=okP_len hok
 have hl2:=timesF_len p.evs a b
 have hl3:=lineP_len p (fun n=>heldF n r six x) a b
 rw[if_pos h,h]
 generalize lineP p (fun n=>heldF n r six x) a b=L at*
 simp -implicitDefEqProofs
 refine CallO.mk [] [1,2,3] h2 (by simp) rfl (by simp) (by simp) (by simp) ?_
 simp -implicitDefEqProofs
 refine LoopK.nil (.sl 14 78 9) ?_
 simp -implicitDefEqProofs
 refine LoopK.os (fun k:Nat=>[(14,.row 1),(33,.row 0),(34,.int .i64 L.length),(35,.int .i64 k)])
  (fun k=>[rowHd L,.row 78 9 ((L.take k).map Pc.ivHd)])
  (fun k=>k≤L.length) (fun k=>L.length-k) 0 [6,7] (Nat.zero_le _) (by simp) ?_
 intro k hk
 by_cases hlt:k<L.length
 ·have e1:IntKind.i64.wrap (k+1)=(k+1:Nat):=wrap64 (by omega) (by omega)
  have ht:L.take (k+1)=L.take k++[L[k]]:=by rw[List.take_add_one,List.getElem?_eq_getElem hlt];rfl
  obtain⟨y,hy⟩:∃y,L[k]=y:=⟨_,rfl⟩
  rw[hy]at ht
  have ht2:=congrArg (List.map Pc.ivHd) ht
  simp at ht2
  simp -implicitDefEqProofs [hlt,hy]
  refine⟨⟨by omega,by unfold maxLen;omega⟩,?_⟩
  refine Again.os (k+1) [0,4] hlt (by omega) ?_
  simp -implicitDefEqProofs [e1,ht2]
 ·have hkk:k=L.length:=by omega
  subst hkk
  simp -implicitDefEqProofs
  refine EndZ.ret [1] (.tup [.row 1,.int .i64 0]) (by simp) (by simp)
end Go.Am
namespace Go.Am
open Go.Proofs
@[simp] def Pc.ivBl (x:Pc Bool):List IV:=[.sc (.int .i64 x.a),.sc (.int .i64 x.b),.sc (.bool x.v)]
@[simp] def lineBl (n:Nat):AObj:=.box 195 [.row n]
@[simp] def rowBl (l:List (Pc Bool)):AObj:=.row 203 3 (l.map Pc.ivBl)
set_option maxRecDepth 8000 in
set_option maxHeartbeats 2000000 in
theorem addBl_ext (L:List (Pc Bool)) (x:Pc Bool) (a b:Int) (hl:L.length≤100000):
  FSpec Tryz.prog 86 [.ptr 0 0,.agg [.int .i64 a,.int .i64 b],(.bool x.v)] [lineBl 1,rowBl (L++[x])] (.tup [])
   [lineBl 1,rowBl (L++[(⟨x.a,b,x.v⟩:Pc Bool)])]:=by
 have e1:IntKind.i64.wrap (L.length:Int)=(L.length:Int):=wrap64 (by omega) (by omega)
 have hg:=get_end Pc.ivBl L (Pc.ivBl x)
 have hm:=fun g=>mod_end g (Pc.ivBl x) (L.map Pc.ivBl)
 simp at hg hm
 refine FSpec.of_o (q:=[(3,.n 8),(4,.m [.p [1,2] [],.p [1] [],.p [1] [],.p [1] [],.p [1] [],.p [] [],.p [] [],.p [] [],.e [45],.e [42,46]])]) Tryz.func86 (by kernel_rfl) rfl Tryz.ntmps86 Tryz.results86 hP (by kernel_rfl) (by simp) (by first|rfl|simp) ?_
 simp -implicitDefEqProofs [e1,hg,hm]
 refine⟨by omega,?_⟩
 refine EndO.ret [] [0,1] (.tup []) (by simp) ?_
 simp -implicitDefEqProofs
set_option maxRecDepth 8000 in
set_option maxHeartbeats 2000000 in
theorem addBl_new (L:List (Pc Bool)) (a b:Int) (v:Bool) (hl:L.length≤100000) (hne:∀x,L.getLast? =some x→x.v≠v):
  FSpec Tryz.prog 86 [.ptr 0 0,.agg [.int .i64 a,.int .i64 b],(.bool v)] [lineBl 1,rowBl L] (.tup [])
   [lineBl 2,.gone,rowBl (L++[(⟨a,b,v⟩:Pc Bool)])]:=by
 rcases List.eq_nil_or_concat L with rfl|⟨L',x,rfl⟩
 ·refine FSpec.of_o (q:=[(3,.n 8),(4,.m [.p [1,2] [],.p [1] [],.p [1] [],.p [1] [],.p [1] [],.p [] [],.p [] [],.p [] [],.e [45],.e [42,46]])]) Tryz.func86 (by kernel_rfl) rfl Tryz.ntmps86 Tryz.results86 hP (by kernel_rfl) (by simp) (by first|rfl|simp) ?_
  simp -implicitDefEqProofs
  refine⟨by unfold maxLen;omega,?_⟩
  refine EndO.normal [] [0,1,4] (.tup []) (by simp) ?_
  simp -implicitDefEqProofs
 ·rw[List.concat_eq_append]at hl hne⊢
  have hxv:=hne x (by simp)
  rw[List.length_append,List.length_singleton]at hl
  have e1:IntKind.i64.wrap (L'.length:Int)=(L'.length:Int):=wrap64 (by omega) (by omega)
  have hg:=get_end Pc.ivBl L' (Pc.ivBl x)
  simp at hg
  refine FSpec.of_o (q:=[(3,.n 8),(4,.m [.p [1,2] [],.p [1] [],.p [1] [],.p [1] [],.p [1] [],.p [] [],.p [] [],.p [] [],.e [45],.e [42,46]])]) Tryz.func86 (by kernel_rfl) rfl Tryz.ntmps86 Tryz.results86 hP (by kernel_rfl) (by simp) (by first|rfl|simp) ?_
  simp -implicitDefEqProofs [e1,hg]
  have hkp:¬x.v=v:=hxv
  refine⟨by omega,fun h0=>absurd h0 hkp,fun _=>⟨⟨by omega,by unfold maxLen;omega⟩,?_⟩⟩
  refine EndO.normal [] [0,1,4] (.tup []) (by simp) ?_
  simp -implicitDefEqProofs
end Go.Am
namespace Go.Am
open Go.Proofs
def accT (f:Int→Bool) (b:Int) (ts:List Int):Nat→List (Int×Int)
 |0=>[]
 |k+1=>putTm (accT f b ts k) (ts.getD k 0) (endT b ts k) (f (ts.getD k 0))
theorem putTm_len (out:List (Int×Int)) (t e:Int) (v:Bool):(putTm out t e v).length≤out.length+1:=by
 unfold putTm
 split
 ·split
  ·split
   ·rename_i h;simp
   ·simp
  ·simp
 ·omega
theorem accT_len (f:Int→Bool) (b:Int) (ts:List Int):∀k,(accT f b ts k).length≤k
 |0=>Nat.le_refl _
 |k+1=>by
  have h1:=accT_len f b ts k
  have h2:=putTm_len (accT f b ts k) (ts.getD k 0) (endT b ts k) (f (ts.getD k 0))
  rw[accT]
  omega
theorem sameG_from (f:Int→Bool) (b:Int) (ts:List Int):∀(d k:Nat),k+d+1=ts.length→sameG f b (ts.drop k) (accT f b ts k)=accT f b ts ts.length
 |0,k,h=>by
  have hk:k<ts.length:=by omega
  rw[List.drop_eq_getElem_cons hk,List.drop_eq_nil_of_le (by omega),sameG,show ts.length=k+1 by omega,accT,endT,if_neg (by omega)]
  simp[List.getD_eq_getElem?_getD,List.getElem?_eq_getElem hk]
 |d+1,k,h=>by
  have hk:k<ts.length:=by omega
  have hk1:k+1<ts.length:=by omega
  rw[←sameG_from f b ts d (k+1) (by omega),List.drop_eq_getElem_cons hk,List.drop_eq_getElem_cons hk1,sameG,accT,endT,if_pos hk1]
  simp[List.getD_eq_getElem?_getD,List.getElem?_eq_getElem hk,List.getElem?_eq_getElem hk1]
theorem accT_p (p:Past) (f:Net→Bool) {a b:Int} (hab:a≤b):accT (fun t=>f (thenF p t)) b (a::timesF p.evs a b) (a::timesF p.evs a b).length=trues (lineP p f a b):=by
 rw[←same_doc p f hab,←sameG_from _ _ _ (timesF p.evs a b).length 0 (by simp)]
 rfl
def sameW (p:Past) (r:Int) (six:Bool) (x y:Addr4) (a b:Int):Int:=if rightA six y=false then 2 else askV p r six x a b
set_option maxRecDepth 8000 in
set_option maxHeartbeats 4000000 in
theorem sameD_spec (p:Past) (r:Int) (six:Bool) (x y:Addr4) (a b:Int) (hw:p.wf) (hx:x.wf) (hy:y.wf):
  FSpec Tryz.prog 26 [p.av,.int .i64 r,.bool six,x.av,y.av,.agg [.int .i64 a,.int .i64 b]] []
   (.tup [.im (.sl 2 ((if sameW p r six x y a b=0 then trues (lineP p (fun n=>decide (doesF n r six x=doesF n r six y)) a b)else[]).map ivI)),.int .i64 (sameW p r six x y a b)]) []:=by
 have h0:=rightAr_spec six y hy
 have h1:=askedVr_spec p r six x a b hw hx
 unfold sameW
 refine FSpec.of_z (q:=[(12,.n 9)]) Tryz.func26 (by kernel_rfl) rfl Tryz.ntmps26 Tryz.results26 hP (by kernel_rfl) (by simp) (by first|rfl|simp) ?_
 simp -implicitDefEqProofs
 first|refine CallK.same (h0) rfl rfl ?_|refine CallQ.same (h0) rfl rfl ?_|refine CallQG.same _ (h0) rfl ?_|refine CallG.same _ (h0) rfl ?_|refine CallK.pv (h0) rfl rfl ?_
 simp -implicitDefEqProofs
 refine⟨fun h=>?_,fun hry=>?_⟩
 ·refine EndZ.ret [] (.tup [.im (.sc (.slice none 0 0)),.int .i64 2]) (by simp) (by simp[h])
 simp only[hry]
 first|refine CallK.same (h1) rfl rfl ?_|refine CallQ.same (h1) rfl rfl ?_|refine CallQG.same _ (h1) rfl ?_|refine CallG.same _ (h1) rfl ?_|refine CallK.pv (h1) rfl rfl ?_
 simp -implicitDefEqProofs
 refine⟨fun h=>?_,fun h=>?_⟩
 ·refine EndZ.ret [] (.tup [.im (.sc (.slice none 0 0)),.int .i64 (askV p r six x a b)]) (by simp) (by simp[h])
 obtain⟨hok,hr,ho,h3,h4,h5⟩:=askV_zero h
 have htm:=timesD_spec p a b hw (ask_timesW h) hok
 have hbd:∀t∈a::timesF p.evs a b,0≤t∧t≤1099511627776:=fun t ht=>timesF_bd ho ht
 have hl:=okP_len hok
 have hl2:=timesF_len p.evs a b
 rw[if_pos h,←accT_p p _ (oneI_le ho).2.1,h]
 have hlen:(a::timesF p.evs a b).length≤2000:=by simp;omega
 generalize a::timesF p.evs a b=ts at*
 first|refine CallK.same (htm) rfl rfl ?_|refine CallQ.same (htm) rfl rfl ?_|refine CallQG.same _ (htm) rfl ?_|refine CallG.same _ (htm) rfl ?_|refine CallK.pv (htm) rfl rfl ?_
 simp -implicitDefEqProofs
 refine LoopK.nil (.sl 15 53 2) ?_
 simp -implicitDefEqProofs
 refine LoopK.os (fun k:Nat=>[(1,.int .i64 r),(2,.bool six),(6,.ptr 0 0),(9,.ptr 1 0),(10,.ptr 2 0),(11,.ptr 3 0),(15,.row 4),(16,.im (.sl 1 (rowN ts))),(37,.im (.sl 1 (rowN ts))),(38,.int .i64 ts.length),(39,.int .i64 k)])
  (fun k=>[pastO p,.box 25 [.int .u64 x.hi,.int .u64 x.lo],.box 25 [.int .u64 y.hi,.int .u64 y.lo],.box 53 [.int .i64 a,.int .i64 b],.row 53 2 ((accT (fun t=>decide (doesF (thenF p t) r six x=doesF (thenF p t) r six y)) b ts k).map ivI)])
  (fun k=>k≤ts.length) (fun k=>ts.length-k) 0 [0,1,2,3,4] (Nat.zero_le _) (by simp[accT]) ?_
 intro k hk
 by_cases hlt:k<ts.length
 ·have e1:IntKind.i64.wrap (k+1)=(k+1:Nat):=wrap64 (by omega) (by omega)
  have hg:=rowN_get hlt
  have hacc:accT (fun t=>decide (doesF (thenF p t) r six x=doesF (thenF p t) r six y)) b ts (k+1)=putTm (accT (fun t=>decide (doesF (thenF p t) r six x=doesF (thenF p t) r six y)) b ts k) ts[k] (endT b ts k) (decide (doesF (thenF p ts[k]) r six x=doesF (thenF p ts[k]) r six y)):=by
   rw[accT,List.getD_eq_getElem?_getD,List.getElem?_eq_getElem hlt];rfl
  have hal:=accT_len (fun t=>decide (doesF (thenF p t) r six x=doesF (thenF p t) r six y)) b ts k
  have hnw:(thenF p ts[k]).wf:=allN_wf hw.1 fun e he=>(hw.2 e (List.mem_filter.1 he).1).2
  have g1:=thenr_spec p ts[k] hw.1 (fun e he=>(hw.2 e he).2) (by omega)
  have g2:=doesNr_spec (thenF p ts[k]) r six x hnw hx
  have g4:=doesNr_spec (thenF p ts[k]) r six y hnw hy
  have g3:=end_spec ts k a b hlt (by omega) hbd
  have ht1:=hbd ts[k] (List.getElem_mem hlt)
  generalize accT (fun t=>decide (doesF (thenF p t) r six x=doesF (thenF p t) r six y)) b ts k=L at*
  generalize doesF (thenF p ts[k]) r six x=H at*
  generalize doesF (thenF p ts[k]) r six y=G at*
  generalize thenF p ts[k]=N at*
  generalize endT b ts k=E at*
  obtain⟨t,ht⟩:∃t,ts[k]=t:=⟨_,rfl⟩
  rw[ht]at hg hacc g1 ht1
  have e3:IntKind.i64.wrap (t-1)=t-1:=wrap64 (by omega) (by omega)
  simp -implicitDefEqProofs [hlt,hg,ht]
  first|refine CallK.same (g1) rfl rfl ?_|refine CallQ.same (g1) rfl rfl ?_|refine CallQG.same _ (g1) rfl ?_|refine CallG.same _ (g1) rfl ?_|refine CallK.pv (g1) rfl rfl ?_
  simp -implicitDefEqProofs
  first|refine CallK.same (g2) rfl rfl ?_|refine CallQ.same (g2) rfl rfl ?_|refine CallQG.same _ (g2) rfl ?_|refine CallG.same _ (g2) rfl ?_|refine CallK.pv (g2) rfl rfl ?_
  simp -implicitDefEqProofs
  first|refine CallK.same (g4) rfl rfl ?_|refine CallQ.same (g4) rfl rfl ?_|refine CallQG.same _ (g4) rfl ?_|refine CallG.same _ (g4) rfl ?_|refine CallK.pv (g4) rfl rfl ?_
  by_cases hHG:H=G
  ·subst hHG
   simp only[decide_true]at hacc
   rcases List.eq_nil_or_concat L with rfl|⟨L',q,rfl⟩
   ·simp -implicitDefEqProofs
    first|refine CallK.same (g3) rfl rfl ?_|refine CallQ.same (g3) rfl rfl ?_|refine CallQG.same _ (g3) rfl ?_|refine CallG.same _ (g3) rfl ?_|refine CallK.pv (g3) rfl rfl ?_
    simp -implicitDefEqProofs
    refine⟨by unfold maxLen;omega,?_⟩
    refine Again.os (k+1) [0,1,2,3,7] hlt (by omega) ?_
    simp -implicitDefEqProofs [e1,hacc,putTm]
   ·rw[List.concat_eq_append]at hacc hal⊢
    rw[List.length_append,List.length_singleton]at hal
    have e2:IntKind.i64.wrap (L'.length:Int)=(L'.length:Int):=wrap64 (by omega) (by omega)
    have hm:=fun g=>mod_end g (ivI q) (L'.map ivI)
    simp at hm
    have hp:putTm (L'++[q]) t E true=if q.2=t-1 then L'++[(q.1,E)]else L'++[q]++[(t,E)]:=by simp[putTm]
    rw[hp]at hacc
    simp -implicitDefEqProofs [e2,hm,e3]
    refine⟨by omega,fun hq=>?_,fun hq=>?_⟩
    ·rw[if_pos hq]at hacc
     first|refine CallK.same (g3) rfl rfl ?_|refine CallQ.same (g3) rfl rfl ?_|refine CallQG.same _ (g3) rfl ?_|refine CallG.same _ (g3) rfl ?_|refine CallK.pv (g3) rfl rfl ?_
     simp -implicitDefEqProofs [hm]
     refine⟨by omega,?_⟩
     refine Again.os (k+1) [0,1,2,3,4] hlt (by omega) ?_
     simp -implicitDefEqProofs [e1,hacc]
    ·rw[if_neg hq]at hacc
     first|refine CallK.same (g3) rfl rfl ?_|refine CallQ.same (g3) rfl rfl ?_|refine CallQG.same _ (g3) rfl ?_|refine CallG.same _ (g3) rfl ?_|refine CallK.pv (g3) rfl rfl ?_
     simp -implicitDefEqProofs
     refine⟨⟨by omega,by unfold maxLen;omega⟩,?_⟩
     refine Again.os (k+1) [0,1,2,3,7] hlt (by omega) ?_
     simp -implicitDefEqProofs [e1,hacc]
  ·have hkp:¬(H.kind=G.kind∧H.peer=G.peer):=fun h=>hHG (Hop_ext h.1 h.2)
   have hkp2:H.kind=G.kind→¬H.peer=G.peer:=fun h1 h2=>hkp ⟨h1,h2⟩
   have hf:putTm L t E (decide (H=G))=L:=by simp[putTm,hHG]
   rw[hf]at hacc
   simp -implicitDefEqProofs
   refine⟨fun _=>?_,fun h1 h2=>absurd ⟨h1,h2⟩ hkp⟩
   refine Again.os (k+1) [0,1,2,3,4] hlt (by omega) ?_
   simp -implicitDefEqProofs [e1,hacc]
 ·have hkk:k=ts.length:=by omega
  subst hkk
  simp -implicitDefEqProofs
  refine EndZ.ret [4] (.tup [.row 4,.int .i64 0]) (by simp) (by simp)
end Go.Am
namespace Go.Am
open Go.Proofs
theorem trues_len (l:List (Pc Bool)):(trues l).length≤l.length:=by unfold trues;exact List.length_filterMap_le _ _
theorem bothO_spec (L M:List (Pc Hop)):FSpec Tryz.prog 85 [.ptr 0 0,.ptr 2 0] [lineHop 1,rowHop L,lineHop 3,rowHop M] (.fn 160 [.ptr 4 0,.ptr 5 0])
  [lineHop 1,rowHop L,lineHop 3,rowHop M,.box 186 [.ptr 0 0],.box 186 [.ptr 2 0]]:=by
 refine FSpec.of_o (q:=[]) Tryz.func85 (by kernel_rfl) rfl Tryz.ntmps85 Tryz.results85 hP (by kernel_rfl) (by simp) (by first|rfl|simp) ?_
 simp -implicitDefEqProofs
 refine EndO.ret [] [0,1,2,3,4,5] (.fn 160 [.ptr 4 0,.ptr 5 0]) (by simp) ?_
 simp -implicitDefEqProofs
theorem bothL_l {T U R:Type} [DecidableEq T] [DecidableEq U] [DecidableEq R] (h:T→U→R) (m:List (Pc U)) (acc:List (Pc R)):bothL h ([]:List (Pc T)) m acc=acc:=by rw[bothL];intro x l y m h1;cases h1
theorem bothL_r {T U R:Type} [DecidableEq T] [DecidableEq U] [DecidableEq R] (h:T→U→R) (l:List (Pc T)) (acc:List (Pc R)):bothL h l ([]:List (Pc U)) acc=acc:=by rw[bothL];intro x l y m _ h1;cases h1
theorem bothL_step {T U R:Type} [DecidableEq T] [DecidableEq U] [DecidableEq R] (h:T→U→R) (x:Pc T) (l:List (Pc T)) (y:Pc U) (m:List (Pc U)) (acc:List (Pc R)):∃MX TO:Int,
  (if x.a<y.a then y.a else x.a)=MX∧(if y.b<x.b then y.b else x.b)=TO∧(x.b=TO∨y.b=TO)∧
  bothL h (x::l) (y::m) acc=bothL h (if x.b=TO then l else x::l) (if y.b=TO then m else y::m) (addPc acc MX TO (h x.v y.v)):=by
 refine⟨_,_,rfl,rfl,?_,?_⟩
 ·split<;>simp
 ·have e1:(if x.a<y.a then y.a else x.a)=max x.a y.a:=by omega
  rw[bothL_cons,e1]
  rcases Int.lt_trichotomy x.b y.b with h1|h1|h1
  ·have e2:¬y.b<x.b:=by omega
   have e3:¬y.b=x.b:=by omega
   simp only[h1,e2,e3,if_true,if_false]
  ·rw[←h1]
   simp
  ·have e0:¬x.b<y.b:=by omega
   have e3:¬x.b=y.b:=by omega
   simp only[e0,h1,e3,if_true,if_false]
set_option maxRecDepth 8000 in
set_option maxHeartbeats 4000000 in
theorem sameP_spec (p:Past) (r:Int) (six:Bool) (x y:Addr4) (a b:Int) (hw:p.wf) (hx:x.wf) (hy:y.wf):
  FSpec Tryz.prog 25 [p.av,.int .i64 r,.bool six,x.av,y.av,.agg [.int .i64 a,.int .i64 b]] []
   (.tup [.im (.sl 2 ((if sameW p r six x y a b=0 then trues (lineP p (fun n=>decide (doesF n r six x=doesF n r six y)) a b)else[]).map ivI)),.int .i64 (sameW p r six x y a b)]) []:=by
 have h0:=rightA_spec six y
 have h1:=askedV_spec p r six x a b hw
 unfold sameW
 refine FSpec.of_z (q:=[(7,.m [.p [] [],.p [] [],.p [] [],.p [] [],.p [] [],.e [36,37,38,39,40],.p [0] [],.p [0] [],.p [0] [],.p [0] [],.p [0] []]),(10,.m [.p [] [],.p [] [],.p [] [],.p [] [],.p [] [],.p [] [],.p [] []])]) Tryz.func25 (by kernel_rfl) rfl Tryz.ntmps25 Tryz.results25 hP (by kernel_rfl) (by simp) (by first|rfl|simp) ?_
 simp -implicitDefEqProofs
 first|refine CallK.same (h0) rfl rfl ?_|refine CallQ.same (h0) rfl rfl ?_|refine CallQG.same _ (h0) rfl ?_|refine CallG.same _ (h0) rfl ?_|refine CallK.pv (h0) rfl rfl ?_
 simp -implicitDefEqProofs
 refine⟨fun h=>?_,fun hry=>?_⟩
 ·refine EndZ.ret [] (.tup [.im (.sc (.slice none 0 0)),.int .i64 2]) (by simp) (by simp[h])
 simp only[hry]
 first|refine CallK.same (h1) rfl rfl ?_|refine CallQ.same (h1) rfl rfl ?_|refine CallQG.same _ (h1) rfl ?_|refine CallG.same _ (h1) rfl ?_|refine CallK.pv (h1) rfl rfl ?_
 simp -implicitDefEqProofs
 refine⟨fun h=>?_,fun h=>?_⟩
 ·refine EndZ.ret [] (.tup [.im (.sc (.slice none 0 0)),.int .i64 (askV p r six x a b)]) (by simp) (by simp[h])
 obtain⟨hok,hr,ho,h3,h4,h5⟩:=askV_zero h
 have hry':askV p r six y a b=0:=by
  unfold askV at h⊢
  rw[hry]
  rw[hr]at h
  exact h
 have g1:=hopsV_spec p r six x a b hw hx h
 have g2:=hopsV_spec p r six y a b hw hy hry'
 have hl:=okP_len hok
 have hl2:=timesF_len p.evs a b
 have hl3:=lineP_len p (fun n=>doesF n r six x) a b
 have hl4:=lineP_len p (fun n=>doesF n r six y) a b
 rw[if_pos h,h,←same_both p (fun n=>doesF n r six x) (fun n=>doesF n r six y) (oneI_le ho).2.1]
 generalize lineP p (fun n=>doesF n r six x) a b=L at*
 generalize lineP p (fun n=>doesF n r six y) a b=M at*
 refine CallK.outs [] g1 rfl (by simp) (by simp[AV.flat]) ?_
 simp -implicitDefEqProofs
 refine CallK.outs [] g2 rfl (by simp) (by simp[AV.flat]) ?_
 simp -implicitDefEqProofs
 refine CallO.mk [] [6,7,8,9] (bothO_spec L M) (by simp) rfl (by simp) (by simp) (by simp) ?_
 simp -implicitDefEqProofs [rangeK]
 intro a0 b0 rr
 refine⟨_,_,_,[(2,.m [.p [] [],.p [] [],.p [] [],.p [] [],.p [] [],.p [] [],.p [] [],.p [1] [],.p [1] [],.p [1] [],.p [1] [],.p [1] [],.p [1] [],.p [1] [],.a 0 0,.a 1 0,.e [6,31]])],Tryz.func160,(by kernel_rfl),rfl,Tryz.ntmps160,Tryz.results160,(by kernel_rfl),(by simp),?_⟩
 simp -implicitDefEqProofs
 refine LoopK.nil (.cl 4 0 203 3) ?_
 simp -implicitDefEqProofs
 refine LoopK.os (fun g:Nat×Nat×List (Pc Bool)=>[(0,.yld 10),(1,.ptr 4 0),(2,.ptr 5 0),(4,.int .i64 g.1),(5,.int .i64 g.2.1)])
  (fun g=>[lineHop 1,rowHop L,lineHop 3,rowHop M,.box 186 [.ptr 0 0],.box 186 [.ptr 2 0],lineBl 7,rowBl g.2.2,.box 192 [.ptr 6 0],.sv a0 [(15,.ptr 8 0)],.lp b0 rr .ready none])
  (fun g=>g.1≤L.length∧g.2.1≤M.length∧g.2.2.length≤g.1+g.2.1∧bothL (fun x y=>decide (x=y)) (L.drop g.1) (M.drop g.2.1) g.2.2=bothL (fun x y=>decide (x=y)) L M [])
  (fun g=>(L.length-g.1)+(M.length-g.2.1)) (0,0,[]) [6,7,8,9,10,11,4,14,5,12,13] ⟨Nat.zero_le _,Nat.zero_le _,Nat.zero_le _,rfl⟩ (by simp[renM]) ?_
 rintro⟨i,k,acc⟩ ⟨hi,hk,ha,hR⟩
 simp only at hi hk ha hR
 by_cases hlt:i<L.length∧k<M.length
 ·obtain⟨hil,hkl⟩:=hlt
  have e1:IntKind.i64.wrap (i+1)=(i+1:Nat):=wrap64 (by omega) (by omega)
  have e2:IntKind.i64.wrap (k+1)=(k+1:Nat):=wrap64 (by omega) (by omega)
  rw[List.drop_eq_getElem_cons hil,List.drop_eq_getElem_cons hkl]at hR
  obtain⟨X,hX⟩:∃X,L[i]=X:=⟨_,rfl⟩
  obtain⟨Y,hY⟩:∃Y,M[k]=Y:=⟨_,rfl⟩
  rw[hX,hY]at hR
  have hdi:X::L.drop (i+1)=L.drop i:=by rw[List.drop_eq_getElem_cons hil,hX]
  have hdk:Y::M.drop (k+1)=M.drop k:=by rw[List.drop_eq_getElem_cons hkl,hY]
  obtain⟨MX,TO,hMX,hTO,hor,hst⟩:=bothL_step (fun x y=>decide (x=y)) X (L.drop (i+1)) Y (M.drop (k+1)) acc
  rw[hst]at hR
  have hv:decide (X.v=Y.v)=(X.v.kind==Y.v.kind&&X.v.peer==Y.v.peer):=by
   rw[Bool.eq_iff_iff]
   simp
   exact⟨fun h=>by rw[h];exact⟨rfl,rfl⟩,fun h=>Hop_ext h.1 h.2⟩
  rw[hv]at hR
  simp -implicitDefEqProofs [hil,hkl,hX,hY,hMX,hTO]
  clear hst hv hMX hTO
  refine⟨9,_,rfl,rfl,rfl,fun aI=>?_⟩
  simp -implicitDefEqProofs [putL,asgK]
  refine⟨10,by simp,?_⟩
  simp -implicitDefEqProofs
  generalize (X.v.kind==Y.v.kind&&X.v.peer==Y.v.peer)=V at hR⊢
  by_cases hL:∃L' y,acc=L'++[y]∧y.v=V
  ·obtain⟨L',z,rfl,rfl⟩:=hL
   rw[addPc_ext]at hR
   rw[List.length_append,List.length_singleton]at ha
   refine CallO.mk [] [6,7] (addBl_ext L' z MX TO (by omega)) (by simp) rfl (by simp) (by simp) (by simp) ?_
   simp -implicitDefEqProofs
   refine endRd_normal 13 10 (by simp;rfl) (by simp) ?_
   simp -implicitDefEqProofs
   refine⟨fun hx1=>⟨fun hy1=>?_,fun hy1=>?_⟩,fun hx1=>⟨fun hy1=>?_,fun hy1=>?_⟩⟩
   ·rw[if_pos hx1,if_pos hy1]at hR
    refine Again.os (i+1,k+1,L'++[(⟨z.a,TO,z.v⟩:Pc Bool)]) [0,1,2,3,4,5,6,7,8,9,10] ⟨by simp only;omega,by simp only;omega,by simp;omega,hR⟩ (by simp only;omega) ?_
    simp -implicitDefEqProofs [renM,e1,e2]
   ·rw[if_pos hx1,if_neg hy1,hdk]at hR
    refine Again.os (i+1,k,L'++[(⟨z.a,TO,z.v⟩:Pc Bool)]) [0,1,2,3,4,5,6,7,8,9,10] ⟨by simp only;omega,by simp only;omega,by simp;omega,hR⟩ (by simp only;omega) ?_
    simp -implicitDefEqProofs [renM,e1]
   ·rw[if_neg hx1,hdi,if_pos hy1]at hR
    refine Again.os (i,k+1,L'++[(⟨z.a,TO,z.v⟩:Pc Bool)]) [0,1,2,3,4,5,6,7,8,9,10] ⟨by simp only;omega,by simp only;omega,by simp;omega,hR⟩ (by simp only;omega) ?_
    simp -implicitDefEqProofs [renM,e2]
   ·exact absurd hor (by rintro(h|h);exact hx1 h;exact hy1 h)
  ·have hne:∀y,acc.getLast? =some y→y.v≠V:=fun y hy h=>hL (by
    rcases List.eq_nil_or_concat acc with rfl|⟨L',z,rfl⟩
    ·cases hy
    ·rw[List.concat_eq_append]at hy⊢
     simp at hy
     exact⟨L',z,rfl,by rw[hy];exact h⟩)
   rw[addPc_new _ _ _ _ hne]at hR
   refine CallO.mk [] [6,7] (addBl_new acc MX TO V (by omega) hne) (by simp) rfl (by simp) (by simp) (by simp) ?_
   simp -implicitDefEqProofs
   refine endRd_normal 13 10 (by simp;rfl) (by simp) ?_
   simp -implicitDefEqProofs
   refine⟨fun hx1=>⟨fun hy1=>?_,fun hy1=>?_⟩,fun hx1=>⟨fun hy1=>?_,fun hy1=>?_⟩⟩
   ·rw[if_pos hx1,if_pos hy1]at hR
    refine Again.os (i+1,k+1,acc++[(⟨MX,TO,V⟩:Pc Bool)]) [0,1,2,3,4,5,6,16,8,9,10] ⟨by simp only;omega,by simp only;omega,by simp;omega,hR⟩ (by simp only;omega) ?_
    simp -implicitDefEqProofs [renM,e1,e2]
   ·rw[if_pos hx1,if_neg hy1,hdk]at hR
    refine Again.os (i+1,k,acc++[(⟨MX,TO,V⟩:Pc Bool)]) [0,1,2,3,4,5,6,16,8,9,10] ⟨by simp only;omega,by simp only;omega,by simp;omega,hR⟩ (by simp only;omega) ?_
    simp -implicitDefEqProofs [renM,e1]
   ·rw[if_neg hx1,hdi,if_pos hy1]at hR
    refine Again.os (i,k+1,acc++[(⟨MX,TO,V⟩:Pc Bool)]) [0,1,2,3,4,5,6,16,8,9,10] ⟨by simp only;omega,by simp only;omega,by simp;omega,hR⟩ (by simp only;omega) ?_
    simp -implicitDefEqProofs [renM,e2]
   ·exact absurd hor (by rintro(h|h);exact hx1 h;exact hy1 h)
 ·have hfin:bothL (fun x y=>decide (x=y)) L M []=acc:=by
   rw[←hR]
   by_cases hil:i<L.length
   ·have:M.drop k=[]:=List.drop_eq_nil_of_le (by omega)
    rw[this,bothL_r]
   ·have:L.drop i=[]:=List.drop_eq_nil_of_le (by omega)
    rw[this,bothL_l]
  rw[hfin]
  have hal:acc.length≤4000:=by omega
  clear hfin hR
  rcases(show(i<L.length∧¬k<M.length)∨¬i<L.length by omega)with⟨h1,h2⟩|h1
  all_goals first|simp -implicitDefEqProofs [h1,h2]|simp -implicitDefEqProofs [h1]
  all_goals
   refine⟨9,_,10,.ready,none,rfl,rfl,.inl rfl,?_⟩
   simp -implicitDefEqProofs [pendK]
   refine LoopK.nil (.sl 18 53 2) ?_
   simp -implicitDefEqProofs
   refine LoopK.os (fun k:Nat=>[(18,.row 1),(62,.row 0),(63,.int .i64 acc.length),(64,.int .i64 k)])
    (fun k=>[rowBl acc,.row 53 2 ((trues (acc.take k)).map ivI)])
    (fun k=>k≤acc.length) (fun k=>acc.length-k) 0 [7,11] (Nat.zero_le _) (by simp[trues]) ?_
   intro k hk
   by_cases hlt:k<acc.length
   ·have e1:IntKind.i64.wrap (k+1)=(k+1:Nat):=wrap64 (by omega) (by omega)
    have ht:acc.take (k+1)=acc.take k++[acc[k]]:=by rw[List.take_add_one,List.getElem?_eq_getElem hlt];rfl
    have htl:=trues_len (acc.take k)
    rw[List.length_take]at htl
    obtain⟨⟨ya,yb,yv⟩,hy⟩:∃y,acc[k]=y:=⟨_,rfl⟩
    rw[hy]at ht
    have ht2:=congrArg trues ht
    rw[trues_app,trues_one]at ht2
    generalize trues (acc.take k)=O at*
    simp -implicitDefEqProofs [hlt,hy]
    refine⟨fun hv=>?_,fun hv=>?_⟩
    ·refine⟨⟨by omega,by unfold maxLen;omega⟩,?_⟩
     refine Again.os (k+1) [0,4] hlt (by omega) ?_
     rw[if_pos hv]at ht2
     simp -implicitDefEqProofs [e1,ht2]
    ·refine Again.os (k+1) [0,1] hlt (by omega) ?_
     rw[if_neg (by simp[hv]),List.append_nil]at ht2
     simp -implicitDefEqProofs [e1,ht2]
   ·have hkk:k=acc.length:=by omega
    subst hkk
    simp -implicitDefEqProofs
    refine EndZ.ret [1] (.tup [.row 1,.int .i64 0]) (by simp) (by simp)
end Go.Am
namespace Go.Am
open Go.Proofs
set_option maxRecDepth 4000 in
theorem terms_spec (l:List (Pc HeldR)) (hl:l.length≤9223372036854775807):FSpec Tryz.prog 28 [.im (.sl 9 (l.map Pc.ivHd)),.im (.sl 9 (l.map Pc.ivHd))] [] (.bool true) []:=by
 refine FSpec.of_flat (q:=[(6,.n 8)]) Tryz.func28 (by kernel_rfl) rfl Tryz.ntmps28 Tryz.results28 hP (by kernel_rfl) (by simp) (by first|rfl|simp) ?_
 simp -implicitDefEqProofs
 refine LoopK.os (fun k:Nat=>[(0,.im (.sl 9 (l.map Pc.ivHd))),(1,.im (.sl 9 (l.map Pc.ivHd))),(12,.int .i64 l.length),(13,.int .i64 k)])
  (fun k=>[]) (fun k=>k≤l.length) (fun k=>l.length-k) 0 [] (Nat.zero_le _) (by simp) ?_
 intro k hk
 by_cases hlt:k<l.length
 ·have e1:IntKind.i64.wrap (k+1)=(k+1:Nat):=wrap64 (by omega) (by omega)
  obtain⟨x,hx⟩:∃x,l[k]=x:=⟨_,rfl⟩
  simp -implicitDefEqProofs [hlt,hx,e1]
  refine Again.os (k+1) [] hlt (by omega) ?_
  simp -implicitDefEqProofs
 ·have hkk:k=l.length:=by omega
  subst hkk
  simp -implicitDefEqProofs
set_option maxRecDepth 4000 in
theorem alike25_spec (l:List (Pc Hop)) (hl:l.length≤9223372036854775807):FSpec Tryz.prog 29 [.im (.sl 4 (l.map Pc.ivHop)),.im (.sl 4 (l.map Pc.ivHop))] [] (.bool true) []:=by
 refine FSpec.of_flat (q:=[(6,.n 8)]) Tryz.func29 (by kernel_rfl) rfl Tryz.ntmps29 Tryz.results29 hP (by kernel_rfl) (by simp) (by first|rfl|simp) ?_
 simp -implicitDefEqProofs
 refine LoopK.os (fun k:Nat=>[(0,.im (.sl 4 (l.map Pc.ivHop))),(1,.im (.sl 4 (l.map Pc.ivHop))),(12,.int .i64 l.length),(13,.int .i64 k)])
  (fun k=>[]) (fun k=>k≤l.length) (fun k=>l.length-k) 0 [] (Nat.zero_le _) (by simp) ?_
 intro k hk
 by_cases hlt:k<l.length
 ·have e1:IntKind.i64.wrap (k+1)=(k+1:Nat):=wrap64 (by omega) (by omega)
  obtain⟨x,hx⟩:∃x,l[k]=x:=⟨_,rfl⟩
  simp -implicitDefEqProofs [hlt,hx,e1]
  refine Again.os (k+1) [] hlt (by omega) ?_
  simp -implicitDefEqProofs
 ·have hkk:k=l.length:=by omega
  subst hkk
  simp -implicitDefEqProofs
set_option maxRecDepth 4000 in
theorem same19_spec (l:List (Int×Int)) (hl:l.length≤9223372036854775807):FSpec Tryz.prog 30 [.im (.sl 2 (l.map ivI)),.im (.sl 2 (l.map ivI))] [] (.bool true) []:=by
 refine FSpec.of_flat (q:=[(6,.n 8)]) Tryz.func30 (by kernel_rfl) rfl Tryz.ntmps30 Tryz.results30 hP (by kernel_rfl) (by simp) (by first|rfl|simp) ?_
 simp -implicitDefEqProofs
 refine LoopK.os (fun k:Nat=>[(0,.im (.sl 2 (l.map ivI))),(1,.im (.sl 2 (l.map ivI))),(12,.int .i64 l.length),(13,.int .i64 k)])
  (fun k=>[]) (fun k=>k≤l.length) (fun k=>l.length-k) 0 [] (Nat.zero_le _) (by simp) ?_
 intro k hk
 by_cases hlt:k<l.length
 ·have e1:IntKind.i64.wrap (k+1)=(k+1:Nat):=wrap64 (by omega) (by omega)
  obtain⟨x,hx⟩:∃x,l[k]=x:=⟨_,rfl⟩
  simp -implicitDefEqProofs [hlt,hx,e1]
  refine Again.os (k+1) [] hlt (by omega) ?_
  simp -implicitDefEqProofs
 ·have hkk:k=l.length:=by omega
  subst hkk
  simp -implicitDefEqProofs
def sW:Pfx:=⟨false,⟨0,0⟩,0⟩
def sE1:Ev:=⟨1,4,1,2,sW,⟨0,0⟩,0,0⟩
def sE2:Ev:=⟨3,4,2,5,sW,⟨2,0⟩,0,0⟩
def sE3:Ev:=⟨4,4,3,8,sW,⟨0,0⟩,0,0⟩
def sP1:Past:=⟨⟨[],[]⟩,-1,[sE1]⟩
def sP2:Past:=⟨⟨[],[]⟩,-1,[sE1,sE2]⟩
def sP3:Past:=⟨⟨[],[]⟩,-1,[sE1,sE2,sE3]⟩
def sB:Net:=⟨[⟨4,2,5,true⟩],[⟨4,true,[⟨sW,⟨2,0⟩⟩],[]⟩]⟩
def sQ:Past:=⟨sB,6,[sE3]⟩
def sH:List (Pc HeldR):=[⟨0,4,⟨false,zeroR⟩⟩,⟨5,7,⟨true,⟨sW,⟨2,0⟩⟩⟩⟩,⟨8,9,⟨false,zeroR⟩⟩]
def sL:List (Pc Hop):=[⟨0,4,⟨0,0⟩⟩,⟨5,7,⟨2,0⟩⟩,⟨8,9,⟨0,0⟩⟩]
theorem sl1:takeP lP0 sE1=(sP1,0):=by kernel_rfl
theorem sl2:takeP sP1 sE2=(sP2,0):=by kernel_rfl
theorem sl3:takeP sP2 sE3=(sP3,0):=by kernel_rfl
theorem sl4:retainP sP3 6=(sQ,0):=by kernel_rfl
theorem sl5:askV sP3 4 false ⟨0,0⟩ 0 9=0:=by kernel_rfl
theorem timesF_of_sorted {l:List Ev} {a b:Int} {d:List Int} (h:happT l a b=d) (hs:d.Pairwise (·≤·)):timesF l a b=dedup d:=by
 unfold timesF
 rw[h,sorted_eq (sortI_perm d) (sortI_sorted d) hs]
theorem sl0:timesF sP3.evs 0 9=[2,5,8]:=timesF_of_sorted (d:=[2,5,8]) (by kernel_rfl) (by decide)
theorem sl6:lineP sP3 (fun n=>heldF n 4 false ⟨0,0⟩) 0 9=sH:=by unfold lineP;rw[sl0];kernel_rfl
theorem sl7:lineP sP3 (fun n=>doesF n 4 false ⟨0,0⟩) 0 9=sL:=by unfold lineP;rw[sl0];kernel_rfl
theorem sl8:sameW sP3 4 false ⟨0,0⟩ ⟨0,1⟩ 0 9=0:=by kernel_rfl
theorem sl9:trues (lineP sP3 (fun n=>decide (doesF n 4 false ⟨0,0⟩=doesF n 4 false ⟨0,1⟩)) 0 9)=[(0,9)]:=by unfold lineP;rw[sl0];kernel_rfl
theorem sl10:askV sP3 4 false ⟨0,0⟩ 3 2=1:=by kernel_rfl
theorem sl11:askV sQ 4 false ⟨0,0⟩ 0 9=15:=by kernel_rfl
theorem sl12:askV sP3 4 false ⟨1,0⟩ 0 9=2:=by kernel_rfl
theorem sA (h l:Int) (h1:0≤h∧h≤1) (h2:0≤l∧l≤1):(Addr4.mk h l).wf:=by unfold Addr4.wf;simp only;omega
theorem sEw {e:Ev} (h:e=sE1∨e=sE2∨e=sE3):0≤e.seq∧e.pfx.addr.wf:=by rcases h with rfl|rfl|rfl<;>exact⟨by decide,sA 0 0 (by decide) (by decide)⟩
theorem sw3:sP3.wf:=⟨by intro r hr;simp[sP3]at hr,fun e he=>sEw (by simpa [sP3]using he)⟩
theorem swq:sQ.wf:=⟨by intro r hr;simp[sQ,sB]at hr;subst hr;intro q hq;simp at hq;subst hq;exact sA 0 0 (by decide) (by decide),fun e he=>sEw (by simp[sQ]at he;exact .inr (.inr he))⟩
theorem ss1:FSpec Tryz.prog 40 [lP0.av,sE1.av] [] (.tup [sP1.av,.int .i64 0]) []:=by
 have h:=takePo_spec lP0 sE1 (by intro e he;cases he) (by decide)
 rw[sl1]at h;exact h
theorem ss2:FSpec Tryz.prog 40 [sP1.av,sE2.av] [] (.tup [sP2.av,.int .i64 0]) []:=by
 have h:=takePo_spec sP1 sE2 (fun e he=>(sEw (by simp[sP1]at he;exact .inl he)).1) (by decide)
 rw[sl2]at h;exact h
theorem ss3:FSpec Tryz.prog 40 [sP2.av,sE3.av] [] (.tup [sP3.av,.int .i64 0]) []:=by
 have h:=takePo_spec sP2 sE3 (fun e he=>(sEw (by simp[sP2]at he;rcases he with he|he;exact .inl he;exact .inr (.inl he))).1) (by decide)
 rw[sl3]at h;exact h
theorem ss4:FSpec Tryz.prog 89 [sP3.av,.int .i64 6] [] (.tup [sQ.av,.int .i64 0]) []:=by
 have h:=retO_spec sP3 6 (fun e he=>(sw3.2 e he).1)
 rw[sl4]at h;exact h
theorem ss5:FSpec Tryz.prog 21 [sP3.av,.int .i64 4,.bool false,(Addr4.mk 0 0).av,.agg [.int .i64 0,.int .i64 9]] [] (.tup [.im (.sl 9 (sH.map Pc.ivHd)),.int .i64 0]) []:=by
 have h:=routesP_spec sP3 4 false ⟨0,0⟩ 0 9 sw3 (sA _ _ (by decide) (by decide))
 rw[sl5,if_pos rfl,sl6]at h;exact h
theorem ss6:FSpec Tryz.prog 23 [sP3.av,.int .i64 4,.bool false,(Addr4.mk 0 0).av,.agg [.int .i64 0,.int .i64 9]] [] (.tup [.im (.sl 4 (sL.map Pc.ivHop)),.int .i64 0]) []:=by
 have h:=hopsP_spec sP3 4 false ⟨0,0⟩ 0 9 sw3 (sA _ _ (by decide) (by decide))
 rw[sl5,if_pos rfl,sl7]at h;exact h
theorem ss7:FSpec Tryz.prog 25 [sP3.av,.int .i64 4,.bool false,(Addr4.mk 0 0).av,(Addr4.mk 0 1).av,.agg [.int .i64 0,.int .i64 9]] [] (.tup [.im (.sl 2 ([((0:Int),(9:Int))].map ivI)),.int .i64 0]) []:=by
 have h:=sameP_spec sP3 4 false ⟨0,0⟩ ⟨0,1⟩ 0 9 sw3 (sA _ _ (by decide) (by decide)) (sA _ _ (by decide) (by decide))
 rw[sl8,if_pos rfl,sl9]at h;exact h
theorem ss8:FSpec Tryz.prog 23 [sP3.av,.int .i64 4,.bool false,(Addr4.mk 0 0).av,.agg [.int .i64 3,.int .i64 2]] [] (.tup [.im (.sl 4 []),.int .i64 1]) []:=by
 have h:=hopsP_spec sP3 4 false ⟨0,0⟩ 3 2 sw3 (sA _ _ (by decide) (by decide))
 rw[sl10,if_neg (by decide)]at h;exact h
theorem ss9:FSpec Tryz.prog 23 [sQ.av,.int .i64 4,.bool false,(Addr4.mk 0 0).av,.agg [.int .i64 0,.int .i64 9]] [] (.tup [.im (.sl 4 []),.int .i64 15]) []:=by
 have h:=hopsP_spec sQ 4 false ⟨0,0⟩ 0 9 swq (sA _ _ (by decide) (by decide))
 rw[sl11,if_neg (by decide)]at h;exact h
theorem ss10:FSpec Tryz.prog 21 [sP3.av,.int .i64 4,.bool false,(Addr4.mk 1 0).av,.agg [.int .i64 0,.int .i64 9]] [] (.tup [.im (.sl 9 []),.int .i64 2]) []:=by
 have h:=routesP_spec sP3 4 false ⟨1,0⟩ 0 9 sw3 (sA _ _ (by decide) (by decide))
 rw[sl12,if_neg (by decide)]at h;exact h
set_option maxRecDepth 8000 in
set_option maxHeartbeats 4000000 in
theorem story25_spec:FSpec Tryz.prog 88 [] [] (.tup [sP3.av,.bool true]) []:=by
 have h1:=ss1
 have h2:=ss2
 have h3:=ss3
 simp[lP0,sE1,sP1,sE2,sP2,sE3,sP3,sW]at h1 h2 h3
 refine FSpec.of_flat (q:=[]) Tryz.func88 (by kernel_rfl) rfl Tryz.ntmps88 Tryz.results88 hP (by kernel_rfl) (by simp) (by first|rfl|simp) ?_
 simp -implicitDefEqProofs
 first|refine CallK.same (makePo_spec) rfl rfl ?_|refine CallQ.same (makePo_spec) rfl rfl ?_|refine CallQG.same _ (makePo_spec) rfl ?_|refine CallG.same _ (makePo_spec) rfl ?_|refine CallK.pv (makePo_spec) rfl rfl ?_
 simp -implicitDefEqProofs
 refine CallK.v0 h1 rfl (by simp) rfl ?_
 simp -implicitDefEqProofs
 refine CallK.v0 h2 rfl (by simp) rfl ?_
 simp -implicitDefEqProofs
 refine CallK.v0 h3 rfl (by simp) rfl ?_
 simp -implicitDefEqProofs [sP3,sE1,sE2,sE3,sW]
set_option maxRecDepth 8000 in
set_option maxHeartbeats 4000000 in
theorem lives25_spec:FSpec Tryz.prog 27 [] [] (.bool true) []:=by
 have h1:=story25_spec
 have h2:=ss5
 have h3:=ss6
 have h4:=ss7
 have h5:=ss8
 have h6:=ss4
 have h7:=ss9
 have h8:=ss10
 have h9:=alike25_spec sL (by decide)
 have h10:=same19_spec [(0,9)] (by decide)
 simp[sE1,sE2,sE3,sP3,sW,sH,sL,sQ,sB,zeroR]at h1 h2 h3 h4 h5 h6 h7 h8 h9 h10
 refine FSpec.of_flat (q:=[]) Tryz.func27 (by kernel_rfl) rfl Tryz.ntmps27 Tryz.results27 hP (by kernel_rfl) (by simp) (by first|rfl|simp) ?_
 simp -implicitDefEqProofs
 refine CallK.v0 h1 rfl (by simp) rfl ?_
 simp -implicitDefEqProofs
 refine CallK.v0 h2 rfl (by simp) rfl ?_
 simp -implicitDefEqProofs
 refine CallK.v0 h3 rfl (by simp) rfl ?_
 simp -implicitDefEqProofs
 refine CallK.v0 h4 rfl (by simp) rfl ?_
 simp -implicitDefEqProofs
 refine CallK.v0 h5 rfl (by simp) rfl ?_
 simp -implicitDefEqProofs
 refine CallK.v0 h6 rfl (by simp) rfl ?_
 simp -implicitDefEqProofs
 refine CallK.v0 h7 rfl (by simp) rfl ?_
 simp -implicitDefEqProofs
 refine CallK.v0 h8 rfl (by simp) rfl ?_
 simp -implicitDefEqProofs
 refine CallG.on ?_
 refine CallK.fz [3] h9 rfl (by simp) rfl ?_
 simp -implicitDefEqProofs
 refine CallG.on ?_
 refine CallK.fz [4] h10 rfl (by simp) rfl ?_
 simp -implicitDefEqProofs
end Go.Am
namespace Go.Am
open Go.Proofs
theorem boolV_arg (y:List IV) (h:Sh.hasL [.bool] y):∃t:Bool,argAV Tryz.prog 4 y=.bool t:=by
 obtain⟨a,_,rfl,ha,h⟩:=hasL_cons h
 cases hasL_nil h
 obtain⟨a,rfl⟩:=has_bool ha
 refine⟨a,?_⟩
 simp only[argAV,Tryz.underlying4]
theorem addrV_arg (y:List IV) (h:Sh.hasL addrSh y):∃a:Addr4,a.wf∧argAV Tryz.prog 25 y=a.av:=by
 obtain⟨a,ha,ea⟩:=addr_of y h
 refine⟨a,ha,?_⟩
 simp only[argAV,Tryz.underlying25,ea]
 rfl
theorem num_arg (y:List IV) (h:Sh.hasL [.int .i64] y):∃t:Int,argAV Tryz.prog 3 y=.int .i64 t:=by
 obtain⟨t,rfl⟩:=int1_of h
 refine⟨t,?_⟩
 simp only[argAV,Tryz.underlying3]
theorem ivlP_arg (y:List IV) (h:Sh.hasL ivlSh y):∃w:Int×Int,argAV Tryz.prog 53 y=.agg [.int .i64 w.1,.int .i64 w.2]:=by
 obtain⟨a,b,rfl⟩:=ivl_of h
 refine⟨(a,b),?_⟩
 simp only[argAV,Tryz.underlying53]
 rfl
theorem args_tells {xs:List (List IV)} (h:hasArgs [pastSh,[.int .i64],[.bool],addrSh,addrSh,ivlSh] xs):∃(p:Past) (r:Int) (s:Bool) (x:Addr4) (x2:Addr4) (w:Int×Int),p.wf∧x.wf∧x2.wf∧argsAV Tryz.prog [51,3,4,25,25,53] xs=[p.av,.int .i64 r,.bool s,x.av,x2.av,.agg [.int .i64 w.1,.int .i64 w.2]]:=by
 obtain⟨y0,_,rfl,g0,h⟩:=hasArgs_cons h
 obtain⟨y1,_,rfl,g1,h⟩:=hasArgs_cons h
 obtain⟨y2,_,rfl,g2,h⟩:=hasArgs_cons h
 obtain⟨y3,_,rfl,g3,h⟩:=hasArgs_cons h
 obtain⟨y4,_,rfl,g4,h⟩:=hasArgs_cons h
 obtain⟨y5,_,rfl,g5,h⟩:=hasArgs_cons h
 cases h
 obtain⟨p,h0,e0⟩:=past_arg y0 g0
 obtain⟨r,e1⟩:=num_arg y1 g1
 obtain⟨s,e2⟩:=boolV_arg y2 g2
 obtain⟨x,h3,e3⟩:=addrV_arg y3 g3
 obtain⟨x2,h4,e4⟩:=addrV_arg y4 g4
 obtain⟨w,e5⟩:=ivlP_arg y5 g5
 refine⟨p,r,s,x,x2,w,h0,h3,h4,?_⟩
 simp only[argsAV,e0,e1,e2,e3,e4,e5]
theorem args_at {xs:List (List IV)} (h:hasArgs [pastSh,[.int .i64],[.bool],addrSh,ivlSh,[.int .i64]] xs):∃(p:Past) (r:Int) (s:Bool) (x:Addr4) (w:Int×Int) (t:Int),p.wf∧x.wf∧argsAV Tryz.prog [51,3,4,25,53,2] xs=[p.av,.int .i64 r,.bool s,x.av,.agg [.int .i64 w.1,.int .i64 w.2],.int .i64 t]:=by
 obtain⟨y0,_,rfl,g0,h⟩:=hasArgs_cons h
 obtain⟨y1,_,rfl,g1,h⟩:=hasArgs_cons h
 obtain⟨y2,_,rfl,g2,h⟩:=hasArgs_cons h
 obtain⟨y3,_,rfl,g3,h⟩:=hasArgs_cons h
 obtain⟨y4,_,rfl,g4,h⟩:=hasArgs_cons h
 obtain⟨y5,_,rfl,g5,h⟩:=hasArgs_cons h
 cases h
 obtain⟨p,h0,e0⟩:=past_arg y0 g0
 obtain⟨r,e1⟩:=num_arg y1 g1
 obtain⟨s,e2⟩:=boolV_arg y2 g2
 obtain⟨x,h3,e3⟩:=addrV_arg y3 g3
 obtain⟨w,e4⟩:=ivlP_arg y4 g4
 obtain⟨t,e5⟩:=int_arg y5 g5
 refine⟨p,r,s,x,w,t,h0,h3,?_⟩
 simp only[argsAV,e0,e1,e2,e3,e4,e5]
theorem args_whole {xs:List (List IV)} (h:hasArgs [pastSh,[.int .i64],[.bool],addrSh,ivlSh] xs):∃(p:Past) (r:Int) (s:Bool) (x:Addr4) (w:Int×Int),p.wf∧x.wf∧argsAV Tryz.prog [51,3,4,25,53] xs=[p.av,.int .i64 r,.bool s,x.av,.agg [.int .i64 w.1,.int .i64 w.2]]:=by
 obtain⟨y0,_,rfl,g0,h⟩:=hasArgs_cons h
 obtain⟨y1,_,rfl,g1,h⟩:=hasArgs_cons h
 obtain⟨y2,_,rfl,g2,h⟩:=hasArgs_cons h
 obtain⟨y3,_,rfl,g3,h⟩:=hasArgs_cons h
 obtain⟨y4,_,rfl,g4,h⟩:=hasArgs_cons h
 cases h
 obtain⟨p,h0,e0⟩:=past_arg y0 g0
 obtain⟨r,e1⟩:=num_arg y1 g1
 obtain⟨s,e2⟩:=boolV_arg y2 g2
 obtain⟨x,h3,e3⟩:=addrV_arg y3 g3
 obtain⟨w,e4⟩:=ivlP_arg y4 g4
 refine⟨p,r,s,x,w,h0,h3,?_⟩
 simp only[argsAV,e0,e1,e2,e3,e4]
theorem args_part {xs:List (List IV)} (h:hasArgs [pastSh,[.int .i64],[.bool],addrSh,addrSh,ivlSh,ivlSh] xs):∃(p:Past) (r:Int) (s:Bool) (x:Addr4) (x2:Addr4) (w:Int×Int) (w2:Int×Int),p.wf∧x.wf∧x2.wf∧argsAV Tryz.prog [51,3,4,25,25,53,53] xs=[p.av,.int .i64 r,.bool s,x.av,x2.av,.agg [.int .i64 w.1,.int .i64 w.2],.agg [.int .i64 w2.1,.int .i64 w2.2]]:=by
 obtain⟨y0,_,rfl,g0,h⟩:=hasArgs_cons h
 obtain⟨y1,_,rfl,g1,h⟩:=hasArgs_cons h
 obtain⟨y2,_,rfl,g2,h⟩:=hasArgs_cons h
 obtain⟨y3,_,rfl,g3,h⟩:=hasArgs_cons h
 obtain⟨y4,_,rfl,g4,h⟩:=hasArgs_cons h
 obtain⟨y5,_,rfl,g5,h⟩:=hasArgs_cons h
 obtain⟨y6,_,rfl,g6,h⟩:=hasArgs_cons h
 cases h
 obtain⟨p,h0,e0⟩:=past_arg y0 g0
 obtain⟨r,e1⟩:=num_arg y1 g1
 obtain⟨s,e2⟩:=boolV_arg y2 g2
 obtain⟨x,h3,e3⟩:=addrV_arg y3 g3
 obtain⟨x2,h4,e4⟩:=addrV_arg y4 g4
 obtain⟨w,e5⟩:=ivlP_arg y5 g5
 obtain⟨w2,e6⟩:=ivlP_arg y6 g6
 refine⟨p,r,s,x,x2,w,w2,h0,h3,h4,?_⟩
 simp only[argsAV,e0,e1,e2,e3,e4,e5,e6]
theorem args_vsame {xs:List (List IV)} (h:hasArgs [pastSh,[.int .i64],[.bool],addrSh,addrSh,ivlSh,[.int .i64]] xs):∃(p:Past) (r:Int) (s:Bool) (x:Addr4) (x2:Addr4) (w:Int×Int) (t:Int),p.wf∧x.wf∧x2.wf∧argsAV Tryz.prog [51,3,4,25,25,53,2] xs=[p.av,.int .i64 r,.bool s,x.av,x2.av,.agg [.int .i64 w.1,.int .i64 w.2],.int .i64 t]:=by
 obtain⟨y0,_,rfl,g0,h⟩:=hasArgs_cons h
 obtain⟨y1,_,rfl,g1,h⟩:=hasArgs_cons h
 obtain⟨y2,_,rfl,g2,h⟩:=hasArgs_cons h
 obtain⟨y3,_,rfl,g3,h⟩:=hasArgs_cons h
 obtain⟨y4,_,rfl,g4,h⟩:=hasArgs_cons h
 obtain⟨y5,_,rfl,g5,h⟩:=hasArgs_cons h
 obtain⟨y6,_,rfl,g6,h⟩:=hasArgs_cons h
 cases h
 obtain⟨p,h0,e0⟩:=past_arg y0 g0
 obtain⟨r,e1⟩:=num_arg y1 g1
 obtain⟨s,e2⟩:=boolV_arg y2 g2
 obtain⟨x,h3,e3⟩:=addrV_arg y3 g3
 obtain⟨x2,h4,e4⟩:=addrV_arg y4 g4
 obtain⟨w,e5⟩:=ivlP_arg y5 g5
 obtain⟨t,e6⟩:=int_arg y6 g6
 refine⟨p,r,s,x,x2,w,t,h0,h3,h4,?_⟩
 simp only[argsAV,e0,e1,e2,e3,e4,e5,e6]
theorem lineA_len {T:Type} [DecidableEq T] (p:Past) (F:Net→T) (r:Int) (six:Bool) (x:Addr4) (a b:Int):(if askV p r six x a b=0 then lineP p F a b else[]).length≤2000:=by
 split
 ·rename_i h
  have h1:=okP_len (askV_zero h).1
  have h2:=timesF_len p.evs a b
  have h3:=lineP_len p F a b
  omega
 ·simp
theorem sameA_len (p:Past) (f:Net→Bool) (r:Int) (six:Bool) (x y:Addr4) (a b:Int):(if sameW p r six x y a b=0 then trues (lineP p f a b)else[]).length≤2000:=by
 split
 ·rename_i h
  have h0:askV p r six x a b=0:=by
   unfold sameW at h
   split at h
   ·cases h
   ·exact h
  have h1:=okP_len (askV_zero h0).1
  have h2:=timesF_len p.evs a b
  have h3:=lineP_len p f a b
  have h4:=trues_len (lineP p f a b)
  omega
 ·simp
set_option maxRecDepth 8000 in
set_option maxHeartbeats 4000000 in
theorem validTells_spec (p:Past) (r:Int) (six:Bool) (x y:Addr4) (a b:Int) (hw:p.wf) (hx:x.wf) (hy:y.wf):
  FSpec Tryz.prog 5 [p.av,.int .i64 r,.bool six,x.av,y.av,.agg [.int .i64 a,.int .i64 b]] [] (.bool true) []:=by
 have h1:=routesP_spec p r six x a b hw hx
 have h2:=routesD_spec p r six x a b hw hx
 have h3:=hopsP_spec p r six x a b hw hx
 have h4:=hopsD_spec p r six x a b hw hx
 have h5:=sameP_spec p r six x y a b hw hx hy
 have h6:=sameD_spec p r six x y a b hw hx hy
 have l1:=lineA_len p (fun n=>heldF n r six x) r six x a b
 have l2:=lineA_len p (fun n=>doesF n r six x) r six x a b
 have l3:=sameA_len p (fun n=>decide (doesF n r six x=doesF n r six y)) r six x y a b
 generalize (if askV p r six x a b=0 then lineP p (fun n=>heldF n r six x) a b else[])=L1 at*
 generalize (if askV p r six x a b=0 then lineP p (fun n=>doesF n r six x) a b else[])=L2 at*
 generalize (if sameW p r six x y a b=0 then trues (lineP p (fun n=>decide (doesF n r six x=doesF n r six y)) a b)else[])=L3 at*
 have h7:=terms_spec L1 (by omega)
 have h8:=alike25_spec L2 (by omega)
 have h9:=same19_spec L3 (by omega)
 generalize sameW p r six x y a b=W at*
 generalize askV p r six x a b=V at*
 refine FSpec.of_flat (q:=[]) Tryz.func5 (by kernel_rfl) rfl Tryz.ntmps5 Tryz.results5 hP (by kernel_rfl) (by simp) (by first|rfl|simp) ?_
 simp -implicitDefEqProofs
 refine CallK.pv h1 rfl (by simp) ?_
 simp -implicitDefEqProofs
 refine CallK.pv h2 rfl (by simp) ?_
 simp -implicitDefEqProofs
 refine CallK.pv h3 rfl (by simp) ?_
 simp -implicitDefEqProofs
 refine CallK.pv h4 rfl (by simp) ?_
 simp -implicitDefEqProofs
 refine CallK.pv h5 rfl (by simp) ?_
 simp -implicitDefEqProofs
 refine CallK.pv h6 rfl (by simp) ?_
 simp -implicitDefEqProofs
 first|refine CallK.same (lives25_spec) rfl rfl ?_|refine CallQ.same (lives25_spec) rfl rfl ?_|refine CallQG.same _ (lives25_spec) rfl ?_|refine CallG.same _ (lives25_spec) rfl ?_|refine CallK.pv (lives25_spec) rfl rfl ?_
 simp -implicitDefEqProofs
 first|refine CallG.off (.bool true) ?_|(refine CallG.on ?_;first|refine CallK.same (h7) rfl rfl ?_|refine CallQ.same (h7) rfl rfl ?_|refine CallQG.same _ (h7) rfl ?_|refine CallG.same _ (h7) rfl ?_|refine CallK.pv (h7) rfl rfl ?_)
 simp -implicitDefEqProofs
 first|refine CallG.off (.bool true) ?_|(refine CallG.on ?_;first|refine CallK.same (h8) rfl rfl ?_|refine CallQ.same (h8) rfl rfl ?_|refine CallQG.same _ (h8) rfl ?_|refine CallG.same _ (h8) rfl ?_|refine CallK.pv (h8) rfl rfl ?_)
 simp -implicitDefEqProofs
 first|refine CallG.off (.bool true) ?_|(refine CallG.on ?_;first|refine CallK.same (h9) rfl rfl ?_|refine CallQ.same (h9) rfl rfl ?_|refine CallQG.same _ (h9) rfl ?_|refine CallG.same _ (h9) rfl ?_|refine CallK.pv (h9) rfl rfl ?_)
 simp -implicitDefEqProofs
end Go.Am
namespace Go.Am
open Go.Proofs
def nxT {T:Type} (n:Int) (L:List (Pc T)):Nat→Int
 |0=>n
 |k+1=>match L[k]? with
  |some x=>x.b+1
  |none=>n
theorem nxT_cons {T:Type} (n:Int) (x:Pc T) (L:List (Pc T)):∀k,k≤L.length→nxT n (x::L) (k+1)=nxT (x.b+1) L k
 |0,_=>rfl
 |k+1,h=>by
  have hk:k<L.length:=h
  simp only[nxT,List.getElem?_cons_succ,List.getElem?_eq_getElem hk]
theorem tile_get {T:Type} [DecidableEq T]:∀{L:List (Pc T)} {n:Int} {pv:Option T} {e:Int},Tile n pv L e→
  nxT n L L.length=e∧∀k (h:k<L.length),L[k].a=nxT n L k∧L[k].a≤L[k].b∧n≤L[k].a∧L[k].b<e∧∀j z,k=j+1→L[j]? =some z→z.v≠L[k].v
 |[],n,pv,e,h=>⟨h,fun k hk=>by cases hk⟩
 |x::L,n,pv,e,h=>by
  obtain⟨h1,h2,h3,h4⟩:=h
  obtain⟨g1,g2⟩:=tile_get h4
  have hle:=h4.le
  refine⟨by rw[List.length_cons,nxT_cons _ _ _ _ (Nat.le_refl _)];exact g1,fun k hk=>?_⟩
  cases k with
  |zero=>exact⟨h1,h2,by show n≤x.a;omega,by show x.b<e;omega,fun j z hj=>by omega⟩
  |succ k=>
   have hk':k<L.length:=by simpa using hk
   obtain⟨q1,q2,q3,q4,q5⟩:=g2 k hk'
   refine⟨?_,q2,by show n≤L[k].a;omega,q4,fun j z hj hz=>?_⟩
   ·show L[k].a=_
    rw[q1,nxT_cons _ _ _ _ (by omega)]
   ·have:j=k:=by omega
    subst this
    cases j with
    |zero=>
     simp at hz
     subst hz
     cases L with
     |nil=>cases hk'
     |cons y L=>exact fun hh=>h4.2.2.1 (by rw[hh];rfl)
    |succ j=>exact q5 j z rfl (by simpa using hz)
set_option maxRecDepth 8000 in
set_option maxHeartbeats 8000000 in
theorem whole_walk (p:Past) (r:Int) (six:Bool) (x:Addr4) (a b:Int) (L:List (Pc HeldR)) (M:List (Pc Hop)) (TS:List Int) (hb:0≤a∧a≤b∧b≤1099511627776)
  (h1:FSpec Tryz.prog 21 [p.av,.int .i64 r,.bool six,x.av,.agg [.int .i64 a,.int .i64 b]] [] (.tup [.im (.sl 9 (L.map Pc.ivHd)),.int .i64 0]) [])
  (h2:FSpec Tryz.prog 23 [p.av,.int .i64 r,.bool six,x.av,.agg [.int .i64 a,.int .i64 b]] [] (.tup [.im (.sl 4 (M.map Pc.ivHop)),.int .i64 0]) [])
  (h3:FSpec Tryz.prog 31 [p.av,.agg [.int .i64 a,.int .i64 b]] [] (.tup [.im (.sl 1 (rowN TS)),.int .i64 0]) [])
  (hL:Tile a none L (b+1)) (hM:Tile a none M (b+1)) (l1:L.length≤TS.length+1) (l2:M.length≤TS.length+1) (l3:TS.length≤10000):
  FSpec Tryz.prog 6 [p.av,.int .i64 r,.bool six,x.av,.agg [.int .i64 a,.int .i64 b]] [] (.bool true) []:=by
 obtain⟨hL1,hL2⟩:=tile_get hL
 obtain⟨hM1,hM2⟩:=tile_get hM
 clear hL hM
 refine FSpec.of_flat (q:=[(12,.n 37),(20,.n 26)]) Tryz.func6 (by kernel_rfl) rfl Tryz.ntmps6 Tryz.results6 hP (by kernel_rfl) (by simp) (by first|rfl|simp) ?_
 simp -implicitDefEqProofs
 first|refine CallK.same (lives25_spec) rfl rfl ?_|refine CallQ.same (lives25_spec) rfl rfl ?_|refine CallQG.same _ (lives25_spec) rfl ?_|refine CallG.same _ (lives25_spec) rfl ?_|refine CallK.pv (lives25_spec) rfl rfl ?_
 simp -implicitDefEqProofs
 refine CallK.pv h1 rfl (by simp) ?_
 simp -implicitDefEqProofs
 refine CallK.pv h2 rfl (by simp) ?_
 simp -implicitDefEqProofs
 refine CallK.pv h3 rfl (by simp) ?_
 simp -implicitDefEqProofs
 refine LoopK.os (fun k:Nat=>[(9,.ptr 0 0),(11,.im (.sl 9 (L.map Pc.ivHd))),(13,.im (.sl 4 (M.map Pc.ivHop))),(15,.im (.sl 1 (rowN TS))),(16,.int .i64 0),(17,.int .i64 (nxT a L k)),(60,.im (.sl 9 (L.map Pc.ivHd))),(61,.int .i64 L.length),(62,.int .i64 k)])
  (fun k=>[.box 53 [.int .i64 a,.int .i64 b]])
  (fun k=>k≤L.length) (fun k=>L.length-k) 0 [2] (Nat.zero_le _) (by simp[nxT]) ?_
 intro k hk
 by_cases hlt:k<L.length
 ·have e1:IntKind.i64.wrap (k+1)=(k+1:Nat):=wrap64 (by omega) (by omega)
  obtain⟨g1,g2,g3,g4,g5⟩:=hL2 k hlt
  have hnx:nxT a L (k+1)=L[k].b+1:=by simp only[nxT,List.getElem?_eq_getElem hlt]
  obtain⟨⟨ya,yb,yv⟩,hy⟩:∃y,L[k]=y:=⟨_,rfl⟩
  rw[hy]at g1 g2 g3 g4 g5 hnx
  simp only at g1 g2 g3 g4 g5 hnx
  have e2:IntKind.i64.wrap (yb+1)=yb+1:=wrap64 (by omega) (by omega)
  have hwm:IntKind.i64.wrap (-1)= -1:=by decide
  have hyb:¬yb<ya:=by omega
  cases k with
  |zero=>
   have h0:nxT a L 0=a:=rfl
   rw[h0]at g1
   subst g1
   simp -implicitDefEqProofs [hlt,hy,hwm,hyb,h0]
   refine Again.os 1 [0] hlt (by omega) ?_
   simp -implicitDefEqProofs [e2,hnx,show IntKind.i64.wrap 1=1 by decide]
  |succ j=>
   have hjl:j<L.length:=by omega
   obtain⟨⟨za,zb,zv⟩,hz⟩:∃z,L[j]=z:=⟨_,rfl⟩
   have hne:=g5 j _ rfl (by rw[List.getElem?_eq_getElem hjl,hz])
   simp only at hne
   generalize nxT a L (j+1)=nx at*
   subst g1
   have ej:IntKind.i64.wrap (j:Int)=(j:Int):=wrap64 (by omega) (by omega)
   have hlt':(j:Int)+1<L.length:=by omega
   have hjn:0≤(j:Int)+1:=by omega
   simp -implicitDefEqProofs at e1
   by_cases hi:yv.is=zv.is
   ·have hkp:∀(_:yv.r.pfx.six=zv.r.pfx.six) (_:yv.r.pfx.addr.hi=zv.r.pfx.addr.hi) (_:yv.r.pfx.addr.lo=zv.r.pfx.addr.lo) (_:yv.r.pfx.len=zv.r.pfx.len) (_:yv.r.act.kind=zv.r.act.kind),¬yv.r.act.iface=zv.r.act.iface:=
     fun h1 h2 h3 h4 h5 h6=>hne (Hd_ext hi h1 h2 h3 h4 h5 h6).symm
    simp -implicitDefEqProofs [hlt,hlt',hjn,hy,hyb,hjl,hz,ej,hi]
    refine⟨hkp,fun _=>?_⟩
    refine Again.os (j+1+1) [0] hlt (by omega) ?_
    simp -implicitDefEqProofs [e1,e2,hnx]
   ·simp -implicitDefEqProofs [hlt,hlt',hjn,hy,hyb,hjl,hz,ej,hi]
    refine Again.os (j+1+1) [0] hlt (by omega) ?_
    simp -implicitDefEqProofs [e1,e2,hnx]
 ·have hkk:k=L.length:=by omega
  subst hkk
  rw[hL1]
  simp -implicitDefEqProofs
  refine LoopK.os (fun k:Nat=>[(9,.ptr 0 0),(11,.im (.sl 9 (L.map Pc.ivHd))),(13,.im (.sl 4 (M.map Pc.ivHop))),(15,.im (.sl 1 (rowN TS))),(16,.int .i64 0),(17,.int .i64 (b+1)),(20,.int .i64 (nxT a M k)),(114,.im (.sl 4 (M.map Pc.ivHop))),(115,.int .i64 M.length),(116,.int .i64 k)])
   (fun k=>[.box 53 [.int .i64 a,.int .i64 b]])
   (fun k=>k≤M.length) (fun k=>M.length-k) 0 [0] (Nat.zero_le _) (by simp[nxT]) ?_
  intro k hk
  by_cases hlt:k<M.length
  ·have e1:IntKind.i64.wrap (k+1)=(k+1:Nat):=wrap64 (by omega) (by omega)
   obtain⟨g1,g2,g3,g4,g5⟩:=hM2 k hlt
   have hnx:nxT a M (k+1)=M[k].b+1:=by simp only[nxT,List.getElem?_eq_getElem hlt]
   obtain⟨⟨ya,yb,yv⟩,hy⟩:∃y,M[k]=y:=⟨_,rfl⟩
   rw[hy]at g1 g2 g3 g4 g5 hnx
   simp only at g1 g2 g3 g4 g5 hnx
   have e2:IntKind.i64.wrap (yb+1)=yb+1:=wrap64 (by omega) (by omega)
   have hwm:IntKind.i64.wrap (-1)= -1:=by decide
   have hyb:¬yb<ya:=by omega
   cases k with
   |zero=>
    have h0:nxT a M 0=a:=rfl
    rw[h0]at g1
    subst g1
    simp -implicitDefEqProofs [hlt,hy,hwm,hyb,h0]
    refine Again.os 1 [0] hlt (by omega) ?_
    simp -implicitDefEqProofs [e2,hnx,show IntKind.i64.wrap 1=1 by decide]
   |succ j=>
    have hjl:j<M.length:=by omega
    obtain⟨⟨za,zb,zv⟩,hz⟩:∃z,M[j]=z:=⟨_,rfl⟩
    have hne:=g5 j _ rfl (by rw[List.getElem?_eq_getElem hjl,hz])
    simp only at hne
    generalize nxT a M (j+1)=nx at*
    subst g1
    have ej:IntKind.i64.wrap (j:Int)=(j:Int):=wrap64 (by omega) (by omega)
    have hlt':(j:Int)+1<M.length:=by omega
    have hjn:0≤(j:Int)+1:=by omega
    simp -implicitDefEqProofs at e1
    have hkp:yv.kind=zv.kind→¬yv.peer=zv.peer:=fun h1 h2=>hne (Hop_ext h1 h2).symm
    simp -implicitDefEqProofs [hlt,hlt',hjn,hy,hyb,hjl,hz,ej]
    refine⟨hkp,fun _=>?_⟩
    refine Again.os (j+1+1) [0] hlt (by omega) ?_
    simp -implicitDefEqProofs [e1,e2,hnx]
  ·have hkk:k=M.length:=by omega
   subst hkk
   rw[hM1]
   have e3:IntKind.i64.wrap (b+1)=b+1:=wrap64 (by omega) (by omega)
   have e4:IntKind.i64.wrap ((TS.length:Int)+1)=TS.length+1:=wrap64 (by omega) (by omega)
   simp -implicitDefEqProofs [e3,e4]
   exact⟨by omega,by omega⟩
theorem validWhole_spec (p:Past) (r:Int) (six:Bool) (x:Addr4) (a b:Int) (hw:p.wf) (hx:x.wf):
  FSpec Tryz.prog 6 [p.av,.int .i64 r,.bool six,x.av,.agg [.int .i64 a,.int .i64 b]] [] (.bool true) []:=by
 have h1:=routesP_spec p r six x a b hw hx
 have h2:=hopsP_spec p r six x a b hw hx
 by_cases h:askV p r six x a b=0
 ·obtain⟨hok,hr,ho,h3,h4,h5⟩:=askV_zero h
  have ho:=oneI_le ho
  rw[if_pos h,h]at h1 h2
  have h6:=timesPo_spec p a b (fun e he=>(hw.2 e he).1)
  rw[ask_timesW h,if_pos rfl]at h6
  have hl:=okP_len hok
  have hl2:=timesF_len p.evs a b
  exact whole_walk p r six x a b _ _ _ ho h1 h2 h6 (lineP_tile p _ ho.2.1) (lineP_tile p _ ho.2.1) (lineP_len p _ a b) (lineP_len p _ a b) (by omega)
 ·rw[if_neg h]at h1 h2
  generalize askV p r six x a b=V at*
  refine FSpec.of_flat (q:=[(12,.n 37),(20,.n 26)]) Tryz.func6 (by kernel_rfl) rfl Tryz.ntmps6 Tryz.results6 hP (by kernel_rfl) (by simp) (by first|rfl|simp) ?_
  simp -implicitDefEqProofs
  first|refine CallK.same (lives25_spec) rfl rfl ?_|refine CallQ.same (lives25_spec) rfl rfl ?_|refine CallQG.same _ (lives25_spec) rfl ?_|refine CallG.same _ (lives25_spec) rfl ?_|refine CallK.pv (lives25_spec) rfl rfl ?_
  simp -implicitDefEqProofs
  refine CallK.pv h1 rfl (by simp) ?_
  simp -implicitDefEqProofs
  refine CallK.pv h2 rfl (by simp) ?_
  simp -implicitDefEqProofs [h]
end Go.Am
namespace Go.Am
open Go.Proofs
theorem hopV_spec (n:Net) (x:Int) (six:Bool) (a:Addr4) (hw:n.wf) (ha:a.wf) (h1:netOk n=true) (h2:rightA six a=true):
  FSpec Tryz.prog 33 [n.av,.int .i64 x,.bool six,a.av] [] (.tup [(doesF n x six a).av,.int .i64 0]) []:=by
 have hc:=checkN_spec n
 rw[h1]at hc
 have g2:=rightA_spec six a
 rw[h2]at g2
 have hd:=doesN_spec n x six a h1 hw ha h2
 generalize doesF n x six a=D at*
 refine FSpec.of_z (q:=[]) Tryz.func33 (by kernel_rfl) rfl Tryz.ntmps33 Tryz.results33 hP (by kernel_rfl) (by simp) (by first|rfl|simp) ?_
 simp
 first|refine CallK.same (hc) rfl rfl ?_|refine CallQ.same (hc) rfl rfl ?_|refine CallQG.same _ (hc) rfl ?_|refine CallG.same _ (hc) rfl ?_|refine CallK.pv (hc) rfl rfl ?_
 simp
 first|refine CallG.off (.bool true) ?_|(refine CallG.on ?_;first|refine CallK.same (g2) rfl rfl ?_|refine CallQ.same (g2) rfl rfl ?_|refine CallQG.same _ (g2) rfl ?_|refine CallG.same _ (g2) rfl ?_|refine CallK.pv (g2) rfl rfl ?_)
 simp
 first|refine CallK.same (hd) rfl rfl ?_|refine CallQ.same (hd) rfl rfl ?_|refine CallQG.same _ (hd) rfl ?_|refine CallG.same _ (hd) rfl ?_|refine CallK.pv (hd) rfl rfl ?_
 simp
 refine EndZ.ret [] (.tup [D.av,.int .i64 0]) (by simp) ?_
 simp
theorem net0_ok:netOk net0=true:=by rfl
def atN (p:Past) (t:Int):Net:=if okP p=true∧askT p t=0 then thenF p t else net0
theorem atN_ok (p:Past) (t:Int):netOk (atN p t)=true:=by
 unfold atN
 split
 ·rename_i h;exact(thenF_all h.1 t).2.2
 ·exact net0_ok
theorem atN_wf (p:Past) (t:Int) (hw:p.wf):(atN p t).wf:=by
 unfold atN
 split
 ·exact allN_wf hw.1 fun e he=>(hw.2 e (List.mem_filter.1 he).1).2
 ·exact net0_wf
theorem netFind_spec (n:Net) (r:Int) (hok:netOk n=true):FSpec Tryz.prog 36 [n.av,.int .i64 r] [] (.tup [((routerF n.routers r).getD router0).av,.int .i64 (if(routerF n.routers r).isSome then 0 else 14)]) []:=by
 have h1:=checkN_spec n
 obtain⟨hp,hq⟩:=netOk_routers hok
 refine FSpec.of_z (q:=[]) Tryz.func36 (by kernel_rfl) rfl Tryz.ntmps36 Tryz.results36 hP (by kernel_rfl) (by simp) (by first|rfl|simp) ?_
 simp -implicitDefEqProofs
 first|refine CallK.same (h1) rfl rfl ?_|refine CallQ.same (h1) rfl rfl ?_|refine CallQG.same _ (h1) rfl ?_|refine CallG.same _ (h1) rfl ?_|refine CallK.pv (h1) rfl rfl ?_
 simp -implicitDefEqProofs [hok]
 first|refine CallK.same (place_spec n r (upT_of hp r)) rfl rfl ?_|refine CallQ.same (place_spec n r (upT_of hp r)) rfl rfl ?_|refine CallQG.same _ (place_spec n r (upT_of hp r)) rfl ?_|refine CallG.same _ (place_spec n r (upT_of hp r)) rfl ?_|refine CallK.pv (place_spec n r (upT_of hp r)) rfl rfl ?_
 simp -implicitDefEqProofs
 rw[routerF_bs hp]
 cases hb:bsF (cmpT r) n.routers with
 |false=>
  simp -implicitDefEqProofs
  refine EndZ.ret [] (.tup [.agg [.int .i64 0,.bool false,.im (.sc (.slice none 0 0)),.im (.sc (.slice none 0 0))],.int .i64 14]) (by simp) (by simp[router0])
 |true=>
  obtain⟨y,hx⟩:=bsF_lt hb
  have hlt:=(List.getElem?_eq_some_iff.1 hx).1
  have hm:=List.mem_of_getElem? hx
  have heq:=(List.getElem?_eq_some_iff.1 hx).2
  obtain⟨l1,l2⟩:=routerOk_len (hq y hm)
  have hcp:=ownF_spec y (by omega) (by omega)
  simp -implicitDefEqProofs [hx,hlt,heq]
  first|refine CallK.same (hcp) rfl rfl ?_|refine CallQ.same (hcp) rfl rfl ?_|refine CallQG.same _ (hcp) rfl ?_|refine CallG.same _ (hcp) rfl ?_|refine CallK.pv (hcp) rfl rfl ?_
  simp -implicitDefEqProofs
  refine EndZ.ret [] (.tup [y.av,.int .i64 0]) (by simp) (by simp)
set_option maxRecDepth 8000 in
set_option maxHeartbeats 2000000 in
theorem trieLong_spec (l:List Route) (six:Bool) (x:Addr4) (hlw:∀q∈l,q.pfx.addr.wf) (hcr:checkR l=0) (hx:x.wf) (hr:rightA six x=true):
  FSpec Tryz.prog 37 [.im (.sl 6 (l.map Route.iv)),.bool six,x.av] [] (.tup [(heldB (bestF six x l none)).r.av,.int .i64 (if(bestF six x l none).isSome then 0 else 3)]) []:=by
 have h1:=checkR_spec l
 have h2:=rightA_spec six x
 have hcr':checkRL l none=0:=by
  have hcr:=hcr
  unfold checkR at hcr
  split at hcr
  ·cases hcr
  ·exact hcr
 have hQ:∀q∈l,q.pfx.addr.wf∧0≤q.pfx.len∧q.pfx.len≤wideN q.pfx.six:=fun q hqm=>by
  have:=(checkRL_sorted hcr').1 q hqm
  simp[routeOk]at this
  obtain⟨h1,h2,_⟩:=checkP_len this.2
  exact⟨hlw q hqm,h1,h2⟩
 have hT:=(ofT_wt six l WT.one).1
 have hlb:=longest_best six x l hcr hlw hr
 refine FSpec.of_z (q:=[(3,.m [.p [] [],.p [] [],.e [21,22],.p [0] [],.e [23,24],.p [] [],.p [] [],.p [3] [],.a 0 2,.e [8,26]])]) Tryz.func37 (by kernel_rfl) rfl Tryz.ntmps37 Tryz.results37 hP (by kernel_rfl) (by simp) (by first|rfl|simp) ?_
 simp -implicitDefEqProofs
 first|refine CallK.same (h1) rfl rfl ?_|refine CallQ.same (h1) rfl rfl ?_|refine CallQG.same _ (h1) rfl ?_|refine CallG.same _ (h1) rfl ?_|refine CallK.pv (h1) rfl rfl ?_
 simp -implicitDefEqProofs [hcr]
 first|refine CallG.off (.bool true) ?_|(refine CallG.on ?_;first|refine CallK.same (h2) rfl rfl ?_|refine CallQ.same (h2) rfl rfl ?_|refine CallQG.same _ (h2) rfl ?_|refine CallG.same _ (h2) rfl ?_|refine CallK.pv (h2) rfl rfl ?_)
 simp -implicitDefEqProofs [hr]
 refine CallK.outs [] (of_spec l six hQ) rfl ?_ ?_ ?_
 ·simp
 ·simp[AV.flat]
 generalize hTT:ofT six l [.nd [] none]=T at*
 simp -implicitDefEqProofs [look_enumL_lt]
 refine CallO.mk [] (List.range' 3 T.length) (longest_spec six T x hT hx) List.nodup_range' ?_ ?_ ?_ ?_ ?_
 ·simp
 ·simp
 ·refine entObjs_of _ 0 fun i o' ho=>?_
  have hi:i<T.length:=by have:=(List.getElem?_eq_some_iff.1 ho).1;simpa using this
  rw[Nat.zero_add,nmOf_range' hi]
  simp only[St.freeze]
  rw[look_enumL_at _ _ _ (by simpa using hi),List.getElem?_map,ho]
  refine⟨_,rfl,?_⟩
  rw[obs_get,Option.map_eq_some_iff]at ho
  obtain⟨e,he,rfl⟩:=ho
  rw[ob_ren2 six hT he (ρ:=fun x=>x+3) (σ:=nmOf (List.range' 3 T.length) (3+T.length)) (fun k hk=>by rw[nmOf_range' hk];omega)]
  exact ob_le_ren _ _ _ _ _
 ·have hT0:0<T.length:=by obtain⟨v,hv⟩:=hT.root;exact(List.getElem?_eq_some_iff.1 hv).1
  have r0:nmOf (List.range' 3 T.length) (3+T.length) 0=3:=nmOf_range' hT0
  simp[-nmOf,r0]
 ·rw[hlb]
  generalize bestF six x l none=O
  cases O with
  |none=>
   simp -implicitDefEqProofs [look_enumX_lt,look_enumL_lt,rcO]
   refine EndZ.ret [] (.tup [zeroR.av,.int .i64 3]) (by simp[zeroR,look_enumX_lt,look_enumL_lt]) ?_
   simp -implicitDefEqProofs [heldB,zeroR]
  |some q=>
   simp -implicitDefEqProofs [look_enumX_lt,look_enumL_lt,rcO]
   refine EndZ.ret [] (.tup [q.av,.int .i64 0]) (by simp[look_enumX_lt,look_enumL_lt]) ?_
   simp -implicitDefEqProofs [heldB]
def inP {T:Type} (t:Int) (x:Pc T):Bool:=decide (x.a≤t)&&decide (t≤x.b)
theorem cnt_take {T:Type} (f:T→Bool) (l:List T) (k:Nat) (y:T) (h:l[k]? =some y):(l.take (k+1)).countP f=(l.take k).countP f+if f y=true then 1 else 0:=by
 rw[List.take_add_one,h,List.countP_append]
 simp
set_option maxRecDepth 8000 in
set_option maxHeartbeats 8000000 in
theorem at_some (p:Past) (r:Int) (six:Bool) (x:Addr4) (a b t:Int) (L:List (Pc HeldR)) (M:List (Pc Hop)) (N:Net) (R:Router) (Q:Route) (H:Hop) (hat:a≤t) (htb:t≤b) (l1:L.length≤2000) (l2:M.length≤2000)
  (h1:FSpec Tryz.prog 21 [p.av,.int .i64 r,.bool six,x.av,.agg [.int .i64 a,.int .i64 b]] [] (.tup [.im (.sl 9 (L.map Pc.ivHd)),.int .i64 0]) [])
  (h2:FSpec Tryz.prog 23 [p.av,.int .i64 r,.bool six,x.av,.agg [.int .i64 a,.int .i64 b]] [] (.tup [.im (.sl 4 (M.map Pc.ivHop)),.int .i64 0]) [])
  (h3:FSpec Tryz.prog 34 [p.av,.int .i64 t] [] (.tup [N.av,.int .i64 0]) [])
  (h4:FSpec Tryz.prog 33 [N.av,.int .i64 r,.bool six,x.av] [] (.tup [H.av,.int .i64 0]) [])
  (h5:FSpec Tryz.prog 36 [N.av,.int .i64 r] [] (.tup [R.av,.int .i64 0]) [])
  (h6:FSpec Tryz.prog 37 [.im (.sl 6 (R.routes.map Route.iv)),.bool six,x.av] [] (.tup [Q.av,.int .i64 0]) [])
  (hL:∀(k:Nat) (y:Pc HeldR),L[k]? =some y→y.a≤t→t≤y.b→y.v=⟨true,Q⟩) (hM:∀(k:Nat) (y:Pc Hop),M[k]? =some y→y.a≤t→t≤y.b→y.v=H) (cL:L.countP (inP t)=1) (cM:M.countP (inP t)=1):
  FSpec Tryz.prog 9 [p.av,.int .i64 r,.bool six,x.av,.agg [.int .i64 a,.int .i64 b],.int .i64 t] [] (.bool true) []:=by
 have hat':¬t<a:=by omega
 have htb':¬b<t:=by omega
 refine FSpec.of_flat (q:=[]) Tryz.func9 (by kernel_rfl) rfl Tryz.ntmps9 Tryz.results9 hP (by kernel_rfl) (by simp) (by first|rfl|simp) ?_
 simp -implicitDefEqProofs
 first|refine CallK.same (lives25_spec) rfl rfl ?_|refine CallQ.same (lives25_spec) rfl rfl ?_|refine CallQG.same _ (lives25_spec) rfl ?_|refine CallG.same _ (lives25_spec) rfl ?_|refine CallK.pv (lives25_spec) rfl rfl ?_
 simp -implicitDefEqProofs
 refine CallK.pv h1 rfl (by simp) ?_
 simp -implicitDefEqProofs
 refine CallK.pv h2 rfl (by simp) ?_
 simp -implicitDefEqProofs [hat',htb']
 refine CallK.pv h3 rfl (by simp) ?_
 simp -implicitDefEqProofs
 refine CallK.pv h4 rfl (by simp) ?_
 simp -implicitDefEqProofs
 refine CallK.pv h5 rfl (by simp) ?_
 simp -implicitDefEqProofs
 refine CallK.pv h6 rfl (by simp) ?_
 simp -implicitDefEqProofs
 refine LoopK.os (fun k:Nat=>[(5,.int .i64 t),(15,.im (.sl 4 (M.map Pc.ivHop))),(19,.ptr 0 0),(23,.ptr 1 0),(25,.bool true),(26,.int .i64 ((L.take k).countP (inP t))),(118,.im (.sl 9 (L.map Pc.ivHd))),(119,.int .i64 L.length),(120,.int .i64 k)])
  (fun _=>[.box 81 [.int .u8 H.kind,.int .i64 H.peer],.box 76 (Q.iv.map .im)])
  (fun k=>k≤L.length) (fun k=>L.length-k) 0 [4,6] (Nat.zero_le _) (by simp) ?_
 intro k hk
 by_cases hlt:k<L.length
 ·have e1:IntKind.i64.wrap (k+1)=(k+1:Nat):=wrap64 (by omega) (by omega)
  obtain⟨⟨ya,yb,yv⟩,hy⟩:∃y,L[k]=y:=⟨_,rfl⟩
  have hyk:L[k]? =some ⟨ya,yb,yv⟩:=by rw[List.getElem?_eq_getElem hlt,hy]
  have hct:=cnt_take (inP t) L k _ hyk
  have hcl:(L.take k).countP (inP t)≤2000:=Nat.le_trans List.countP_le_length (by rw[List.length_take];omega)
  generalize (L.take k).countP (inP t)=C at*
  have ec:IntKind.i64.wrap ((C:Int)+1)=C+1:=wrap64 (by omega) (by omega)
  by_cases hin:ya≤t∧t≤yb
  ·have hv:=hL k _ hyk hin.1 hin.2
   simp only at hv
   rw[if_pos (by simp[inP,hin.1,hin.2])]at hct
   subst hv
   simp -implicitDefEqProofs [hlt,hy,hin.1,hin.2]
   refine Again.os (k+1) [0,1] hlt (by omega) ?_
   simp -implicitDefEqProofs [e1,ec,hct]
  ·rw[if_neg (by simp[inP];omega)]at hct
   simp -implicitDefEqProofs [hlt,hy]
   refine⟨fun q1 q2=>absurd ⟨q1,q2⟩ hin,fun _=>?_⟩
   refine Again.os (k+1) [0,1] hlt (by omega) ?_
   simp -implicitDefEqProofs [e1,hct]
 ·have hkk:k=L.length:=by omega
  subst hkk
  rw[List.take_length,cL]
  simp -implicitDefEqProofs
  refine LoopK.os (fun k:Nat=>[(5,.int .i64 t),(19,.ptr 0 0),(26,.int .i64 (1+(M.take k).countP (inP t))),(152,.im (.sl 4 (M.map Pc.ivHop))),(153,.int .i64 M.length),(154,.int .i64 k)])
   (fun _=>[.box 81 [.int .u8 H.kind,.int .i64 H.peer]])
   (fun k=>k≤M.length) (fun k=>M.length-k) 0 [0] (Nat.zero_le _) (by simp) ?_
  intro k hk
  by_cases hlt:k<M.length
  ·have e1:IntKind.i64.wrap (k+1)=(k+1:Nat):=wrap64 (by omega) (by omega)
   obtain⟨⟨ya,yb,yv⟩,hy⟩:∃y,M[k]=y:=⟨_,rfl⟩
   have hyk:M[k]? =some ⟨ya,yb,yv⟩:=by rw[List.getElem?_eq_getElem hlt,hy]
   have hct:=cnt_take (inP t) M k _ hyk
   have hcl:(M.take k).countP (inP t)≤2000:=Nat.le_trans List.countP_le_length (by rw[List.length_take];omega)
   generalize (M.take k).countP (inP t)=C at*
   have ec:IntKind.i64.wrap (1+(C:Int)+1)=1+(C+1):=by rw[wrap64 (by omega) (by omega)];omega
   by_cases hin:ya≤t∧t≤yb
   ·have hv:=hM k _ hyk hin.1 hin.2
    simp only at hv
    rw[if_pos (by simp[inP,hin.1,hin.2])]at hct
    subst hv
    simp -implicitDefEqProofs [hlt,hy,hin.1,hin.2]
    refine Again.os (k+1) [0] hlt (by omega) ?_
    simp -implicitDefEqProofs [e1,ec,hct]
   ·rw[if_neg (by simp[inP];omega)]at hct
    simp -implicitDefEqProofs [hlt,hy]
    refine⟨fun q1 q2=>absurd ⟨q1,q2⟩ hin,fun _=>?_⟩
    refine Again.os (k+1) [0] hlt (by omega) ?_
    simp -implicitDefEqProofs [e1,hct]
  ·have hkk:k=M.length:=by omega
   subst hkk
   rw[List.take_length,cM]
   simp -implicitDefEqProofs
set_option maxRecDepth 8000 in
set_option maxHeartbeats 8000000 in
theorem at_none (p:Past) (r:Int) (six:Bool) (x:Addr4) (a b t:Int) (L:List (Pc HeldR)) (M:List (Pc Hop)) (N:Net) (R:Router) (Q:Route) (H:Hop) (hat:a≤t) (htb:t≤b) (l1:L.length≤2000) (l2:M.length≤2000)
  (h1:FSpec Tryz.prog 21 [p.av,.int .i64 r,.bool six,x.av,.agg [.int .i64 a,.int .i64 b]] [] (.tup [.im (.sl 9 (L.map Pc.ivHd)),.int .i64 0]) [])
  (h2:FSpec Tryz.prog 23 [p.av,.int .i64 r,.bool six,x.av,.agg [.int .i64 a,.int .i64 b]] [] (.tup [.im (.sl 4 (M.map Pc.ivHop)),.int .i64 0]) [])
  (h3:FSpec Tryz.prog 34 [p.av,.int .i64 t] [] (.tup [N.av,.int .i64 0]) [])
  (h4:FSpec Tryz.prog 33 [N.av,.int .i64 r,.bool six,x.av] [] (.tup [H.av,.int .i64 0]) [])
  (W5:Int) (h5:FSpec Tryz.prog 36 [N.av,.int .i64 r] [] (.tup [R.av,.int .i64 W5]) [])
  (h6:FSpec Tryz.prog 37 [.im (.sl 6 (R.routes.map Route.iv)),.bool six,x.av] [] (.tup [Q.av,.int .i64 3]) [])
  (hL:∀(k:Nat) (y:Pc HeldR),L[k]? =some y→y.a≤t→t≤y.b→y.v.is=false) (hM:∀(k:Nat) (y:Pc Hop),M[k]? =some y→y.a≤t→t≤y.b→y.v=H) (cL:L.countP (inP t)=1) (cM:M.countP (inP t)=1):
  FSpec Tryz.prog 9 [p.av,.int .i64 r,.bool six,x.av,.agg [.int .i64 a,.int .i64 b],.int .i64 t] [] (.bool true) []:=by
 have hat':¬t<a:=by omega
 have htb':¬b<t:=by omega
 refine FSpec.of_flat (q:=[]) Tryz.func9 (by kernel_rfl) rfl Tryz.ntmps9 Tryz.results9 hP (by kernel_rfl) (by simp) (by first|rfl|simp) ?_
 simp -implicitDefEqProofs
 first|refine CallK.same (lives25_spec) rfl rfl ?_|refine CallQ.same (lives25_spec) rfl rfl ?_|refine CallQG.same _ (lives25_spec) rfl ?_|refine CallG.same _ (lives25_spec) rfl ?_|refine CallK.pv (lives25_spec) rfl rfl ?_
 simp -implicitDefEqProofs
 refine CallK.pv h1 rfl (by simp) ?_
 simp -implicitDefEqProofs
 refine CallK.pv h2 rfl (by simp) ?_
 simp -implicitDefEqProofs [hat',htb']
 refine CallK.pv h3 rfl (by simp) ?_
 simp -implicitDefEqProofs
 refine CallK.pv h4 rfl (by simp) ?_
 simp -implicitDefEqProofs
 refine CallK.pv h5 rfl (by simp) ?_
 simp -implicitDefEqProofs
 refine CallK.pv h6 rfl (by simp) ?_
 simp -implicitDefEqProofs
 refine LoopK.os (fun k:Nat=>[(5,.int .i64 t),(15,.im (.sl 4 (M.map Pc.ivHop))),(19,.ptr 0 0),(23,.ptr 1 0),(25,.bool false),(26,.int .i64 ((L.take k).countP (inP t))),(118,.im (.sl 9 (L.map Pc.ivHd))),(119,.int .i64 L.length),(120,.int .i64 k)])
  (fun _=>[.box 81 [.int .u8 H.kind,.int .i64 H.peer],.box 76 (Q.iv.map .im)])
  (fun k=>k≤L.length) (fun k=>L.length-k) 0 [4,6] (Nat.zero_le _) (by simp) ?_
 intro k hk
 by_cases hlt:k<L.length
 ·have e1:IntKind.i64.wrap (k+1)=(k+1:Nat):=wrap64 (by omega) (by omega)
  obtain⟨⟨ya,yb,yv⟩,hy⟩:∃y,L[k]=y:=⟨_,rfl⟩
  have hyk:L[k]? =some ⟨ya,yb,yv⟩:=by rw[List.getElem?_eq_getElem hlt,hy]
  have hct:=cnt_take (inP t) L k _ hyk
  have hcl:(L.take k).countP (inP t)≤2000:=Nat.le_trans List.countP_le_length (by rw[List.length_take];omega)
  generalize (L.take k).countP (inP t)=C at*
  have ec:IntKind.i64.wrap ((C:Int)+1)=C+1:=wrap64 (by omega) (by omega)
  by_cases hin:ya≤t∧t≤yb
  ·have hv:=hL k _ hyk hin.1 hin.2
   simp only at hv
   rw[if_pos (by simp[inP,hin.1,hin.2])]at hct
   skip
   simp -implicitDefEqProofs [hlt,hy,hin.1,hin.2,hv]
   refine Again.os (k+1) [0,1] hlt (by omega) ?_
   simp -implicitDefEqProofs [e1,ec,hct]
  ·rw[if_neg (by simp[inP];omega)]at hct
   simp -implicitDefEqProofs [hlt,hy]
   refine⟨fun q1 q2=>absurd ⟨q1,q2⟩ hin,fun _=>?_⟩
   refine Again.os (k+1) [0,1] hlt (by omega) ?_
   simp -implicitDefEqProofs [e1,hct]
 ·have hkk:k=L.length:=by omega
  subst hkk
  rw[List.take_length,cL]
  simp -implicitDefEqProofs
  refine LoopK.os (fun k:Nat=>[(5,.int .i64 t),(19,.ptr 0 0),(26,.int .i64 (1+(M.take k).countP (inP t))),(152,.im (.sl 4 (M.map Pc.ivHop))),(153,.int .i64 M.length),(154,.int .i64 k)])
   (fun _=>[.box 81 [.int .u8 H.kind,.int .i64 H.peer]])
   (fun k=>k≤M.length) (fun k=>M.length-k) 0 [0] (Nat.zero_le _) (by simp) ?_
  intro k hk
  by_cases hlt:k<M.length
  ·have e1:IntKind.i64.wrap (k+1)=(k+1:Nat):=wrap64 (by omega) (by omega)
   obtain⟨⟨ya,yb,yv⟩,hy⟩:∃y,M[k]=y:=⟨_,rfl⟩
   have hyk:M[k]? =some ⟨ya,yb,yv⟩:=by rw[List.getElem?_eq_getElem hlt,hy]
   have hct:=cnt_take (inP t) M k _ hyk
   have hcl:(M.take k).countP (inP t)≤2000:=Nat.le_trans List.countP_le_length (by rw[List.length_take];omega)
   generalize (M.take k).countP (inP t)=C at*
   have ec:IntKind.i64.wrap (1+(C:Int)+1)=1+(C+1):=by rw[wrap64 (by omega) (by omega)];omega
   by_cases hin:ya≤t∧t≤yb
   ·have hv:=hM k _ hyk hin.1 hin.2
    simp only at hv
    rw[if_pos (by simp[inP,hin.1,hin.2])]at hct
    subst hv
    simp -implicitDefEqProofs [hlt,hy,hin.1,hin.2]
    refine Again.os (k+1) [0] hlt (by omega) ?_
    simp -implicitDefEqProofs [e1,ec,hct]
   ·rw[if_neg (by simp[inP];omega)]at hct
    simp -implicitDefEqProofs [hlt,hy]
    refine⟨fun q1 q2=>absurd ⟨q1,q2⟩ hin,fun _=>?_⟩
    refine Again.os (k+1) [0] hlt (by omega) ?_
    simp -implicitDefEqProofs [e1,hct]
  ·have hkk:k=M.length:=by omega
   subst hkk
   rw[List.take_length,cM]
   simp -implicitDefEqProofs
theorem validAt_spec (p:Past) (r:Int) (six:Bool) (x:Addr4) (a b t:Int) (hw:p.wf) (hx:x.wf):
  FSpec Tryz.prog 9 [p.av,.int .i64 r,.bool six,x.av,.agg [.int .i64 a,.int .i64 b],.int .i64 t] [] (.bool true) []:=by
 have h1:=routesP_spec p r six x a b hw hx
 have h2:=hopsP_spec p r six x a b hw hx
 by_cases h:askV p r six x a b=0
 ·obtain⟨hok,hr,ho,h3,h4,h5⟩:=askV_zero h
  obtain⟨h0,hab,hb⟩:=oneI_le ho
  rw[if_pos h,h]at h1 h2
  by_cases hin:a≤t∧t≤b
  ·obtain⟨hat,htb⟩:=hin
   have hask:askT p t=0:=by
    unfold askT
    rw[if_neg (by omega),if_neg (by omega)]
   have g3:=atO_spec p t (fun e he=>(hw.2 e he).1)
   rw[if_pos ⟨hok,hask⟩,if_pos hok,hask]at g3
   have hNw:(thenF p t).wf:=allN_wf hw.1 fun e he=>(hw.2 e (List.mem_filter.1 he).1).2
   have hNok:=(thenF_all hok t).2.2
   have g4:=hopV_spec _ r six x hNw hx hNok hr
   have g5:=netFind_spec _ r hNok
   have hT1:=lineP_tile p (fun n=>heldF n r six x) hab
   have hT2:=lineP_tile p (fun n=>doesF n r six x) hab
   have hV1:=lineP_val p (fun n=>heldF n r six x) hab
   have hV2:=lineP_val p (fun n=>doesF n r six x) hab
   have hl1:=lineP_len p (fun n=>heldF n r six x) a b
   have hl2:=lineP_len p (fun n=>doesF n r six x) a b
   have hev:=okP_len hok
   have htl:=timesF_len p.evs a b
   have c1:=hT1.count t
   have c2:=hT2.count t
   rw[if_pos ⟨hat,by omega⟩]at c1 c2
   have v1:∀(k:Nat) (y:Pc HeldR),(lineP p (fun n=>heldF n r six x) a b)[k]? =some y→y.a≤t→t≤y.b→y.v=heldF (thenF p t) r six x:=fun k y hk q1 q2=>(hV1 y (List.mem_of_getElem? hk) t q1 q2).symm
   have v2:∀(k:Nat) (y:Pc Hop),(lineP p (fun n=>doesF n r six x) a b)[k]? =some y→y.a≤t→t≤y.b→y.v=doesF (thenF p t) r six x:=fun k y hk q1 q2=>(hV2 y (List.mem_of_getElem? hk) t q1 q2).symm
   obtain⟨y,hy,hyw,hcr,hF⟩:∃y,(routerF (thenF p t).routers r).getD router0=y∧(∀q∈y.routes,q.pfx.addr.wf)∧checkR y.routes=0∧heldF (thenF p t) r six x=heldB (bestF six x y.routes none):=by
    refine⟨_,rfl,?_⟩
    unfold heldF
    cases hb:routerF (thenF p t).routers r with
    |none=>exact⟨fun q hq=>(by simp[router0]at hq),rfl,rfl⟩
    |some y=>
     have hm:y∈(thenF p t).routers:=List.mem_of_find?_eq_some hb
     have hok:=(netOk_routers hNok).2 y hm
     unfold routerOk at hok
     simp only[Bool.and_eq_true,beq_iff_eq]at hok
     exact⟨hNw y hm,hok.1.2,rfl⟩
   have g6:=trieLong_spec y.routes six x hyw hcr hx hr
   rw[hF]at v1
   rw[hy]at g5
   cases hO:bestF six x y.routes none with
   |none=>
    rw[hO]at g6 v1
    exact at_none p r six x a b t _ _ _ y _ _ hat htb (by omega) (by omega) h1 h2 g3 g4 _ g5 g6 (fun k z hk q1 q2=>by rw[v1 k z hk q1 q2];rfl) v2 c1 c2
   |some q=>
    rw[hO]at g6 v1
    have hs:(routerF (thenF p t).routers r).isSome=true:=by
     cases hb:routerF (thenF p t).routers r with
     |some _=>rfl
     |none=>
      rw[hb]at hy
      have:y.routes=[]:=by rw[←hy];rfl
      rw[this]at hO
      cases hO
    rw[hs]at g5
    exact at_some p r six x a b t _ _ _ y q _ hat htb (by omega) (by omega) h1 h2 g3 g4 g5 g6 (fun k z hk q1 q2=>v1 k z hk q1 q2) v2 c1 c2
  ·refine FSpec.of_flat (q:=[]) Tryz.func9 (by kernel_rfl) rfl Tryz.ntmps9 Tryz.results9 hP (by kernel_rfl) (by simp) (by first|rfl|simp) ?_
   simp -implicitDefEqProofs
   first|refine CallK.same (lives25_spec) rfl rfl ?_|refine CallQ.same (lives25_spec) rfl rfl ?_|refine CallQG.same _ (lives25_spec) rfl ?_|refine CallG.same _ (lives25_spec) rfl ?_|refine CallK.pv (lives25_spec) rfl rfl ?_
   simp -implicitDefEqProofs
   refine CallK.pv h1 rfl (by simp) ?_
   simp -implicitDefEqProofs
   refine CallK.pv h2 rfl (by simp) ?_
   simp -implicitDefEqProofs
   exact fun q1 q2=>absurd ⟨q1,q2⟩ hin
 ·rw[if_neg h]at h1 h2
  generalize askV p r six x a b=V at*
  refine FSpec.of_flat (q:=[]) Tryz.func9 (by kernel_rfl) rfl Tryz.ntmps9 Tryz.results9 hP (by kernel_rfl) (by simp) (by first|rfl|simp) ?_
  simp -implicitDefEqProofs
  first|refine CallK.same (lives25_spec) rfl rfl ?_|refine CallQ.same (lives25_spec) rfl rfl ?_|refine CallQG.same _ (lives25_spec) rfl ?_|refine CallG.same _ (lives25_spec) rfl ?_|refine CallK.pv (lives25_spec) rfl rfl ?_
  simp -implicitDefEqProofs
  refine CallK.pv h1 rfl (by simp) ?_
  simp -implicitDefEqProofs
  refine CallK.pv h2 rfl (by simp) ?_
  simp -implicitDefEqProofs [h,show IntKind.i64.wrap 0=0 by decide]
end Go.Am
namespace Go.Am
def atI (t:Int) (x:Ivl):Bool:=decide (x.1≤t)&&decide (t≤x.2)
theorem any_below {t:Int}:∀{l:List (Pc Bool)} {n:Int} {pv:Option Bool} {e:Int},Tile n pv l e→t<n→(trues l).any (atI t)=false
 |[],n,pv,e,h,ht=>rfl
 |x::l,n,pv,e,h,ht=>by
  obtain⟨h1,h2,h3,h4⟩:=h
  have ih:=any_below h4 (by omega:t<x.b+1)
  unfold trues at ih⊢
  rw[List.filterMap_cons]
  split
  ·exact ih
  ·rename_i q hq
   split at hq
   ·cases hq
    rw[List.any_cons,ih]
    simp[atI]
    omega
   ·cases hq
theorem any_trues {g:Int→Bool} {t:Int}:∀{l:List (Pc Bool)} {n:Int} {pv:Option Bool} {e:Int},Tile n pv l e→PcVal g l→n≤t→(trues l).any (atI t)=(decide (t<e)&&g t)
 |[],n,pv,e,h,hv,ht=>by
  have h:n=e:=h
  have:¬t<e:=by omega
  simp[trues,this]
 |x::l,n,pv,e,h,hv,ht=>by
  obtain⟨h1,h2,h3,h4⟩:=h
  have hle:=h4.le
  have hsp:trues (x::l)=(if x.v=true then[(x.a,x.b)]else[])++trues l:=by rw[←trues_one x.a x.b x.v,←trues_app];rfl
  rw[hsp,List.any_append]
  by_cases hin:t≤x.b
  ·have hg:=hv x List.mem_cons_self t (by omega) hin
   have hb:=any_below h4 (by omega:t<x.b+1)
   have hte:t<e:=by omega
   rw[hb,hg]
   cases x.v with
   |false=>simp
   |true=>simp[atI,hte];omega
  ·have ih:=any_trues h4 (fun y hy=>hv y (List.mem_cons_of_mem _ hy)) (by omega:x.b+1≤t)
   rw[ih]
   cases x.v with
   |false=>simp
   |true=>
    have:atI t (x.a,x.b)=false:=by simp[atI];omega
    simp[this]
theorem line_true (p:Past) {a b:Int} (hab:a≤b) (f:Net→Bool) (hf:∀n,f n=true):lineP p f a b=[⟨a,b,true⟩]:=by
 refine(lineP_tile p f hab).uniq ⟨rfl,hab,by simp,rfl⟩ (lineP_val p f hab) fun x hx t h1 h2=>?_
 rw[List.mem_singleton]at hx
 subst hx
 exact hf _
theorem trues_sound:∀{l:List (Pc Bool)} {n:Int} {pv:Option Bool} {e:Int} {q:Option Int},Tile n pv l e→0≤n→e≤1099511627777→(∀z,q=some z→z<n∧(z+1<n∨pv=some true))→soundI (trues l) q=true
 |[],n,pv,e,q,h,_,_,_=>rfl
 |x::l,n,pv,e,q,h,h0,he,hq=>by
  obtain⟨h1,h2,h3,h4⟩:=h
  have hle:=h4.le
  have hsp:trues (x::l)=(if x.v=true then[(x.a,x.b)]else[])++trues l:=by rw[←trues_one x.a x.b x.v,←trues_app];rfl
  rw[hsp]
  by_cases hv:x.v=true
  ·rw[if_pos hv,List.singleton_append,soundI]
   have ih:=trues_sound (q:=some x.b) h4 (by omega) he (fun z hz=>by
    cases hz
    exact⟨by omega,.inr (by rw[hv])⟩)
   rw[ih]
   have ha:aheadI q (x.a,x.b)=true:=by
    cases q with
    |none=>rfl
    |some z=>
     obtain⟨k1,k2⟩:=hq z rfl
     simp only[aheadI]
     rcases k2 with k2|k2
     ·simp;omega
     ·exact absurd (by rw[k2,hv]) h3
   rw[ha]
   simp
   omega
  ·rw[if_neg hv,List.nil_append]
   refine trues_sound h4 (by omega) he fun z hz=>?_
   obtain⟨k1,_⟩:=hq z hz
   exact⟨by omega,.inl (by omega)⟩
theorem trues_half:∀{l:List (Pc Bool)} {n:Int} {pv:Option Bool} {e:Int},Tile n pv l e→2*(trues l).length≤l.length+(if pv=some true then 0 else 1)
 |[],n,pv,e,h=>by simp[trues]
 |x::l,n,pv,e,h=>by
  obtain⟨h1,h2,h3,h4⟩:=h
  have ih:=trues_half h4
  have hsp:trues (x::l)=(if x.v=true then[(x.a,x.b)]else[])++trues l:=by rw[←trues_one x.a x.b x.v,←trues_app];rfl
  rw[hsp,List.length_append]
  by_cases hv:x.v=true
  ·rw[hv,if_pos rfl]at ih
   rw[if_pos hv]
   have:pv≠some true:=fun hh=>h3 (by rw[hh,hv])
   rw[if_neg this]
   simp
   omega
  ·rw[if_neg hv]
   rw[if_neg (by simp[hv])]at ih
   simp
   split<;>omega
theorem trues_check (p:Past) (f:Net→Bool) {a b:Int} (h0:0≤a) (hab:a≤b) (hb:b≤1099511627776) (hl:p.evs.length≤1024):checkI (trues (lineP p f a b))=0:=by
 have ht:=lineP_tile p f hab
 have h1:=trues_sound (q:=none) ht h0 (by omega) (fun z hz=>by cases hz)
 have h2:=trues_half ht
 have h3:=lineP_len p f a b
 have h4:(timesF p.evs a b).length≤p.evs.length:=by
  unfold timesF
  have h1:=dedup_len (sortI (happT p.evs a b))
  rw[(sortI_perm _).length_eq]at h1
  have h2:=happT_len p.evs a b
  omega
 unfold checkI
 rw[if_neg]
 rw[if_neg (by simp)]at h2
 rintro(h|h)
 ·omega
 ·rw[h1]at h;cases h
def meetI (l m:List Ivl) (acc:List Ivl):List Ivl:=
 match l,m with
 |x::l,y::m=>if x.2≤y.2 then meetI l (y::m) (if(if x.1<y.1 then y.1 else x.1)≤(if y.2<x.2 then y.2 else x.2)then acc++[(if x.1<y.1 then y.1 else x.1,if y.2<x.2 then y.2 else x.2)]else acc)
  else meetI (x::l) m (if(if x.1<y.1 then y.1 else x.1)≤(if y.2<x.2 then y.2 else x.2)then acc++[(if x.1<y.1 then y.1 else x.1,if y.2<x.2 then y.2 else x.2)]else acc)
 |_,_=>acc
termination_by l.length+m.length
theorem meetI_l (m acc:List Ivl):meetI [] m acc=acc:=by rw[meetI];intro x l y m h1;cases h1
theorem meetI_r (l acc:List Ivl):meetI l [] acc=acc:=by rw[meetI];intro x l y m _ h1;cases h1
def cutI (c d:Int) (x:Ivl):Option Ivl:=if max x.1 c≤min x.2 d then some (max x.1 c,min x.2 d)else none
theorem meet_one (c d:Int):∀(l acc:List Ivl),l.Pairwise (fun x y=>x.2<y.1)→meetI l [(c,d)] acc=acc++l.filterMap (cutI c d)
 |[],acc,_=>by rw[meetI_l];simp
 |x::l,acc,h=>by
  obtain⟨h1,h2⟩:=List.pairwise_cons.1 h
  have e1:(if x.1<c then c else x.1)=max x.1 c:=by omega
  have e2:(if d<x.2 then d else x.2)=min x.2 d:=by omega
  rw[meetI]
  simp only[e1,e2]
  have hacc:(if max x.1 c≤min x.2 d then acc++[(max x.1 c,min x.2 d)]else acc)=acc++(cutI c d x).toList:=by
   unfold cutI
   split<;>simp
  rw[hacc,List.filterMap_cons]
  by_cases hx:x.2≤d
  ·rw[if_pos hx,meet_one c d l _ h2]
   cases cutI c d x<;>simp
  ·rw[if_neg hx,meetI_r]
   have hn:l.filterMap (cutI c d)=[]:=by
    rw[List.filterMap_eq_nil_iff]
    intro y hy
    have:=h1 y hy
    unfold cutI
    rw[if_neg (by omega)]
   rw[hn]
   cases cutI c d x<;>simp
theorem trues_after:∀{l:List (Pc Bool)} {n:Int} {pv:Option Bool} {e:Int},Tile n pv l e→(trues l).Pairwise (fun x y=>x.2<y.1)∧∀y∈trues l,n≤y.1
 |[],n,pv,e,h=>⟨List.Pairwise.nil,fun y hy=>by cases hy⟩
 |x::l,n,pv,e,h=>by
  obtain⟨h1,h2,h3,h4⟩:=h
  obtain⟨g1,g2⟩:=trues_after h4
  have hsp:trues (x::l)=(if x.v=true then[(x.a,x.b)]else[])++trues l:=by rw[←trues_one x.a x.b x.v,←trues_app];rfl
  rw[hsp]
  by_cases hv:x.v=true
  ·rw[if_pos hv,List.singleton_append]
   refine⟨List.Pairwise.cons (fun y hy=>?_) g1,fun y hy=>?_⟩
   ·have:=g2 y hy
    show x.b<y.1
    omega
   ·rcases List.mem_cons.1 hy with rfl|hy
    ·show n≤x.a;omega
    ·have:=g2 y hy;omega
  ·rw[if_neg hv,List.nil_append]
   exact⟨g1,fun y hy=>by have:=g2 y hy;omega⟩
theorem trues_cut (c d:Int):∀l:List (Pc Bool),trues (cutL c d l)=(trues l).filterMap (cutI c d)
 |[]=>rfl
 |x::l=>by
  have ih:=trues_cut c d l
  have hsp:trues (x::l)=(if x.v=true then[(x.a,x.b)]else[])++trues l:=by rw[←trues_one x.a x.b x.v,←trues_app];rfl
  have hcp:cutL c d (x::l)=(if max x.a c≤min x.b d then[⟨max x.a c,min x.b d,x.v⟩]else[])++cutL c d l:=by
   unfold cutL
   rw[List.filterMap_cons]
   by_cases h:max x.a c≤min x.b d
   ·rw[if_pos h,if_pos h];rfl
   ·rw[if_neg h,if_neg h];rfl
  rw[hcp,hsp,trues_app,ih,List.filterMap_append]
  congr 1
  by_cases hv:x.v=true
  ·rw[if_pos hv]
   by_cases h:max x.a c≤min x.b d
   ·rw[if_pos h,trues_one,if_pos hv]
    simp[cutI,h]
   ·rw[if_neg h]
    simp[cutI,h,trues]
  ·rw[if_neg hv]
   by_cases h:max x.a c≤min x.b d
   ·rw[if_pos h,trues_one,if_neg hv];rfl
   ·rw[if_neg h];rfl
theorem meet_part (p:Past) (f:Net→Bool) {a b c d:Int} (hac:a≤c) (hcd:c≤d) (hdb:d≤b):meetI (trues (lineP p f a b)) [(c,d)] []=trues (lineP p f c d):=by
 rw[meet_one c d _ _ (trues_after (lineP_tile p f (show a≤b by omega))).1,List.nil_append,←trues_cut,lineP_part p f hac hcd hdb]
end Go.Am
namespace Go.Am
open Go.Proofs
def idxI (t:Int):List Ivl→Int→Int
 |[],_=> -1
 |x::l,k=>if atI t x=true then k else idxI t l (k+1)
theorem idxI_any (t:Int):∀(l:List Ivl) (k:Int),0≤k→l.any (atI t)=decide (0≤idxI t l k)
 |[],k,_=>by simp[idxI]
 |x::l,k,hk=>by
  rw[idxI,List.any_cons]
  by_cases h:atI t x=true
  ·rw[if_pos h,h];simp[hk]
  ·rw[if_neg h,←idxI_any t l (k+1) (by omega)];simp[h]
theorem has1I_spec (x:Ivl) (t:Int):FSpec Tryz.prog 99 [.agg [.int .i64 x.1,.int .i64 x.2],.ptr 0 0] [.box 2 [.int .i64 t]] (.bool (atI t x)) [.box 2 [.int .i64 t]]:=by
 refine FSpec.of_o (q:=[]) Tryz.func99 (by kernel_rfl) rfl Tryz.ntmps99 Tryz.results99 hP (by kernel_rfl) (by simp) (by first|rfl|simp) ?_
 simp
 refine EndO.ret [] [0] (.bool (atI t x)) (by simp[atI,pk]) ?_
 simp
theorem indexH_spec (l:List Ivl) (t:Int) (hl:l.length≤100000):
  FSpec Tryz.prog 171 [.im (.sl 2 (l.map ivI)),.fn 99 [.ptr 0 0]] [.box 2 [.int .i64 t]] (.int .i64 (idxI t l 0)) [.box 2 [.int .i64 t]]:=by
 refine FSpec.of_o (q:=[]) Tryz.func171 (by kernel_rfl) rfl Tryz.ntmps171 Tryz.results171 hP (by kernel_rfl) (by simp) (by first|rfl|simp) ?_
 simp
 refine LoopK.os (fun k:Nat=>[(0,.im (.sl 2 (l.map ivI))),(1,.fn 99 [.ptr 0 0]),(7,.int .i64 l.length),(8,.int .i64 k)])
  (fun _=>[.box 2 [.int .i64 t]])
  (fun k=>k≤l.length∧idxI t (l.drop k) k=idxI t l 0) (fun k=>l.length-k) 0 [0] ⟨Nat.zero_le _,by simp⟩ (by simp) ?_
 rintro k ⟨hk,hR⟩
 by_cases hlt:k<l.length
 ·have e1:IntKind.i64.wrap (k+1)=(k+1:Nat):=wrap64 (by omega) (by omega)
  rw[List.drop_eq_getElem_cons hlt,idxI]at hR
  obtain⟨y,hy⟩:∃y,l[k]=y:=⟨_,rfl⟩
  rw[hy]at hR
  simp -implicitDefEqProofs [hlt,e1,hy]
  refine CallO.mk [] [0] (has1I_spec y t) (by simp) rfl (by simp) (by simp) (by simp) ?_
  simp -implicitDefEqProofs
  refine⟨fun h=>?_,fun h=>?_⟩
  ·rw[if_pos h]at hR
   refine EndO.ret [] [0] _ rfl ?_
   simp[←hR]
  ·rw[if_neg (by simp[h])]at hR
   refine Again.os (k+1) [0] ⟨hlt,by simpa using hR⟩ (by omega) ?_
   simp[e1]
 ·have hkk:k=l.length:=by omega
  subst hkk
  rw[List.drop_length,idxI]at hR
  simp
  refine EndO.ret [] [0] _ rfl ?_
  simp[←hR]
theorem containsH_spec (l:List Ivl) (t:Int) (hl:l.length≤100000):
  FSpec Tryz.prog 98 [.im (.sl 2 (l.map ivI)),.fn 99 [.ptr 0 0]] [.box 2 [.int .i64 t]] (.bool (l.any (atI t))) [.box 2 [.int .i64 t]]:=by
 rw[idxI_any t l 0 (Int.le_refl _)]
 refine FSpec.of_o (q:=[]) Tryz.func98 (by kernel_rfl) rfl Tryz.ntmps98 Tryz.results98 hP (by kernel_rfl) (by simp) (by first|rfl|simp) ?_
 simp
 refine CallO.mk [] [0] (indexH_spec l t hl) (by simp) rfl (by simp) (by simp) (by simp) ?_
 simp
 refine EndO.ret [] [0] (.bool (decide (0≤idxI t l 0))) (by simp) ?_
 simp
theorem checkI_len {l:List Ivl} (h:checkI l=0):l.length≤1024:=by
 unfold checkI at h
 split at h
 ·cases h
 ·omega
theorem hasI_spec (l:List Ivl) (t:Int):FSpec Tryz.prog 35 [.im (.sl 2 (l.map ivI)),.int .i64 t] [] (.tup [.bool (decide (checkI l=0)&&l.any (atI t)),.int .i64 (checkI l)]) []:=by
 have h1:=checkI_spec l
 refine FSpec.of_z (q:=[]) Tryz.func35 (by kernel_rfl) rfl Tryz.ntmps35 Tryz.results35 hP (by kernel_rfl) (by simp) (by first|rfl|simp) ?_
 simp
 first|refine CallK.same (h1) rfl rfl ?_|refine CallQ.same (h1) rfl rfl ?_|refine CallQG.same _ (h1) rfl ?_|refine CallG.same _ (h1) rfl ?_|refine CallK.pv (h1) rfl rfl ?_
 simp
 refine⟨fun h=>?_,fun h=>?_⟩
 ·refine EndZ.ret [] (.tup [.bool false,.int .i64 (checkI l)]) (by simp) (by simp[h])
 ·have hl:=checkI_len h
  refine CallO.mk [] [0] (containsH_spec l t (by omega)) (by simp) rfl (by simp) (by simp) (by simp) ?_
  simp
  refine EndZ.ret [] (.tup [.bool (l.any (atI t)),.int .i64 0]) (by simp) (by simp[h])
theorem rows2_spec (l m:List Ivl):FSpec Tryz.prog 106 [.im (.sl 1 [[.sl 2 (l.map ivI)],[.sl 2 (m.map ivI)]])] [] (.int .i64 (if checkI l=0 then checkI m else checkI l)) []:=by
 have h1:=checkI_spec l
 have h2:=checkI_spec m
 generalize checkI l=C at*
 generalize checkI m=D at*
 refine FSpec.of_flat (q:=[]) Tryz.func106 (by kernel_rfl) rfl Tryz.ntmps106 Tryz.results106 hP (by kernel_rfl) (by simp) (by first|rfl|simp) ?_
 simp -implicitDefEqProofs
 refine LoopK.plain (fun k:Nat=>[(6,.im (.sl 1 [[.sl 2 (l.map ivI)],[.sl 2 (m.map ivI)]])),(7,.int .i64 2),(8,.int .i64 k)])
  (fun k=>k≤2∧(0<k→C=0)∧(1<k→D=0)) (fun k=>2-k) 0 ⟨Nat.zero_le _,fun h=>by omega,fun h=>by omega⟩ (by simp) ?_
 rintro k ⟨hk,g1,g2⟩
 have hc:k=0∨k=1∨k=2:=by omega
 rcases hc with rfl|rfl|rfl
 ·simp -implicitDefEqProofs
  first|refine CallK.same (h1) rfl rfl ?_|refine CallQ.same (h1) rfl rfl ?_|refine CallQG.same _ (h1) rfl ?_|refine CallG.same _ (h1) rfl ?_|refine CallK.pv (h1) rfl rfl ?_
  simp -implicitDefEqProofs
  refine⟨fun h=>by simp[h],fun h=>?_⟩
  refine Again.plain 1 ⟨by omega,fun _=>h,fun h=>by omega⟩ (by omega) (by simp;decide)
 ·have hC:=g1 (by omega)
  simp -implicitDefEqProofs
  first|refine CallK.same (h2) rfl rfl ?_|refine CallQ.same (h2) rfl rfl ?_|refine CallQG.same _ (h2) rfl ?_|refine CallG.same _ (h2) rfl ?_|refine CallK.pv (h2) rfl rfl ?_
  simp -implicitDefEqProofs
  refine⟨fun h=>by simp[hC],fun h=>?_⟩
  refine Again.plain 2 ⟨by omega,fun _=>hC,fun _=>h⟩ (by omega) (by simp;decide)
 ·have hC:=g1 (by omega)
  have hD:=g2 (by omega)
  simp -implicitDefEqProofs [hC,hD]
theorem cmpI_neg' (a b:Int):(cmpI a b<0)=(a<b):=by
 unfold cmpI
 apply propext
 repeat' split
 all_goals omega
theorem cmpI_le (a b:Int):(cmpI a b≤0)=(a≤b):=by
 unfold cmpI
 apply propext
 repeat' split
 all_goals omega
set_option maxRecDepth 8000 in
set_option maxHeartbeats 2000000 in
theorem toldI_spec (l:List Ivl) (hl:l.length≤1024):FSpec Tryz.prog 107 [.im (.sl 2 (l.map ivI))] [] (.tup [.im (.sl 2 (l.map ivI)),.int .i64 0]) []:=by
 refine FSpec.of_z (q:=[]) Tryz.func107 (by kernel_rfl) rfl Tryz.ntmps107 Tryz.results107 hP (by kernel_rfl) (by simp) (by first|rfl|simp) ?_
 have hl':¬(1024:Int)<l.length:=by omega
 simp -implicitDefEqProofs [hl']
 refine LoopK.nil (.sl 4 53 2) ?_
 simp -implicitDefEqProofs
 refine LoopK.os (fun k:Nat=>[(4,.row 0),(10,.im (.sl 2 (l.map ivI))),(11,.int .i64 l.length),(12,.int .i64 k)])
  (fun k=>[.row 53 2 ((l.take k).map ivI)])
  (fun k=>k≤l.length) (fun k=>l.length-k) 0 [0] (Nat.zero_le _) (by simp) ?_
 intro k hk
 by_cases hlt:k<l.length
 ·have e1:IntKind.i64.wrap (k+1)=(k+1:Nat):=wrap64 (by omega) (by omega)
  have ht:l.take (k+1)=l.take k++[l[k]]:=by rw[List.take_add_one,List.getElem?_eq_getElem hlt];rfl
  obtain⟨y,hy⟩:∃y,l[k]=y:=⟨_,rfl⟩
  rw[hy]at ht
  have ht2:=congrArg (List.map ivI) ht
  simp at ht2
  simp -implicitDefEqProofs [hlt,hy]
  refine⟨⟨by omega,by unfold maxLen;omega⟩,?_⟩
  refine Again.os (k+1) [3] hlt (by omega) ?_
  simp -implicitDefEqProofs [e1,ht2]
 ·have hkk:k=l.length:=by omega
  subst hkk
  simp -implicitDefEqProofs
  refine EndZ.ret [0] (.tup [.row 0,.int .i64 0]) (by simp) (by simp)
theorem meetI_cons (x:Ivl) (l:List Ivl) (y:Ivl) (m acc:List Ivl):∃F T:Int,(if x.1<y.1 then y.1 else x.1)=F∧(if y.2<x.2 then y.2 else x.2)=T∧
  meetI (x::l) (y::m) acc=meetI (if x.2≤y.2 then l else x::l) (if x.2≤y.2 then y::m else m) (if F≤T then acc++[(F,T)]else acc):=by
 refine⟨_,_,rfl,rfl,?_⟩
 rw[meetI]
 by_cases h:x.2≤y.2
 ·simp only[h,if_true]
 ·simp only[h,if_false]
set_option maxRecDepth 8000 in
set_option maxHeartbeats 4000000 in
theorem meetI_spec (l m:List Ivl) (hl:l.length≤1024) (hm:m.length≤1024):
  FSpec Tryz.prog 108 [fieldI,.im (.sl 2 (l.map ivI)),.im (.sl 2 (m.map ivI))] [] (.im (.sl 2 ((meetI l m []).map ivI))) []:=by
 refine FSpec.of_z (q:=[(3,.m [.p [] [],.p [] [],.p [] [],.p [] [],.p [] [],.p [] [],.p [] [],.p [] [],.p [] [],.a 0 0]),(4,.n 8),(6,.n 10)]) Tryz.func108 (by kernel_rfl) rfl Tryz.ntmps108 Tryz.results108 hP (by kernel_rfl) (by simp) (by first|rfl|simp) ?_
 simp -implicitDefEqProofs
 refine LoopK.nil (.sl 7 308 2) ?_
 simp -implicitDefEqProofs
 refine LoopK.os (fun g:List Ivl×List Ivl×List Ivl=>[(1,.im (.sl 2 (g.1.map ivI))),(2,.im (.sl 2 (g.2.1.map ivI))),(3,.ptr 0 0),(7,.row 1)])
  (fun g=>[.box 225 [.int .i64 0,.int .i64 1099511627776,.fn 179 [],.fn 180 [],.fn 181 []],.row 308 2 (g.2.2.map ivI)])
  (fun g=>g.1.length+g.2.1.length+g.2.2.length≤2048∧g.1.length≤1024∧g.2.1.length≤1024∧meetI g.1 g.2.1 g.2.2=meetI l m []) (fun g=>g.1.length+g.2.1.length) (l,m,[]) [0,1] ⟨by simp only[List.length_nil];omega,hl,hm,rfl⟩ (by simp) ?_
 rintro⟨A,B,acc⟩ ⟨hn,hA,hB,hR⟩
 simp only at hn hA hB hR
 cases A with
 |nil=>
  rw[meetI_l]at hR
  simp -implicitDefEqProofs
  refine EndZ.ret [1] (.row 1) (by simp) (by simp[hR])
 |cons x A=>
  cases B with
  |nil=>
   rw[meetI_r]at hR
   simp -implicitDefEqProofs
   refine EndZ.ret [1] (.row 1) (by simp) (by simp[hR])
  |cons y B=>
   obtain⟨F,T,hF,hT,hst⟩:=meetI_cons x A y B acc
   rw[hst]at hR
   simp only[List.length_cons]at hn hA hB
   have c1:=cmp64_spec x.1 y.1
   have c2:=cmp64_spec x.2 y.2
   have htA:(A.map ivI).take A.length=A.map ivI:=List.take_of_length_le (by simp)
   have htB:(B.map ivI).take B.length=B.map ivI:=List.take_of_length_le (by simp)
   by_cases h1:x.1<y.1
   ·rw[if_pos h1]at hF
    subst hF
    by_cases h2:x.2≤y.2
    ·have h2n:¬y.2<x.2:=by omega
     rw[if_neg h2n]at hT
     subst hT
     rw[if_pos h2,if_pos h2]at hR
     simp -implicitDefEqProofs
     first|refine CallK.same (c1) rfl rfl ?_|refine CallQ.same (c1) rfl rfl ?_|refine CallQG.same _ (c1) rfl ?_|refine CallG.same _ (c1) rfl ?_|refine CallK.pv (c1) rfl rfl ?_
     simp -implicitDefEqProofs [cmpI_neg',h1]
     first|refine CallK.same (c2) rfl rfl ?_|refine CallQ.same (c2) rfl rfl ?_|refine CallQG.same _ (c2) rfl ?_|refine CallG.same _ (c2) rfl ?_|refine CallK.pv (c2) rfl rfl ?_
     simp -implicitDefEqProofs [cmpI_pos,cmpI_le,h2,h2n]
     first|refine CallK.same (cmp64_spec _ _) rfl rfl ?_|refine CallQ.same (cmp64_spec _ _) rfl rfl ?_|refine CallQG.same _ (cmp64_spec _ _) rfl ?_|refine CallG.same _ (cmp64_spec _ _) rfl ?_|refine CallK.pv (cmp64_spec _ _) rfl rfl ?_
     simp -implicitDefEqProofs [cmpI_le,h2,h2n]
     refine⟨fun h3=>⟨⟨by omega,by unfold maxLen;omega⟩,?_⟩,fun h3=>?_⟩
     ·rw[if_pos h3]at hR
      refine⟨by omega,?_⟩
      refine Again.os (A,y::B,acc++[(y.1,x.2)]) [0,4] ⟨by simp;omega,by simp;omega,by simp;omega,hR⟩ (by simp) ?_
      simp -implicitDefEqProofs [htA,htB]
     ·rw[if_neg (by omega)]at hR
      refine⟨by omega,?_⟩
      refine Again.os (A,y::B,acc) [0,1] ⟨by simp;omega,by simp;omega,by simp;omega,hR⟩ (by simp) ?_
      simp -implicitDefEqProofs [htA,htB]
    ·have h2n:y.2<x.2:=by omega
     rw[if_pos h2n]at hT
     subst hT
     rw[if_neg h2,if_neg h2]at hR
     simp -implicitDefEqProofs
     first|refine CallK.same (c1) rfl rfl ?_|refine CallQ.same (c1) rfl rfl ?_|refine CallQG.same _ (c1) rfl ?_|refine CallG.same _ (c1) rfl ?_|refine CallK.pv (c1) rfl rfl ?_
     simp -implicitDefEqProofs [cmpI_neg',h1]
     first|refine CallK.same (c2) rfl rfl ?_|refine CallQ.same (c2) rfl rfl ?_|refine CallQG.same _ (c2) rfl ?_|refine CallG.same _ (c2) rfl ?_|refine CallK.pv (c2) rfl rfl ?_
     simp -implicitDefEqProofs [cmpI_pos,cmpI_le,h2,h2n]
     first|refine CallK.same (cmp64_spec _ _) rfl rfl ?_|refine CallQ.same (cmp64_spec _ _) rfl rfl ?_|refine CallQG.same _ (cmp64_spec _ _) rfl ?_|refine CallG.same _ (cmp64_spec _ _) rfl ?_|refine CallK.pv (cmp64_spec _ _) rfl rfl ?_
     simp -implicitDefEqProofs [cmpI_le,h2,h2n]
     refine⟨fun h3=>⟨⟨by omega,by unfold maxLen;omega⟩,?_⟩,fun h3=>?_⟩
     ·rw[if_pos h3]at hR
      refine⟨by omega,?_⟩
      refine Again.os (x::A,B,acc++[(y.1,y.2)]) [0,4] ⟨by simp;omega,by simp;omega,by simp;omega,hR⟩ (by simp) ?_
      simp -implicitDefEqProofs [htA,htB]
     ·rw[if_neg (by omega)]at hR
      refine⟨by omega,?_⟩
      refine Again.os (x::A,B,acc) [0,1] ⟨by simp;omega,by simp;omega,by simp;omega,hR⟩ (by simp) ?_
      simp -implicitDefEqProofs [htA,htB]
   ·rw[if_neg h1]at hF
    subst hF
    by_cases h2:x.2≤y.2
    ·have h2n:¬y.2<x.2:=by omega
     rw[if_neg h2n]at hT
     subst hT
     rw[if_pos h2,if_pos h2]at hR
     simp -implicitDefEqProofs
     first|refine CallK.same (c1) rfl rfl ?_|refine CallQ.same (c1) rfl rfl ?_|refine CallQG.same _ (c1) rfl ?_|refine CallG.same _ (c1) rfl ?_|refine CallK.pv (c1) rfl rfl ?_
     simp -implicitDefEqProofs [cmpI_neg',h1]
     first|refine CallK.same (c2) rfl rfl ?_|refine CallQ.same (c2) rfl rfl ?_|refine CallQG.same _ (c2) rfl ?_|refine CallG.same _ (c2) rfl ?_|refine CallK.pv (c2) rfl rfl ?_
     simp -implicitDefEqProofs [cmpI_pos,cmpI_le,h2,h2n]
     first|refine CallK.same (cmp64_spec _ _) rfl rfl ?_|refine CallQ.same (cmp64_spec _ _) rfl rfl ?_|refine CallQG.same _ (cmp64_spec _ _) rfl ?_|refine CallG.same _ (cmp64_spec _ _) rfl ?_|refine CallK.pv (cmp64_spec _ _) rfl rfl ?_
     simp -implicitDefEqProofs [cmpI_le,h2,h2n]
     refine⟨fun h3=>⟨⟨by omega,by unfold maxLen;omega⟩,?_⟩,fun h3=>?_⟩
     ·rw[if_pos h3]at hR
      refine⟨by omega,?_⟩
      refine Again.os (A,y::B,acc++[(x.1,x.2)]) [0,4] ⟨by simp;omega,by simp;omega,by simp;omega,hR⟩ (by simp) ?_
      simp -implicitDefEqProofs [htA,htB]
     ·rw[if_neg (by omega)]at hR
      refine⟨by omega,?_⟩
      refine Again.os (A,y::B,acc) [0,1] ⟨by simp;omega,by simp;omega,by simp;omega,hR⟩ (by simp) ?_
      simp -implicitDefEqProofs [htA,htB]
    ·have h2n:y.2<x.2:=by omega
     rw[if_pos h2n]at hT
     subst hT
     rw[if_neg h2,if_neg h2]at hR
     simp -implicitDefEqProofs
     first|refine CallK.same (c1) rfl rfl ?_|refine CallQ.same (c1) rfl rfl ?_|refine CallQG.same _ (c1) rfl ?_|refine CallG.same _ (c1) rfl ?_|refine CallK.pv (c1) rfl rfl ?_
     simp -implicitDefEqProofs [cmpI_neg',h1]
     first|refine CallK.same (c2) rfl rfl ?_|refine CallQ.same (c2) rfl rfl ?_|refine CallQG.same _ (c2) rfl ?_|refine CallG.same _ (c2) rfl ?_|refine CallK.pv (c2) rfl rfl ?_
     simp -implicitDefEqProofs [cmpI_pos,cmpI_le,h2,h2n]
     first|refine CallK.same (cmp64_spec _ _) rfl rfl ?_|refine CallQ.same (cmp64_spec _ _) rfl rfl ?_|refine CallQG.same _ (cmp64_spec _ _) rfl ?_|refine CallG.same _ (cmp64_spec _ _) rfl ?_|refine CallK.pv (cmp64_spec _ _) rfl rfl ?_
     simp -implicitDefEqProofs [cmpI_le,h2,h2n]
     refine⟨fun h3=>⟨⟨by omega,by unfold maxLen;omega⟩,?_⟩,fun h3=>?_⟩
     ·rw[if_pos h3]at hR
      refine⟨by omega,?_⟩
      refine Again.os (x::A,B,acc++[(x.1,y.2)]) [0,4] ⟨by simp;omega,by simp;omega,by simp;omega,hR⟩ (by simp) ?_
      simp -implicitDefEqProofs [htA,htB]
     ·rw[if_neg (by omega)]at hR
      refine⟨by omega,?_⟩
      refine Again.os (x::A,B,acc) [0,1] ⟨by simp;omega,by simp;omega,by simp;omega,hR⟩ (by simp) ?_
      simp -implicitDefEqProofs [htA,htB]
theorem andI_spec (l m:List Ivl) (h1:checkI l=0) (h2:checkI m=0) (hr:(meetI l m []).length≤1024):
  FSpec Tryz.prog 39 [.im (.sl 2 (l.map ivI)),.im (.sl 2 (m.map ivI))] [] (.tup [.im (.sl 2 ((meetI l m []).map ivI)),.int .i64 0]) []:=by
 have g1:=rows2_spec l m
 rw[if_pos h1,h2]at g1
 have l1:=checkI_len h1
 have l2:=checkI_len h2
 have g2:=runsI_spec l (by omega)
 have g3:=runsI_spec m (by omega)
 have g4:=meetI_spec l m l1 l2
 have g5:=toldI_spec _ hr
 generalize meetI l m []=R at*
 refine FSpec.of_z (q:=[]) Tryz.func39 (by kernel_rfl) rfl Tryz.ntmps39 Tryz.results39 hP (by kernel_rfl) (by simp) (by first|rfl|simp) ?_
 simp -implicitDefEqProofs
 refine CallK.fz [0] g1 rfl (by simp) rfl ?_
 simp -implicitDefEqProofs
 first|refine CallK.same (timesI_spec) rfl rfl ?_|refine CallQ.same (timesI_spec) rfl rfl ?_|refine CallQG.same _ (timesI_spec) rfl ?_|refine CallG.same _ (timesI_spec) rfl ?_|refine CallK.pv (timesI_spec) rfl rfl ?_
 simp -implicitDefEqProofs
 refine CallK.pv g2 rfl (by simp) ?_
 simp -implicitDefEqProofs
 refine CallK.pv g3 rfl (by simp) ?_
 simp -implicitDefEqProofs
 refine CallK.pv g4 rfl (by simp) ?_
 simp -implicitDefEqProofs
 refine CallK.pv g5 rfl (by simp) ?_
 simp -implicitDefEqProofs
 refine EndZ.ret [] (.tup [.im (.sl 2 (R.map ivI)),.int .i64 0]) (by simp) (by simp)
end Go.Am
namespace Go.Am
open Go.Proofs
theorem sameW_zero {p:Past} {r:Int} {six:Bool} {x y:Addr4} {a b:Int} (h:sameW p r six x y a b=0):askV p r six x a b=0∧rightA six y=true:=by
 unfold sameW at h
 split at h
 ·cases h
 ·rename_i h1
  exact⟨h,by simpa using h1⟩
set_option maxRecDepth 8000 in
set_option maxHeartbeats 4000000 in
theorem vsame_off (p:Past) (r:Int) (six:Bool) (x y:Addr4) (a b t:Int) (V U:Int) (O:List (Int×Int)) (hV:¬V=0)
  (h1:FSpec Tryz.prog 25 [p.av,.int .i64 r,.bool six,x.av,y.av,.agg [.int .i64 a,.int .i64 b]] [] (.tup [.im (.sl 2 []),.int .i64 V]) [])
  (h2:FSpec Tryz.prog 25 [p.av,.int .i64 r,.bool six,x.av,x.av,.agg [.int .i64 a,.int .i64 b]] [] (.tup [.im (.sl 2 (O.map ivI)),.int .i64 U]) []):
  FSpec Tryz.prog 8 [p.av,.int .i64 r,.bool six,x.av,y.av,.agg [.int .i64 a,.int .i64 b],.int .i64 t] [] (.bool true) []:=by
 refine FSpec.of_flat (q:=[]) Tryz.func8 (by kernel_rfl) rfl Tryz.ntmps8 Tryz.results8 hP (by kernel_rfl) (by simp) (by first|rfl|simp) ?_
 simp -implicitDefEqProofs
 first|refine CallK.same (lives25_spec) rfl rfl ?_|refine CallQ.same (lives25_spec) rfl rfl ?_|refine CallQG.same _ (lives25_spec) rfl ?_|refine CallG.same _ (lives25_spec) rfl ?_|refine CallK.pv (lives25_spec) rfl rfl ?_
 simp -implicitDefEqProofs
 refine CallK.pv h1 rfl (by simp) ?_
 simp -implicitDefEqProofs
 refine CallK.pv h2 rfl (by simp) ?_
 simp -implicitDefEqProofs [hV]
set_option maxRecDepth 8000 in
set_option maxHeartbeats 4000000 in
theorem vsame_on (p:Past) (r:Int) (six:Bool) (x y:Addr4) (a b t:Int) (W:Int) (S:List (Int×Int)) (N:Net) (H G:Hop) (is:Bool)
  (h1:FSpec Tryz.prog 25 [p.av,.int .i64 r,.bool six,x.av,y.av,.agg [.int .i64 a,.int .i64 b]] [] (.tup [.im (.sl 2 (S.map ivI)),.int .i64 0]) [])
  (h2:FSpec Tryz.prog 25 [p.av,.int .i64 r,.bool six,x.av,x.av,.agg [.int .i64 a,.int .i64 b]] [] (.tup [.im (.sl 2 ([(a,b)].map ivI)),.int .i64 0]) [])
  (h3:FSpec Tryz.prog 34 [p.av,.int .i64 t] [] (.tup [N.av,.int .i64 W]) [])
  (h4:FSpec Tryz.prog 33 [N.av,.int .i64 r,.bool six,x.av] [] (.tup [H.av,.int .i64 0]) [])
  (h5:FSpec Tryz.prog 33 [N.av,.int .i64 r,.bool six,y.av] [] (.tup [G.av,.int .i64 0]) [])
  (h6:FSpec Tryz.prog 35 [.im (.sl 2 (S.map ivI)),.int .i64 t] [] (.tup [.bool is,.int .i64 0]) [])
  (hin:a≤t→t≤b→W=0∧is=(H.kind==G.kind&&H.peer==G.peer)) (hout:(t<a∨b<t)→is=false):
  FSpec Tryz.prog 8 [p.av,.int .i64 r,.bool six,x.av,y.av,.agg [.int .i64 a,.int .i64 b],.int .i64 t] [] (.bool true) []:=by
 have h7:=same19_spec [(a,b)] (by simp)
 refine FSpec.of_flat (q:=[]) Tryz.func8 (by kernel_rfl) rfl Tryz.ntmps8 Tryz.results8 hP (by kernel_rfl) (by simp) (by first|rfl|simp) ?_
 simp -implicitDefEqProofs
 first|refine CallK.same (lives25_spec) rfl rfl ?_|refine CallQ.same (lives25_spec) rfl rfl ?_|refine CallQG.same _ (lives25_spec) rfl ?_|refine CallG.same _ (lives25_spec) rfl ?_|refine CallK.pv (lives25_spec) rfl rfl ?_
 simp -implicitDefEqProofs
 refine CallK.pv h1 rfl (by simp) ?_
 simp -implicitDefEqProofs
 refine CallK.pv h2 rfl (by simp) ?_
 simp -implicitDefEqProofs
 refine CallK.pv h3 rfl (by simp) ?_
 simp -implicitDefEqProofs
 refine CallK.pv h4 rfl (by simp) ?_
 simp -implicitDefEqProofs
 refine CallK.pv h5 rfl (by simp) ?_
 simp -implicitDefEqProofs
 refine CallK.pv h6 rfl (by simp) ?_
 simp -implicitDefEqProofs
 refine CallK.fz [7] h7 rfl (by simp) rfl ?_
 by_cases hr:a≤t∧t≤b
 ·obtain⟨q1,q2⟩:=hr
  obtain⟨rfl,rfl⟩:=hin q1 q2
  have n1:¬t<a:=by omega
  have n2:¬b<t:=by omega
  simp -implicitDefEqProofs [n1,n2]
 ·have hf:=hout (by omega)
  subst hf
  by_cases n1:t<a
  ·simp -implicitDefEqProofs [n1]
  ·have n2:b<t:=by omega
   simp -implicitDefEqProofs [n1,n2]
theorem validSame_spec (p:Past) (r:Int) (six:Bool) (x y:Addr4) (a b t:Int) (hw:p.wf) (hx:x.wf) (hy:y.wf):
  FSpec Tryz.prog 8 [p.av,.int .i64 r,.bool six,x.av,y.av,.agg [.int .i64 a,.int .i64 b],.int .i64 t] [] (.bool true) []:=by
 have h1:=sameP_spec p r six x y a b hw hx hy
 have h2:=sameP_spec p r six x x a b hw hx hx
 by_cases h:sameW p r six x y a b=0
 ·obtain⟨hA,hry⟩:=sameW_zero h
  obtain⟨hok,hr,ho,h3,h4,h5⟩:=askV_zero hA
  obtain⟨h0,hab,hb⟩:=oneI_le ho
  have hs2:sameW p r six x x a b=0:=by unfold sameW;rw[if_neg (by simp[hr])];exact hA
  rw[if_pos h,h]at h1
  rw[if_pos hs2,hs2,line_true p hab _ (fun n=>by simp),trues_one,if_pos rfl]at h2
  have g3:=atO_spec p t (fun e he=>(hw.2 e he).1)
  have g6:=hasI_spec (trues (lineP p (fun n=>decide (doesF n r six x=doesF n r six y)) a b)) t
  rw[trues_check p _ h0 hab hb (okP_len hok),decide_eq_true rfl,Bool.true_and]at g6
  have hT:=lineP_tile p (fun n=>decide (doesF n r six x=doesF n r six y)) hab
  have hV:=lineP_val p (fun n=>decide (doesF n r six x=doesF n r six y)) hab
  refine vsame_on p r six x y a b t _ _ (atN p t) _ _ _ h1 h2 g3 (hopV_spec _ r six x (atN_wf p t hw) hx (atN_ok p t) hr) (hopV_spec _ r six y (atN_wf p t hw) hy (atN_ok p t) hry) g6 (fun ha hbt=>?_) (fun hout=>?_)
  ·have hask:askT p t=0:=by
    unfold askT
    rw[if_neg (by omega),if_neg (by omega)]
   refine⟨by rw[if_pos hok,hask],?_⟩
   rw[any_trues hT hV ha]
   unfold atN
   rw[if_pos ⟨hok,hask⟩]
   have:t<b+1:=by omega
   simp only[this,decide_true,Bool.true_and]
   rw[Bool.eq_iff_iff]
   simp
   exact⟨fun h=>by rw[h];exact⟨rfl,rfl⟩,fun h=>Hop_ext h.1 h.2⟩
  ·rcases hout with h|h
   ·exact any_below hT h
   ·rw[any_trues hT hV (by omega)]
    have:¬t<b+1:=by omega
    simp[this]
 ·rw[if_neg h]at h1
  exact vsame_off p r six x y a b t _ _ _ h h1 h2
end Go.Am
namespace Go.Am
open Go.Proofs
theorem checkI_one (c d:Int):checkI [(c,d)]=if oneI c d=true then 0 else 2:=by
 unfold checkI oneI
 simp[soundI,aheadI]
 by_cases h:(0≤c∧c≤d)∧d≤1099511627776
 ·rw[if_pos h,if_neg]
  intro hh
  have:=hh h.1.1 h.1.2
  omega
 ·rw[if_neg h,if_pos]
  intro q1 q2
  omega
theorem cutL_take {T:Type} (c d:Int) (l:List (Pc T)) (k:Nat) (y:Pc T) (h:l[k]? =some y):cutL c d (l.take (k+1))=cutL c d (l.take k)++(if max y.a c≤min y.b d then[⟨max y.a c,min y.b d,y.v⟩]else[]):=by
 unfold cutL
 rw[List.take_add_one,h,List.filterMap_append]
 congr 1
 simp only[Option.toList_some]
 by_cases hh:max y.a c≤min y.b d
 ·simp[hh]
 ·simp[hh]
theorem cutL_len {T:Type} (c d:Int) (l:List (Pc T)):(cutL c d l).length≤l.length:=List.length_filterMap_le _ _
set_option maxRecDepth 8000 in
set_option maxHeartbeats 4000000 in
theorem part_off (p:Past) (r:Int) (six:Bool) (x y:Addr4) (a b c d:Int) (V:Int) (L:List (Pc Hop)) (hV:¬(V=0∧checkI [(c,d)]=0∧a≤c∧d≤b))
  (h1:FSpec Tryz.prog 23 [p.av,.int .i64 r,.bool six,x.av,.agg [.int .i64 a,.int .i64 b]] [] (.tup [.im (.sl 4 (L.map Pc.ivHop)),.int .i64 V]) []):
  FSpec Tryz.prog 10 [p.av,.int .i64 r,.bool six,x.av,y.av,.agg [.int .i64 a,.int .i64 b],.agg [.int .i64 c,.int .i64 d]] [] (.bool true) []:=by
 have h2:=checkI_spec [(c,d)]
 generalize checkI [(c,d)]=C at*
 simp at h2
 refine FSpec.of_flat (q:=[(11,.n 13)]) Tryz.func10 (by kernel_rfl) rfl Tryz.ntmps10 Tryz.results10 hP (by kernel_rfl) (by simp) (by first|rfl|simp) ?_
 simp -implicitDefEqProofs
 first|refine CallK.same (lives25_spec) rfl rfl ?_|refine CallQ.same (lives25_spec) rfl rfl ?_|refine CallQG.same _ (lives25_spec) rfl ?_|refine CallG.same _ (lives25_spec) rfl ?_|refine CallK.pv (lives25_spec) rfl rfl ?_
 simp -implicitDefEqProofs
 refine CallK.pv h1 rfl (by simp) ?_
 by_cases hv:V=0
 ·subst hv
  simp -implicitDefEqProofs
  refine CallG.on ?_
  refine CallK.fz [5] h2 rfl (by simp) rfl ?_
  simp -implicitDefEqProofs
  exact fun q1 q2 q3=>absurd ⟨rfl,q1,q2,q3⟩ hV
 ·simp -implicitDefEqProofs [hv]
  have hb:(!V != 0)=false:=by simp[hv]
  rw[hb]
  refine CallG.off (.int .i64 0) ?_
  have hb2:(V != 0)=true:=by simp[hv]
  rw[hb2]
  simp -implicitDefEqProofs [hv]
set_option maxRecDepth 8000 in
set_option maxHeartbeats 8000000 in
theorem part_on (p:Past) (r:Int) (six:Bool) (x y:Addr4) (a b c d:Int) (L:List (Pc Hop)) (S U:List (Int×Int)) (V:Int) (hc:checkI [(c,d)]=0) (hac:a≤c) (hdb:d≤b) (hl:L.length≤2000) (hU:U.length≤2000)
  (h1:FSpec Tryz.prog 23 [p.av,.int .i64 r,.bool six,x.av,.agg [.int .i64 a,.int .i64 b]] [] (.tup [.im (.sl 4 (L.map Pc.ivHop)),.int .i64 0]) [])
  (h3:FSpec Tryz.prog 23 [p.av,.int .i64 r,.bool six,x.av,.agg [.int .i64 c,.int .i64 d]] [] (.tup [.im (.sl 4 ((cutL c d L).map Pc.ivHop)),.int .i64 0]) [])
  (h4:FSpec Tryz.prog 25 [p.av,.int .i64 r,.bool six,x.av,y.av,.agg [.int .i64 a,.int .i64 b]] [] (.tup [.im (.sl 2 (S.map ivI)),.int .i64 V]) [])
  (h5:FSpec Tryz.prog 25 [p.av,.int .i64 r,.bool six,x.av,y.av,.agg [.int .i64 c,.int .i64 d]] [] (.tup [.im (.sl 2 (U.map ivI)),.int .i64 V]) [])
  (h6:FSpec Tryz.prog 39 [.im (.sl 2 (S.map ivI)),.im (.sl 2 [[.sc (.int .i64 c),.sc (.int .i64 d)]])] [] (.tup [.im (.sl 2 (U.map ivI)),.int .i64 0]) []):
  FSpec Tryz.prog 10 [p.av,.int .i64 r,.bool six,x.av,y.av,.agg [.int .i64 a,.int .i64 b],.agg [.int .i64 c,.int .i64 d]] [] (.bool true) []:=by
 have h2:=checkI_spec [(c,d)]
 rw[hc]at h2
 simp at h2
 have n1:¬c<a:=by omega
 have n2:¬b<d:=by omega
 have h7:=alike25_spec (cutL c d L) (by have:=cutL_len c d L;omega)
 have h8:=same19_spec U (by omega)
 refine FSpec.of_flat (q:=[(11,.n 13)]) Tryz.func10 (by kernel_rfl) rfl Tryz.ntmps10 Tryz.results10 hP (by kernel_rfl) (by simp) (by first|rfl|simp) ?_
 simp -implicitDefEqProofs
 first|refine CallK.same (lives25_spec) rfl rfl ?_|refine CallQ.same (lives25_spec) rfl rfl ?_|refine CallQG.same _ (lives25_spec) rfl ?_|refine CallG.same _ (lives25_spec) rfl ?_|refine CallK.pv (lives25_spec) rfl rfl ?_
 simp -implicitDefEqProofs
 refine CallK.pv h1 rfl (by simp) ?_
 simp -implicitDefEqProofs
 refine CallG.on ?_
 refine CallK.fz [5] h2 rfl (by simp) rfl ?_
 simp -implicitDefEqProofs [n1,n2]
 refine CallK.pv h3 rfl (by simp) ?_
 simp -implicitDefEqProofs
 refine LoopK.nil (.sl 19 83 4) ?_
 simp -implicitDefEqProofs
 refine LoopK.os (fun k:Nat=>[(1,.int .i64 r),(2,.bool six),(7,.ptr 0 0),(10,.ptr 1 0),(11,.ptr 2 0),(12,.ptr 3 0),(13,.ptr 4 0),(17,.im (.sl 4 ((cutL c d L).map Pc.ivHop))),(18,.int .i64 0),(19,.row 5),(72,.im (.sl 4 (L.map Pc.ivHop))),(73,.int .i64 L.length),(74,.int .i64 k)])
  (fun k=>[pastO p,.box 25 [.int .u64 x.hi,.int .u64 x.lo],.box 25 [.int .u64 y.hi,.int .u64 y.lo],.box 53 [.int .i64 a,.int .i64 b],.box 53 [.int .i64 c,.int .i64 d],.row 83 4 ((cutL c d (L.take k)).map Pc.ivHop)])
  (fun k=>k≤L.length) (fun k=>L.length-k) 0 [0,1,2,3,4,6] (Nat.zero_le _) (by simp[cutL]) ?_
 intro k hk
 by_cases hlt:k<L.length
 ·have e1:IntKind.i64.wrap (k+1)=(k+1:Nat):=wrap64 (by omega) (by omega)
  obtain⟨⟨ya,yb,yv⟩,hy⟩:∃y,L[k]=y:=⟨_,rfl⟩
  have hyk:L[k]? =some ⟨ya,yb,yv⟩:=by rw[List.getElem?_eq_getElem hlt,hy]
  have hct:=cutL_take c d L k _ hyk
  have hcl:=cutL_len c d (L.take k)
  rw[List.length_take]at hcl
  simp only at hct
  have eM:(if ya<c then c else ya)=max ya c:=by omega
  have em:(if d<yb then d else yb)=min yb d:=by omega
  generalize cutL c d (L.take k)=C at*
  generalize max ya c=F at*
  generalize min yb d=T at*
  simp -implicitDefEqProofs [hlt,hy,eM,em]
  refine⟨fun hft=>⟨⟨by omega,by unfold maxLen;omega⟩,?_⟩,fun hft=>?_⟩
  ·rw[if_pos hft]at hct
   refine Again.os (k+1) [0,1,2,3,4,8] hlt (by omega) ?_
   simp -implicitDefEqProofs [e1,hct]
  ·rw[if_neg (by omega),List.append_nil]at hct
   refine Again.os (k+1) [0,1,2,3,4,5] hlt (by omega) ?_
   simp -implicitDefEqProofs [e1,hct]
 ·have hkk:k=L.length:=by omega
  subst hkk
  rw[List.take_length]
  simp -implicitDefEqProofs
  refine CallK.pv h4 rfl (by simp) ?_
  simp -implicitDefEqProofs
  refine CallK.pv h5 rfl (by simp) ?_
  simp -implicitDefEqProofs
  refine CallK.val [6] h6 (by simp) (by simp) (by simp) ?_ ?_
  all_goals
   simp -implicitDefEqProofs
   refine CallG.on ?_
   refine CallK.fz [5] h7 (by simp) (by simp) rfl ?_
   simp -implicitDefEqProofs
   first|refine CallG.off (.bool true) ?_|(refine CallG.on ?_;first|refine CallK.same (h8) rfl rfl ?_|refine CallQ.same (h8) rfl rfl ?_|refine CallQG.same _ (h8) rfl ?_|refine CallG.same _ (h8) rfl ?_|refine CallK.pv (h8) rfl rfl ?_)
   simp -implicitDefEqProofs
theorem validPart_spec (p:Past) (r:Int) (six:Bool) (x y:Addr4) (a b c d:Int) (hw:p.wf) (hx:x.wf) (hy:y.wf):
  FSpec Tryz.prog 10 [p.av,.int .i64 r,.bool six,x.av,y.av,.agg [.int .i64 a,.int .i64 b],.agg [.int .i64 c,.int .i64 d]] [] (.bool true) []:=by
 have h1:=hopsP_spec p r six x a b hw hx
 by_cases hon:askV p r six x a b=0∧checkI [(c,d)]=0∧a≤c∧d≤b
 ·obtain⟨h,hc,hac,hdb⟩:=hon
  obtain⟨hok,hr,ho,h3,h4,h5⟩:=askV_zero h
  obtain⟨h0,hab,hb⟩:=oneI_le ho
  have hcd:oneI c d=true:=by
   rw[checkI_one]at hc
   cases hh:oneI c d with
   |true=>rfl
   |false=>rw[hh]at hc;cases hc
  obtain⟨k0,kcd,kd⟩:=oneI_le hcd
  have hA2:askV p r six x c d=0:=by
   unfold askV
   rw[if_neg (by simp[hok,hr]),if_neg (by simp[hcd];omega),if_neg (by omega)]
  have g3:=hopsP_spec p r six x c d hw hx
  rw[if_pos h,h]at h1
  rw[if_pos hA2,hA2,←lineP_part p _ hac kcd hdb]at g3
  have g4:=sameP_spec p r six x y a b hw hx hy
  have g5:=sameP_spec p r six x y c d hw hx hy
  have hl1:=lineP_len p (fun n=>doesF n r six x) a b
  have hev:=okP_len hok
  have htl:=timesF_len p.evs a b
  cases hry:rightA six y with
  |true=>
   have s1:sameW p r six x y a b=0:=by unfold sameW;rw[if_neg (by simp[hry])];exact h
   have s2:sameW p r six x y c d=0:=by unfold sameW;rw[if_neg (by simp[hry])];exact hA2
   rw[if_pos s1,s1]at g4
   rw[if_pos s2,s2]at g5
   have c1:=trues_check p (fun n=>decide (doesF n r six x=doesF n r six y)) h0 hab hb hev
   have hm:=meet_part p (fun n=>decide (doesF n r six x=doesF n r six y)) hac kcd hdb
   have hul:=checkI_len (trues_check p (fun n=>decide (doesF n r six x=doesF n r six y)) k0 kcd kd hev)
   have g6:=andI_spec _ [(c,d)] c1 hc (by rw[hm];exact hul)
   rw[hm]at g6
   exact part_on p r six x y a b c d _ _ _ 0 hc hac hdb (by omega) (by omega) h1 g3 g4 g5 g6
  |false=>
   have s1:sameW p r six x y a b=2:=by unfold sameW;rw[if_pos hry]
   have s2:sameW p r six x y c d=2:=by unfold sameW;rw[if_pos hry]
   rw[if_neg (by omega),s1]at g4
   rw[if_neg (by omega),s2]at g5
   have g6:=andI_spec [] [(c,d)] (by decide) hc (by rw[meetI_l];simp)
   rw[meetI_l]at g6
   exact part_on p r six x y a b c d _ _ _ 2 hc hac hdb (by omega) (by simp) h1 g3 g4 g5 g6
 ·exact part_off p r six x y a b c d _ _ hon h1
end Go.Am
