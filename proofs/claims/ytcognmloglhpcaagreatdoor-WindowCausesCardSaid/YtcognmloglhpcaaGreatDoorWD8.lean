import Derived.Laws.Externs
import Derived.Shelf.Spec.BitsCarry
import Derived.Test.YtcognmloglhpcaaGreatDoorWD3
import Derived.Test.YtcognmloglhpcaaGreatDoorWD4
import Derived.Test.YtcognmloglhpcaaGreatDoorWD6
import Derived.Test.YtcognmloglhpcaaGreatDoorWD7
set_option linter.unusedVariables false
set_option linter.unusedSimpArgs false
set_option linter.unusedSectionVars false
namespace Go.Am
open Go.Proofs
theorem rows_of {α:Type} {f:α→List IV} {Q:α→Prop} {l:List Sh} (h:∀y,Sh.hasL l y→∃a,Q a∧y=f a):∀xs:List (List IV),(∀y∈xs,Sh.hasL l y)→∃zs:List α,xs=zs.map f∧∀a∈zs,Q a
 |[],_=>⟨[],rfl,fun a ha=>by cases ha⟩
 |x::xs,hx=>by
  obtain⟨a,h1,h2⟩:=h x (hx x List.mem_cons_self)
  obtain⟨zs,h3,h4⟩:=rows_of h xs fun y hy=>hx y (List.mem_cons_of_mem _ hy)
  exact⟨a::zs,by rw[h2,h3];rfl,fun b hb=>by
   rcases List.mem_cons.1 hb with rfl|hb
   ·exact h1
   ·exact h4 b hb⟩
theorem hasL_cons {s:Sh} {l:List Sh} {xs:List IV} (h:Sh.hasL (s::l) xs):∃y ys,xs=y::ys∧s.has y∧Sh.hasL l ys:=by simpa only[Sh.hasL]using h
theorem hasL_nil {xs:List IV} (h:Sh.hasL [] xs):xs=[]:=by simpa only[Sh.hasL]using h
theorem has_int {q:IntKind} {x:IV} (h:(Sh.int q).has x):∃n:Int,x=.sc (.int q n)∧(Lit.int q n).wf=true:=by simpa only[Sh.has]using h
theorem has_bool {x:IV} (h:Sh.bool.has x):∃b:Bool,x=.sc (.bool b):=by simpa only[Sh.has]using h
theorem has_sl {l:List Sh} {x:IV} (h:(Sh.sl l).has x):∃xs:List (List IV),x=.sl l.length xs∧∀y∈xs,Sh.hasL l y:=by simpa only[Sh.has]using h
theorem u64_wf {n:Int} (h:(Lit.int .u64 n).wf=true):0≤n∧n<18446744073709551616:=by
 simp[Lit.wf,IntKind.min,IntKind.max,IntKind.signed,IntKind.bits]at h
 omega
def seatSh:List Sh:=[.int .i64,.int .u64,.int .i64,.bool]
def routeSh:List Sh:=[.bool,.int .u64,.int .u64,.int .i64,.int .u8,.int .i64]
def linkSh:List Sh:=[.int .i64,.int .i64]
def routerSh:List Sh:=[.int .i64,.bool,.sl routeSh,.sl linkSh]
def addrSh:List Sh:=[.int .u64,.int .u64]
theorem seat_of (y:List IV) (h:Sh.hasL seatSh y):∃s:Seat,True∧y=s.iv:=by
 obtain⟨a,_,rfl,ha,h⟩:=hasL_cons h
 obtain⟨b,_,rfl,hb,h⟩:=hasL_cons h
 obtain⟨c,_,rfl,hc,h⟩:=hasL_cons h
 obtain⟨d,_,rfl,hd,h⟩:=hasL_cons h
 cases hasL_nil h
 obtain⟨a,rfl,_⟩:=has_int ha
 obtain⟨b,rfl,_⟩:=has_int hb
 obtain⟨c,rfl,_⟩:=has_int hc
 obtain⟨d,rfl⟩:=has_bool hd
 exact⟨⟨a,b,c,d⟩,trivial,rfl⟩
theorem link_of (y:List IV) (h:Sh.hasL linkSh y):∃s:Link,True∧y=s.iv:=by
 obtain⟨a,_,rfl,ha,h⟩:=hasL_cons h
 obtain⟨b,_,rfl,hb,h⟩:=hasL_cons h
 cases hasL_nil h
 obtain⟨a,rfl,_⟩:=has_int ha
 obtain⟨b,rfl,_⟩:=has_int hb
 exact⟨⟨a,b⟩,trivial,rfl⟩
theorem route_of (y:List IV) (h:Sh.hasL routeSh y):∃s:Route,s.pfx.addr.wf∧y=s.iv:=by
 obtain⟨a,_,rfl,ha,h⟩:=hasL_cons h
 obtain⟨b,_,rfl,hb,h⟩:=hasL_cons h
 obtain⟨c,_,rfl,hc,h⟩:=hasL_cons h
 obtain⟨d,_,rfl,hd,h⟩:=hasL_cons h
 obtain⟨e,_,rfl,he,h⟩:=hasL_cons h
 obtain⟨f,_,rfl,hf,h⟩:=hasL_cons h
 cases hasL_nil h
 obtain⟨a,rfl⟩:=has_bool ha
 obtain⟨b,rfl,wb⟩:=has_int hb
 obtain⟨c,rfl,wc⟩:=has_int hc
 obtain⟨d,rfl,_⟩:=has_int hd
 obtain⟨e,rfl,_⟩:=has_int he
 obtain⟨f,rfl,_⟩:=has_int hf
 exact⟨⟨⟨a,⟨b,c⟩,d⟩,⟨e,f⟩⟩,⟨(u64_wf wb).1,(u64_wf wb).2,u64_wf wc⟩,rfl⟩
theorem router_of (y:List IV) (h:Sh.hasL routerSh y):∃s:Router,s.wf∧y=s.iv:=by
 obtain⟨a,_,rfl,ha,h⟩:=hasL_cons h
 obtain⟨b,_,rfl,hb,h⟩:=hasL_cons h
 obtain⟨c,_,rfl,hc,h⟩:=hasL_cons h
 obtain⟨d,_,rfl,hd,h⟩:=hasL_cons h
 cases hasL_nil h
 obtain⟨a,rfl,_⟩:=has_int ha
 obtain⟨b,rfl⟩:=has_bool hb
 obtain⟨c,rfl,wc⟩:=has_sl hc
 obtain⟨d,rfl,wd⟩:=has_sl hd
 obtain⟨rs,rfl,hr⟩:=rows_of route_of c wc
 obtain⟨ls,rfl,_⟩:=rows_of link_of d wd
 exact⟨⟨a,b,rs,ls⟩,hr,rfl⟩
theorem addr_of (y:List IV) (h:Sh.hasL addrSh y):∃a:Addr4,a.wf∧y.map AV.im=[.int .u64 a.hi,.int .u64 a.lo]:=by
 obtain⟨a,_,rfl,ha,h⟩:=hasL_cons h
 obtain⟨b,_,rfl,hb,h⟩:=hasL_cons h
 cases hasL_nil h
 obtain⟨a,rfl,wa⟩:=has_int ha
 obtain⟨b,rfl,wb⟩:=has_int hb
 exact⟨⟨a,b⟩,⟨(u64_wf wa).1,(u64_wf wa).2,u64_wf wb⟩,rfl⟩
theorem hasArgs_cons {s:List Sh} {l:List (List Sh)} {xs:List (List IV)} (h:hasArgs (s::l) xs):∃y ys,xs=y::ys∧Sh.hasL s y∧hasArgs l ys:=h
end Go.Am
namespace Go.Am
open Go.Proofs
end Go.Am
namespace Go.Am
open Go.Proofs
end Go.Am
namespace Go.Am
open Go.Proofs
end Go.Am
namespace Go.Am
open Go.Proofs
theorem Goes.kind {H:Int→Hop} {W:List Int} {r:Int} {res:List Int×Verd} (h:Goes H W r res):res.2.kind=1∨res.2.kind=2∨res.2.kind=3∨res.2.kind=4:=by
 induction h with
 |ends h=>
  simp only[endsF]
  repeat' split
  all_goals simp
 |again h hp=>simp
 |step _ _ _ ih=>exact ih
end Go.Am
namespace Go.Am
open Go.Proofs
end Go.Am
namespace Go.Am
open Go.Proofs
structure WInv (H:Int→Hop) (ids:List Int) (res:List Int×Verd) (l:List Int) (r:Int):Prop where
 mv:∀x∈l,moves H x
 len:l.length+roundsI ids l≤ids.length
 go:(r∉l∧Goes H (l++[r]) r res)∨(r∈l∧res=(l++[r],⟨4,r⟩))
theorem WInv.start {H:Int→Hop} {ids:List Int} {res:List Int×Verd} {r:Int} (h:Goes H [r] r res):WInv H ids res [] r where
 mv:=fun x hx=>(by cases hx)
 len:=by have:roundsI ids []≤ids.length:=List.countP_le_length;simpa using this
 go:=.inl ⟨by simp,h⟩
theorem WInv.seen {H:Int→Hop} {ids:List Int} {res:List Int×Verd} {l:List Int} {r:Int} (h:WInv H ids res l r) (hr:r∈l):res=(l++[r],⟨4,r⟩)∧moves H r:=by
 rcases h.go with⟨h1,_⟩|⟨_,h2⟩
 ·exact absurd hr h1
 ·exact⟨h2,h.mv r hr⟩
theorem WInv.stop {H:Int→Hop} {ids:List Int} {res:List Int×Verd} {l:List Int} {r:Int} (h:WInv H ids res l r) (hr:r∉l) (hm:¬moves H r):res=(l++[r],endsF (H r) r):=by
 rcases h.go with⟨_,h1⟩|⟨h1,_⟩
 ·exact h1.det (.ends hm)
 ·exact absurd h1 hr
theorem WInv.next {H:Int→Hop} {ids:List Int} {res:List Int×Verd} {l:List Int} {r:Int} (h:WInv H ids res l r) (hl:∀x,moves H x→x∈ids) (hr:r∉l) (hm:moves H r):
  WInv H ids res (l++[r]) (H r).peer∧roundsI ids (l++[r])<roundsI ids l:=by
 have hst:=roundsI_step (hl r hm) hr
 refine⟨{mv:=fun x hx=>?_,len:=?_,go:=?_},hst⟩
 ·rcases List.mem_append.1 hx with hx|hx
  ·exact h.mv x hx
  ·rw[List.mem_singleton]at hx;subst hx;exact hm
 ·have:=h.len;simp;omega
 ·rcases h.go with⟨_,h1⟩|⟨h1,_⟩
  ·generalize hW:l++[r]=W at h1
   cases h1 with
   |ends h'=>exact absurd hm h'
   |again _ hp=>right;subst hW;exact⟨hp,rfl⟩
   |step _ hp hs=>left;subst hW;exact⟨hp,hs⟩
  ·exact absurd h1 hr
def kindsIV:List IV:=[.sc (.int .u8 3),.sc (.int .u8 4),.sc (.int .u8 1),.sc (.int .u8 2)]
def kindsO:AObj:=.gl [(0,kindsIV)]
def tripC (n:Net) (six:Bool) (a:Addr4):List AV:=[.im (.sl 4 (n.seats.map Seat.iv)),.im (.sl 4 (n.routers.map Router.iv)),.bool six,.int .u64 a.hi,.int .u64 a.lo]
theorem steps_spec (n:Net) (six:Bool) (a:Addr4) (r:Int):FSpec Tryz.prog 162 [.ptr 0 0,.int .i64 r] [.box 238 (tripC n six a)] (.fn 227 [.ptr 1 0,.ptr 2 0])
  [.box 238 (tripC n six a),.box 155 [.ptr 0 0],.box 3 [.int .i64 r]]:=by
 refine FSpec.of_o (q:=[]) Tryz.func162 (by kernel_rfl) rfl Tryz.ntmps162 Tryz.results162 hP (by kernel_rfl) (by simp) (by first|rfl|simp) ?_
 simp
 refine EndO.ret [] [0,1,2] _ rfl ?_
 simp[tripC]
end Go.Am
namespace Go.Am
open Go.Proofs
def seenK (l:List Int):List (Int×Bool):=l.foldl (fun K x=>kput K x true) []
theorem seenK_snoc (l:List Int) (x:Int):seenK (l++[x])=kput (seenK l) x true:=by simp[seenK]
theorem kget_seen (l:List Int) (y:Int):kget (seenK l) y=if y∈l then some true else none:=by
 have key:∀(l:List Int) (K:List (Int×Bool)),kget (l.foldl (fun K x=>kput K x true) K) y=if y∈l then some true else kget K y:=by
  intro l
  induction l with
  |nil=>intro K;simp
  |cons x l ih=>
   intro K
   rw[List.foldl_cons,ih,kget_put]
   by_cases h1:y∈l
   ·simp[h1]
   ·by_cases h2:y=x<;>simp[h1,h2]
 exact key l []
def bAV (b:Bool):AV:=.bool b
theorem ren_bmap (ρ:Nat→Nat):∀K:List (Int×Bool),renM ρ (kmap bAV K)=kmap bAV K
 |[]=>rfl
 |(k,b)::K=>by
  have ih:=ren_bmap ρ K
  simp only[kmap,List.map_cons,renM]at ih⊢
  rw[ih];rfl
theorem rowI_snoc (l:List Int) (x:Int):rowI (l++[x])=rowI l++[[.sc (.int .i64 x)]]:=by simp[rowI]
theorem endRd_exit {a:Go.Act} {b:Nat} {r:Loop} {szI:Nat} {k:Bool→St→Prop} {f:List (Nat×AV)} {o:List (Nat×AObj)} {n sz:Nat} {g:Option Bool} {frI:List (Nat×AV)} (i n3 n2:Nat) (h3:look o n3=some (.sv a frI)) (h2:look o n2=some (.lp b r .busy none))
  (h:k false ⟨frI,(n2,.lp b r .done (some (.exit i)))::o,n,szI,g⟩):endRd a b r szI k (.exit i) ⟨f,o,n,sz,g⟩:=⟨n3,frI,n2,h3,h2,h⟩
set_option maxRecDepth 8000 in
set_option maxHeartbeats 4000000 in
theorem way1_spec (n:Net) (six:Bool) (a:Addr4) (r:Int) (hw:n.wf) (ha:a.wf) (h1:rightN n six a=true):
  FSpec Tryz.prog 86 [.ptr 1 0,.int .i64 r] [kindsO,.box 238 (tripC n six a)] (.tup [.im (.sl 1 (rowI (wayN n six a r).1)),(wayN n six a r).2.av]) [kindsO,.box 238 (tripC n six a)]:=by
 have g1:netOk n=true:=by unfold rightN at h1;simp at h1;exact h1.1
 have g2:rightA six a=true:=by unfold rightN at h1;simp at h1;exact h1.2
 have hlen:=netOk_len g1
 have hids:(idsN n).length=n.routers.length:=by simp[idsN]
 refine FSpec.of_o (q:=[(7,.m [.p [1] [],.p [] [],.e [19],.e [18,20],.p [0,1,3] [],.e [6,21]]),(10,.n 13)]) Tryz.func86 (by kernel_rfl) rfl Tryz.ntmps86 Tryz.results86 hP (by kernel_rfl) (by simp) (by first|rfl|simp) ?_
 simp[tripC,kindsO]
 refine CallO.mk [] [1] (steps_spec n six a r) (by simp) rfl (by simp[tripC]) (by simp[tripC]) (by simp[tripC]) ?_
 simp[tripC]
 simp[rangeK]
 intro a0 b rr
 refine⟨_,_,_,[(0,.m [.p [] [],.p [] [],.p [] [],.p [] [],.p [] [],.p [] [],.p [] [],.p [] [],.p [] [],.p [] [],.p [] [],.p [] [],.p [] [],.e [8,9,13,17],.a 0 1])],Tryz.func227,(by kernel_rfl),rfl,Tryz.ntmps227,Tryz.results227,(by kernel_rfl),(by simp),?_⟩
 simp
 refine LoopK.nil (.cl 3 0 3 1) ?_
 simp
 refine LoopK.os (fun g:List Int×Int=>[(0,.yld 11),(1,.ptr 8 0),(2,.ptr 9 0)])
  (fun g=>[.gl [(0,kindsIV)],.box 238 (tripC n six a),.box 35 [.int .u8 0,.int .i64 0],.box 32 [.row 4],.row 3 1 (rowI g.1),.mp .i64 (kmap bAV (seenK g.1)),.box 223 [.map 5],.box 171 [.undef,.undef],.box 155 [.ptr 1 0],.box 3 [.int .i64 g.2],.sv a0 [(8,.ptr 7 0),(7,.ptr 6 0),(6,.ptr 3 0),(5,.ptr 2 0)],.lp b rr .ready none])
  (fun g=>WInv (hopN n six a) (idsN n) (wayN n six a r) g.1 g.2) (fun g=>roundsI (idsN n) g.1) ([],r) [0,1,2,3,11,4,5,6,7,8,9,10] (WInv.start (wayN_goes n six a r)) (by simp[rowI,seenK,kmap,renM,tripC];rintro _ _ (⟨rfl,rfl⟩|⟨rfl,rfl⟩|⟨rfl,rfl⟩|⟨rfl,rfl⟩)<;>rfl) ?_
 rintro⟨l,p⟩ hI
 simp only at hI
 have hll:=hI.len
 simp[tripC]
 first|refine CallK.same (doesN_spec n p six a g1 hw ha g2) rfl rfl ?_|refine CallQ.same (doesN_spec n p six a g1 hw ha g2) rfl rfl ?_|refine CallQG.same _ (doesN_spec n p six a g1 hw ha g2) rfl ?_|refine CallG.same _ (doesN_spec n p six a g1 hw ha g2) rfl ?_|refine CallK.pv (doesN_spec n p six a g1 hw ha g2) rfl rfl ?_
 have hkind:=hopN_kind n six a p
 have hseen:=kget_seen l p
 have hmg:=mget_kmap bAV (seenK l) p
 have hput:=mput_kmap bAV (seenK l) p true
 have hs1:=hI.seen
 have hs2:=hI.stop
 have hs3:=hI.next (hopN_moves n six a)
 unfold hopN at hkind hs1 hs2 hs3
 try simp only at hs1 hs2 hs3
 try simp only at hkind
 have hmv:∀x,moves (fun x=>doesF n x six a) x↔¬(doesF n x six a).kind=0∧¬(doesF n x six a).kind=2∧¬(doesF n x six a).kind=3:=fun x=>Iff.rfl
 rw[hmv]at hs1 hs2 hs3
 generalize wayN n six a r=W at*
 generalize doesF n p six a=h at*
 simp
 refine⟨10,_,rfl,rfl,rfl,fun aI=>?_⟩
 simp[putL,asgK]
 refine⟨11,by simp,?_⟩
 simp
 refine⟨⟨by omega,by unfold maxLen;omega⟩,?_⟩
 have e1:IntKind.i64.wrap (l.length:Int)=(l.length:Int):=wrap64 (by omega) (by omega)
 have hgl:(rowI l++[[IV.sc (Value.int .i64 p)]])[l.length]? =some [.sc (.int .i64 p)]:=by
  rw[List.getElem?_append_right (by simp[rowI])];simp[rowI]
 have hlt:(l.length:Int)<(l.length:Int)+1:=by omega
 by_cases hp:p∈l
 ·rw[if_pos hp]at hseen
  rw[hseen]at hmg
  obtain⟨hW,hk0,hk2,hk3⟩:=hs1 hp
  have hk1:h.kind=1:=by omega
  simp[hmg,bAV]
  refine endRd_exit 0 13 11 (by simp;rfl) (by simp) ?_
  simp
  refine⟨10,_,11,.done,some (.exit 0),rfl,rfl,.inr rfl,?_⟩
  simp[pendK,hk1,kindsIV,e1,hgl,hlt]
  refine EndO.ret [16] [0,1] (.tup [.row 16,.agg [.int .u8 4,.int .i64 p]]) (by simp) ?_
  simp[hW,rowI_snoc,kindsIV,tripC]
 ·rw[if_neg hp]at hseen
  rw[hseen]at hmg
  simp only[bAV]at hput
  simp[hmg,hput]
  refine endRd_normal 13 11 (by simp;rfl) (by simp) ?_
  simp
  refine⟨fun hk1=>?_,fun hk1=>?_⟩
  ·have hW:=hs2 hp (by omega)
   refine⟨10,_,11,.ready,none,rfl,rfl,.inl rfl,?_⟩
   rcases hkind with hk|hk|hk|hk
   ·simp[pendK,hk,kindsIV,e1,hgl,hlt]
    refine EndO.ret [16] [0,1] (.tup [.row 16,.agg [.int .u8 3,.int .i64 p]]) (by simp) ?_
    simp[hW,rowI_snoc,kindsIV,tripC,endsF,hk]
   ·exact absurd hk hk1
   ·simp[pendK,hk,kindsIV,e1,hgl,hlt]
    refine EndO.ret [16] [0,1] (.tup [.row 16,.agg [.int .u8 1,.int .i64 p]]) (by simp) ?_
    simp[hW,rowI_snoc,kindsIV,tripC,endsF,hk]
   ·simp[pendK,hk,kindsIV,e1,hgl,hlt]
    refine EndO.ret [16] [0,1] (.tup [.row 16,.agg [.int .u8 2,.int .i64 p]]) (by simp) ?_
    simp[hW,rowI_snoc,kindsIV,tripC,endsF,hk]
  ·obtain⟨hI',hst⟩:=hs3 hp (by omega)
   refine Again.os (l++[p],h.peer) [0,1,2,3,16,5,6,7,8,9,10,11] hI' hst ?_
   simp[rowI_snoc,seenK_snoc,renM,tripC]
   refine⟨(ren_bmap _ _).symm,?_⟩
   rintro _ _ (⟨rfl,rfl⟩|⟨rfl,rfl⟩|⟨rfl,rfl⟩|⟨rfl,rfl⟩)<;>rfl
end Go.Am
namespace Go.Am
open Go.Proofs
def Past.wf (p:Past):Prop:=p.base.wf∧∀e∈p.evs,0≤e.seq∧e.pfx.addr.wf
def earlyP (p:Past):Bool:=decide (p.hz< -1)||decide (1099511627776<p.hz)||!netOk p.base||decide (1024<p.evs.length)
def lateP (p:Past):Bool:=p.base.seats.any fun s=>decide (p.hz<s.time)
def nowD (p:Past):Net:=if earlyP p||lateP p then net0 else nowP p
theorem allN_ok {n:Net} {l:List Ev} {hz:Int} (h:(allN n l hz).2.2=0):netOk n=true:=by
 cases hn:netOk n with
 |true=>rfl
 |false=>unfold allN at h;rw[if_pos hn]at h;cases h
theorem okP_eq (p:Past):okP p=(!earlyP p&&!lateP p&&decide ((allN p.base p.evs p.hz).2.2=0)&&decide (weightF p≤1024)):=by
 unfold okP earlyP lateP
 by_cases h:(allN p.base p.evs p.hz).2.2=0
 ·rw[allN_ok h]
  by_cases h1:p.hz< -1
  ·have:¬ -1≤p.hz:=by omega
   simp[h1,this]
  ·have h1': -1≤p.hz:=by omega
   by_cases h2:1099511627776<p.hz
   ·have:¬p.hz≤1099511627776:=by omega
    simp[h2,this]
   ·have h2':p.hz≤1099511627776:=by omega
    by_cases h3:1024<p.evs.length
    ·have:¬p.evs.length≤1024:=by omega
     simp[h3,this]
    ·have h3':p.evs.length≤1024:=by omega
     simp[h1,h2,h3,h1',h2',h3',h]
 ·simp[h]
set_option maxRecDepth 8000 in
set_option maxHeartbeats 4000000 in
theorem nowr_spec (p:Past) (hw:p.wf):FSpec Tryz.prog 133 [p.av] [] (.tup [(nowD p).av,.bool (okP p)]) []:=by
 have h1:=checkNr_spec p.base hw.1
 have h2:=allNr_spec p.base p.evs p.hz hw.1 (fun e he=>(hw.2 e he).2)
 have hok:=okP_eq p
 have hN:nowD p=if earlyP p||lateP p then net0 else nowP p:=rfl
 unfold nowP at hN
 generalize nowD p=N at*
 generalize okP p=OK at*
 refine FSpec.of_z (q:=[(10,.m [.p [] [],.p [] [],.p [] [],.p [] [],.p [] [],.p [] [],.p [1] [],.p [1] [],.e [2,56]])]) Tryz.func133 (by kernel_rfl) rfl Tryz.ntmps133 Tryz.results133 hP (by kernel_rfl) (by simp) (by first|rfl|simp) ?_
 simp -implicitDefEqProofs
 first|refine CallK.same (h1) rfl rfl ?_|refine CallQ.same (h1) rfl rfl ?_|refine CallQG.same _ (h1) rfl ?_|refine CallG.same _ (h1) rfl ?_|refine CallK.pv (h1) rfl rfl ?_
 simp -implicitDefEqProofs
 refine⟨fun h=>?_,fun b1 b2 b3 b4=>?_⟩
 ·have he:earlyP p=true:=by
   unfold earlyP
   rcases h with((h|h)|h)|h
   ·simp[h]
   ·simp[h]
   ·simp[h]
   ·have:1024<p.evs.length:=by omega
    simp[this]
  rw[he]at hok hN
  simp at hok hN
  subst hok
  subst hN
  refine EndZ.ret [] (.tup [.agg [.im (.sc (.slice none 0 0)),.im (.sc (.slice none 0 0))],.bool false]) (by simp) ?_
  simp[net0]
 have he:earlyP p=false:=by
  unfold earlyP
  have e1:¬p.hz< -1:=by omega
  have e2:¬1099511627776<p.hz:=by omega
  have e3:¬1024<p.evs.length:=by omega
  simp[e1,e2,e3,b3]
 rw[he]at hok hN
 simp only[Bool.not_false,Bool.true_and,Bool.false_or]at hok hN
 have hsl:=netOk_seats b3
 have hwt:=weightr_spec p hw.1 (by omega)
 refine LoopK.os (fun k:Nat=>[(1,.ptr 0 0),(2,.ptr 1 0),(32,.im (.sl 4 (p.base.seats.map Seat.iv))),(33,.int .i64 p.base.seats.length),(34,.int .i64 k)])
  (fun _=>[pastO p,.box 25 [.im (.sc (.slice none 0 0)),.im (.sc (.slice none 0 0))]])
  (fun k=>k≤p.base.seats.length∧((p.base.seats.drop k).any fun s=>decide (p.hz<s.time))=lateP p) (fun k=>p.base.seats.length-k) 0 [0,1] ⟨Nat.zero_le _,by simp[lateP]⟩ (by simp) ?_
 rintro k ⟨hk,hR⟩
 by_cases hlt:k<p.base.seats.length
 ·have e1:IntKind.i64.wrap (k+1)=(k+1:Nat):=wrap64 (by omega) (by omega)
  obtain⟨E,hE⟩:∃E,p.base.seats[k]=E:=⟨_,rfl⟩
  rw[List.drop_eq_getElem_cons hlt,List.any_cons,hE]at hR
  simp -implicitDefEqProofs [hlt,hE]
  refine⟨fun h=>?_,fun h=>?_⟩
  ·have hl:lateP p=true:=by rw[←hR];simp[h]
   rw[hl]at hok hN
   simp at hok hN
   subst hok
   subst hN
   refine EndZ.ret [] (.tup [.agg [.im (.sc (.slice none 0 0)),.im (.sc (.slice none 0 0))],.bool false]) (by simp) ?_
   simp[net0]
  ·have hd:decide (p.hz<E.time)=false:=by simp;omega
   rw[hd,Bool.false_or]at hR
   refine Again.os (k+1) [0,1] ⟨hlt,hR⟩ (by omega) ?_
   simp -implicitDefEqProofs [e1]
 ·have hkk:k=p.base.seats.length:=by omega
  subst hkk
  have hl:lateP p=false:=by rw[←hR];simp
  rw[hl]at hok hN
  simp only[Bool.not_false,Bool.true_and,Bool.false_eq_true,if_false]at hok hN
  generalize allN p.base p.evs p.hz=RES at*
  subst hN
  simp -implicitDefEqProofs
  first|refine CallK.same (h2) rfl rfl ?_|refine CallQ.same (h2) rfl rfl ?_|refine CallQG.same _ (h2) rfl ?_|refine CallG.same _ (h2) rfl ?_|refine CallK.pv (h2) rfl rfl ?_
  simp -implicitDefEqProofs
  first|refine CallK.same (hwt) rfl rfl ?_|refine CallQ.same (hwt) rfl rfl ?_|refine CallQG.same _ (hwt) rfl ?_|refine CallG.same _ (hwt) rfl ?_|refine CallK.pv (hwt) rfl rfl ?_
  simp -implicitDefEqProofs
  have hok':OK=(RES.2.2==0&&decide (weightF p≤1024)):=hok
  subst hok'
  refine EndZ.ret [] (.tup [RES.1.av,.bool (RES.2.2==0&&decide (weightF p≤1024))]) (by simp) ?_
  simp
end Go.Am
namespace Go.Am
open Go.Proofs
theorem checkPr21_spec (p:Past) (hw:p.wf):FSpec Tryz.prog 58 [p.av] [] (.int .i64 (if okP p then 0 else 2)) []:=by
 have h1:=nowr_spec p hw
 generalize nowD p=N at*
 refine FSpec.of_z (q:=[]) Tryz.func58 (by kernel_rfl) rfl Tryz.ntmps58 Tryz.results58 hP (by kernel_rfl) (by simp) (by first|rfl|simp) ?_
 simp -implicitDefEqProofs
 first|refine CallK.same (h1) rfl rfl ?_|refine CallQ.same (h1) rfl rfl ?_|refine CallQG.same _ (h1) rfl ?_|refine CallG.same _ (h1) rfl ?_|refine CallK.pv (h1) rfl rfl ?_
 simp -implicitDefEqProofs
 cases hok:okP p with
 |true=>
  simp -implicitDefEqProofs
  refine EndZ.ret [] (.int .i64 0) (by simp) (by simp)
 |false=>
  simp -implicitDefEqProofs
  refine EndZ.ret [] (.int .i64 2) (by simp) (by simp)
theorem rowN_I (l:List Int):rowN l=rowI l:=rfl
theorem rowI_app (l:List Int) (x:Int):rowI (l++[x])=rowI l++[[.sc (.int .i64 x)]]:=by simp[rowI]
set_option maxRecDepth 8000 in
set_option maxHeartbeats 2000000 in
theorem timesPr_spec (p:Past) (a b:Int) (hw:p.wf):FSpec Tryz.prog 150 [p.av,.agg [.int .i64 a,.int .i64 b]] []
  (.tup [.im (.sl 1 (rowN (if timesW p a b=0 then timesF p.evs a b else[]))),.int .i64 (timesW p a b)]) []:=by
 have h1:=checkPr21_spec p hw
 have h2:=one_spec a b
 rw[show(decide (0≤a)&&decide (a≤b)&&decide (b≤1099511627776))=oneI a b from rfl]at h2
 refine FSpec.of_z (q:=[]) Tryz.func150 (by kernel_rfl) rfl Tryz.ntmps150 Tryz.results150 hP (by kernel_rfl) (by simp) (by first|rfl|simp) ?_
 simp -implicitDefEqProofs
 first|refine CallK.same (h1) rfl rfl ?_|refine CallQ.same (h1) rfl rfl ?_|refine CallQG.same _ (h1) rfl ?_|refine CallG.same _ (h1) rfl ?_|refine CallK.pv (h1) rfl rfl ?_
 simp -implicitDefEqProofs
 cases hok:okP p with
 |false=>
  have hW:timesW p a b=2:=by unfold timesW;rw[if_pos hok]
  rw[hW]
  simp -implicitDefEqProofs
  refine EndZ.ret [] (.tup [.im (.sc (.slice none 0 0)),.int .i64 2]) (by simp) (by simp[rowN])
 |true=>
  have hW:timesW p a b=winW p a b:=by unfold timesW;rw[if_neg (by simp[hok])]
  rw[hW]
  simp -implicitDefEqProofs
  first|refine CallK.same (h2) rfl rfl ?_|refine CallQ.same (h2) rfl rfl ?_|refine CallQG.same _ (h2) rfl ?_|refine CallG.same _ (h2) rfl ?_|refine CallK.pv (h2) rfl rfl ?_
  simp -implicitDefEqProofs
  cases ho:oneI a b with
  |false=>
   have hX:winW p a b=1:=by unfold winW;rw[if_pos ho]
   rw[hX]
   simp -implicitDefEqProofs
   refine EndZ.ret [] (.tup [.im (.sc (.slice none 0 0)),.int .i64 1]) (by simp) (by simp[rowN])
  |true=>
   simp -implicitDefEqProofs
   refine⟨fun h=>?_,fun h=>?_⟩
   ·have hX:winW p a b=15:=by unfold winW;rw[if_neg (by simp[ho]),if_pos h]
    rw[hX]
    refine EndZ.ret [] (.tup [.im (.sc (.slice none 0 0)),.int .i64 15]) (by simp) (by simp[rowN])
   have hX:winW p a b=0:=by unfold winW;rw[if_neg (by simp[ho]),if_neg (by omega)]
   rw[hX]
   have hl:=okP_len hok
   have hhl:=happT_len p.evs a b
   have h3:=sorted19_spec (happT p.evs a b) (by omega) (timesF p.evs a b) (timesF_sorted _ _ _) (timesF_mem _ _ _)
   simp only[if_true]
   generalize timesF p.evs a b=D at*
   refine LoopK.nil (.sl 6 2 1) ?_
   simp -implicitDefEqProofs
   refine LoopK.os (fun k:Nat=>[(3,.ptr 0 0),(6,.row 1),(21,.im (.sl 12 (p.evs.map Ev.iv))),(22,.int .i64 p.evs.length),(23,.int .i64 k)])
    (fun k=>[.box 43 [.int .i64 a,.int .i64 b],.row 2 1 (rowI (happT (p.evs.take k) a b))])
    (fun k=>k≤p.evs.length) (fun k=>p.evs.length-k) 0 [1,2] (Nat.zero_le _) (by simp[happT,rowI]) ?_
   intro k hk
   by_cases hlt:k<p.evs.length
   ·have e1:IntKind.i64.wrap (k+1)=(k+1:Nat):=wrap64 (by omega) (by omega)
    have g1:=happT_take p.evs a b k hlt
    have b1:=happT_len (p.evs.take k) a b
    rw[List.length_take]at b1
    have b2:(rowI (happT (p.evs.take k) a b)).length=(happT (p.evs.take k) a b).length:=by simp[rowI]
    obtain⟨E,hE⟩:∃E,p.evs[k]=E:=⟨_,rfl⟩
    rw[hE]at g1
    simp -implicitDefEqProofs [hlt,hE,b2]
    refine⟨fun h1 h2=>⟨⟨by omega,by unfold maxLen;omega⟩,?_⟩,fun h=>?_⟩
    ·rw[if_pos ⟨h1,h2⟩]at g1
     refine Again.os (k+1) [0,4] hlt (by omega) ?_
     simp -implicitDefEqProofs [e1,g1,rowI_app]
    ·rw[if_neg (by intro hh;have:=h hh.1;omega)]at g1
     refine Again.os (k+1) [0,1] hlt (by omega) ?_
     simp -implicitDefEqProofs [e1,g1]
   ·have hkk:k=p.evs.length:=by omega
    subst hkk
    simp -implicitDefEqProofs
    refine CallX.pre (.fz [1]) ?_
    simp -implicitDefEqProofs
    refine CallK.v0 h3 rfl (by simp) rfl ?_
    simp -implicitDefEqProofs
    refine EndZ.ret [] (.tup [.im (.sl 1 (rowI D)),.int .i64 0]) (by simp) ?_
    simp[rowN_I]
end Go.Am
namespace Go.Am
open Go.Proofs
end Go.Am
namespace Go.Am
open Go.Proofs
theorem find_put {α:Type} (key:α→Int) (l:List α) (s:α) (r:Int):
  (l.filter (fun a=>decide (key a<key s))++[s]++l.filter (fun a=>decide (key s<key a))).find? (fun a=>decide (key a=r))=if r=key s then some s else l.find? fun a=>decide (key a=r):=by
 rw[List.find?_append,List.find?_append,List.find?_filter,List.find?_filter]
 by_cases h:r=key s
 ·subst h
  have h1:(l.find? fun a=>decide (decide (key a<key s)=true∧decide (key a=key s)=true))=none:=by
   rw[List.find?_eq_none]
   intro x _
   simp
   omega
  rw[if_pos rfl,h1]
  simp
 ·rw[if_neg h]
  have hs:[s].find? (fun a=>decide (key a=r))=none:=by
   rw[List.find?_eq_none]
   intro x hx
   rw[List.mem_singleton]at hx
   subst hx
   simp
   omega
  rw[hs]
  rcases Int.lt_or_gt_of_ne h with h1|h1
  ·have e1:(l.find? fun a=>decide (decide (key a<key s)=true∧decide (key a=r)=true))=l.find? fun a=>decide (key a=r):=by
    congr
    funext a
    by_cases h2:key a=r
    ·simp[h2,h1]
    ·simp[h2]
   have e2:(l.find? fun a=>decide (decide (key s<key a)=true∧decide (key a=r)=true))=none:=by
    rw[List.find?_eq_none]
    intro x _
    simp
    omega
   rw[e1,e2]
   simp
  ·have e1:(l.find? fun a=>decide (decide (key s<key a)=true∧decide (key a=r)=true))=l.find? fun a=>decide (key a=r):=by
    congr
    funext a
    by_cases h2:key a=r
    ·simp[h2,h1]
    ·simp[h2]
   have e2:(l.find? fun a=>decide (decide (key a<key s)=true∧decide (key a=r)=true))=none:=by
    rw[List.find?_eq_none]
    intro x _
    simp
    omega
   rw[e1,e2]
   simp
theorem seatF_find:∀(l:List Seat) (r:Int),seatF l r=l.find? fun s=>decide (s.router=r)
 |[],r=>rfl
 |s::l,r=>by
  rw[seatF,List.find?_cons]
  by_cases h:s.router=r
  ·simp[h]
  ·simp[h,seatF_find l r]
theorem seatF_put (l:List Seat) (e:Ev) (r:Int):seatF (putSeat l (seatOf e)) r=if r=e.router then some (seatOf e)else seatF l r:=by
 rw[seatF_find,seatF_find]
 exact find_put Seat.router l (seatOf e) r
theorem routerF_after {n:Net} {e:Ev} {hz:Int} (hok:netOk n=true) (h:mayS n.seats e hz=0) (h2:(applyR (mineN n e) e).2=0) (r:Int):
  routerF (netAfter n e hz).routers r=if r=e.router then some (applyR (mineN n e) e).1 else routerF n.routers r:=by
 obtain⟨g1,g2,g3,g4,g5⟩:=mayS_zero h
 obtain⟨m1,m2⟩:=mineN_ok hok g2
 obtain⟨a1,a2,a3⟩:=applyR_ok m1 g2 m2 h2
 rw[netAfter_routers hok h]
 simp only[cmpT_neg,cmpT_gt]
 have:=find_put Router.id n.routers (applyR (mineN n e) e).1 r
 rw[a2]at this
 exact this
theorem happensF_get {n:Net} {e:Ev} {hz:Int} (hok:netOk n=true) (h:(happensF n e hz).2=0):
  (∀r,seatF (happensF n e hz).1.seats r=if r=e.router then some (seatOf e)else seatF n.seats r)∧∀r,routerF (happensF n e hz).1.routers r=if r=e.router then some (applyR (mineN n e) e).1 else routerF n.routers r:=by
 obtain⟨h1,h2,h3⟩:=happensF_zero h
 have hx:happensF n e hz=(netAfter n e hz,0):=by
  unfold happensF
  rw[if_neg (by omega),if_neg (by omega),if_neg h3]
 rw[hx]
 refine⟨fun r=>?_,routerF_after hok h1 h2⟩
 show seatF (nextS n.seats e hz).1 r=_
 rw[nextS_zero h1]
 exact seatF_put _ _ _
theorem putRt_sz (l:List Route) (x:Route):(putRt l x).1.length≤l.length+1:=by
 unfold putRt
 split
 ·simp
 rename_i hc
 have hR:checkR l=0:=by apply Classical.byContradiction;intro hn;exact hc (.inl hn)
 split
 ·simp
 rw[ltR_wo,gtR_wo]
 cases hf:bsF (cmpQ x.pfx) l with
 |true=>rw[←bs_set (strictR hR _) x hf];simp
 |false=>
  rw[←bs_ins (strictR hR _) x hf]
  simp only[List.length_append,List.length_cons,List.length_take,List.length_drop]
  omega
theorem delRt_sz (l:List Route) (p:Pfx):(delRt l p).1.length≤l.length:=by
 unfold delRt
 split
 ·simp
 ·exact woR_len _ _
theorem putLk_sz (l:List Link) (x:Link):(putLk l x).1.length≤l.length+1:=by
 unfold putLk
 split
 ·simp
 rename_i hc
 have hR:checkL l=0:=by apply Classical.byContradiction;intro hn;exact hc (.inl hn)
 split
 ·simp
 rw[ltL_cmp,gtL_cmp]
 cases hf:bsF (cmpL x.iface) l with
 |true=>rw[←bs_set (strictL hR _) x hf];simp
 |false=>
  rw[←bs_ins (strictL hR _) x hf]
  simp only[List.length_append,List.length_cons,List.length_take,List.length_drop]
  omega
theorem delLk_sz (l:List Link) (i:Int):(delLk l i).1.length≤l.length:=by
 unfold delLk
 split
 ·simp
 rename_i hc
 have hR:checkL l=0:=by apply Classical.byContradiction;intro hn;exact hc hn
 rw[ltL_cmp,gtL_cmp,←bs_ne (strictL hR i)]
 exact List.length_filter_le _ _
theorem applyR_sz (r:Router) (e:Ev):sz (applyR r e).1≤sz r+if growsE e then 1 else 0:=by
 have b1:=putRt_sz r.routes ⟨e.pfx,e.act⟩
 have b2:=delRt_sz r.routes e.pfx
 have b3:=putLk_sz r.links ⟨e.iface,e.peer⟩
 have b4:=delLk_sz r.links e.iface
 have hg3:e.kind=3→growsE e=true:=fun h=>by simp[growsE,h]
 have hg5:e.kind=5→growsE e=true:=fun h=>by simp[growsE,h]
 unfold applyR
 split
 ·simp[sz,router0]
 split
 ·simp
 split
 ·simp
 split
 ·simp[sz]
 split
 ·simp[sz]
 split
 ·rename_i h
  rw[hg3 h]
  split
  ·simp[sz];omega
  ·simp
 split
 ·simp[sz];omega
 split
 ·rename_i h
  rw[hg5 h]
  split
  ·simp[sz];omega
  ·simp
 ·simp[sz];omega
theorem happensF_sum {n:Net} {e:Ev} {hz:Int} (hok:netOk n=true) (h:(happensF n e hz).2=0):sumR (happensF n e hz).1.routers≤sumR n.routers+if growsE e then 1 else 0:=by
 have hok2:=happensF_ok (e:=e) (hz:=hz) hok
 obtain⟨h1,h2,h3⟩:=happensF_zero h
 have hx:happensF n e hz=(netAfter n e hz,0):=by
  unfold happensF
  rw[if_neg (by omega),if_neg (by omega),if_neg h3]
 rw[hx]at hok2⊢
 have hm:=(netOk_many hok2).1
 obtain⟨c1,c2,c3⟩:=many_after hok h1 h2
 have hs:=applyR_sz (mineN n e) e
 simp only at hm⊢
 rw[c1]at hm
 omega
end Go.Am
namespace Go.Am
open Go.Proofs
def Rel (t:Int) (N M:Net):Prop:=∀r,(seatF M.seats r=seatF N.seats r∧routerF M.routers r=routerF N.routers r)∨∃s,seatF N.seats r=some s∧t<s.time
def Sub (N M:Net):Prop:=∀r,seatF N.seats r=none→seatF M.seats r=none
theorem sorted_le:∀(b a:List Int),a.Pairwise (·<·)→b.Pairwise (·<·)→(∀x∈a,x∈b)→a.length≤b.length
 |[],a,_,_,h=>by
  cases a with
  |nil=>exact Nat.le_refl _
  |cons x a=>exact absurd (h x List.mem_cons_self) (by simp)
 |y::b,[],_,_,_=>Nat.zero_le _
 |y::b,x::a,ha,hb,h=>by
  have ha1:=List.pairwise_cons.1 ha
  have hb1:=List.pairwise_cons.1 hb
  by_cases hxy:x=y
  ·subst hxy
   have:=sorted_le b a ha1.2 hb1.2 fun z hz=>by
    have h1:=ha1.1 z hz
    rcases List.mem_cons.1 (h z (List.mem_cons_of_mem _ hz))with rfl|h2
    ·omega
    ·exact h2
   simp only[List.length_cons]
   omega
  ·have hx:x∈b:=(List.mem_cons.1 (h x List.mem_cons_self)).resolve_left hxy
   have hyx:=hb1.1 x hx
   have:=sorted_le b (x::a) ha hb1.2 fun z hz=>by
    rcases List.mem_cons.1 hz with rfl|hz'
    ·exact hx
    ·have h1:=ha1.1 z hz'
     rcases List.mem_cons.1 (h z hz)with rfl|h2
     ·omega
     ·exact h2
   simp only[List.length_cons]at*
   omega
theorem sub_len {N M:Net} (hN:netOk N=true) (hM:netOk M=true) (h:Sub N M):M.seats.length≤N.seats.length:=by
 have:=sorted_le (N.seats.map Seat.router) (M.seats.map Seat.router) (by rw[List.pairwise_map];exact checkS_sorted (netOk_checkS hM)) (by rw[List.pairwise_map];exact checkS_sorted (netOk_checkS hN)) fun x hx=>by
  obtain⟨s,hs,rfl⟩:=List.mem_map.1 hx
  apply Classical.byContradiction
  intro hn
  have h1:seatF N.seats s.router=none:=by
   rw[seatF_none]
   rintro⟨u,hu,hur⟩
   exact hn (List.mem_map.2 ⟨u,hu,hur⟩)
  have h2:=h _ h1
  rw[seatF_none]at h2
  exact h2 ⟨s,hs,rfl⟩
 simpa using this
theorem mayT_time {l:List Seat} {e:Ev} {hz:Int} (h:mayT l e hz=0):((seatF l e.router).getD seat0).time≤e.time:=by
 unfold mayT at h
 split at h
 ·cases h
 split at h
 ·cases h
 split at h
 ·cases h
 omega
theorem mayT_same {l m:List Seat} {e:Ev} {hz:Int} (h:mayT l e hz=0) (hs:seatF m e.router=seatF l e.router) (hl:seatF l e.router=none→¬m.length=64):mayT m e hz=0:=by
 unfold mayT at h⊢
 rw[hs]
 split at h
 ·cases h
 rename_i c1
 split at h
 ·cases h
 rename_i c2
 split at h
 ·cases h
 rename_i c3
 split at h
 ·cases h
 rename_i c4
 rw[if_neg c1,if_neg c2,if_neg c3,if_neg c4,if_neg]
 rintro⟨h1,h2⟩
 exact hl h1 h2
theorem happens_like {N M:Net} {e:Ev} {hz:Int} (hN:netOk N=true) (hM:netOk M=true) (h:(happensF N e hz).2=0) (hs:seatF M.seats e.router=seatF N.seats e.router) (hr:routerF M.routers e.router=routerF N.routers e.router)
  (hl:seatF N.seats e.router=none→¬M.seats.length=64) (hsum:sumR M.routers+(if growsE e then 1 else 0)≤1024):(happensF M e hz).2=0∧mineN M e=mineN N e:=by
 obtain⟨h1,h2,h3⟩:=happensF_zero h
 obtain⟨g1,g2,g3,g4,g5⟩:=mayS_zero h1
 have hmine:mineN M e=mineN N e:=by unfold mineN;rw[hr]
 have k1:mayS M.seats e hz=0:=by
  rw[mayS_T (netOk_checkS hM) g2 g3 g4]
  exact mayT_same g5 hs hl
 have k2:(applyR (mineN M e) e).2=0:=by rw[hmine];exact h2
 have k3:¬1024<many (netAfter M e hz).routers 0:=by
  obtain⟨c1,c2,c3⟩:=many_after hM k1 k2
  have hsz:=applyR_sz (mineN M e) e
  rw[c1]
  omega
 refine⟨?_,hmine⟩
 unfold happensF
 rw[if_neg (by omega),if_neg (by omega),if_neg k3]
theorem rel_step {N M:Net} {e:Ev} {hz t:Int} (hN:netOk N=true) (hM:netOk M=true) (h:(happensF N e hz).2=0) (hrel:Rel t N M) (hsub:Sub N M) (het:e.time≤t) (hsum:sumR M.routers+(if growsE e then 1 else 0)≤1024):
  (happensF M e hz).2=0∧Rel t (happensF N e hz).1 (happensF M e hz).1∧Sub (happensF N e hz).1 (happensF M e hz).1:=by
 obtain⟨h1,h2,h3⟩:=happensF_zero h
 obtain⟨g1,g2,g3,g4,g5⟩:=mayS_zero h1
 rcases hrel e.router with⟨hs,hr⟩|⟨s,hs,hst⟩
 ·have hlen:=sub_len hN hM hsub
  have h64:=netOk_seats hN
  obtain⟨k,hmine⟩:=happens_like hN hM h hs hr (fun hn=>by have:=mayT_len g5 hn;omega) hsum
  obtain⟨n1,n2⟩:=happensF_get hN h
  obtain⟨m1,m2⟩:=happensF_get hM k
  refine⟨k,fun r=>?_,fun r hr0=>?_⟩
  ·rw[n1,n2,m1,m2,hmine]
   by_cases hre:r=e.router
   ·simp only[if_pos hre]
    exact .inl (by simp)
   ·simp only[if_neg hre]
    exact hrel r
  ·rw[n1]at hr0
   rw[m1]
   by_cases hre:r=e.router
   ·rw[if_pos hre]at hr0;cases hr0
   ·rw[if_neg hre]at hr0⊢
    exact hsub r hr0
 ·have:=mayT_time g5
  rw[hs]at this
  simp only[Option.getD_some]at this
  omega
theorem rel_late {N M:Net} {e:Ev} {hz t:Int} (hN:netOk N=true) (h:(happensF N e hz).2=0) (hrel:Rel t N M) (hsub:Sub N M) (het:t<e.time):Rel t (happensF N e hz).1 M∧Sub (happensF N e hz).1 M:=by
 obtain⟨n1,n2⟩:=happensF_get hN h
 refine⟨fun r=>?_,fun r hr0=>?_⟩
 ·rw[n1,n2]
  by_cases hre:r=e.router
  ·simp only[if_pos hre]
   exact .inr ⟨seatOf e,rfl,het⟩
  ·simp only[if_neg hre]
   exact hrel r
 ·rw[n1]at hr0
  by_cases hre:r=e.router
  ·rw[if_pos hre]at hr0;cases hr0
  ·rw[if_neg hre]at hr0
   exact hsub r hr0
theorem allGo_step {hz:Int} {e:Ev} {l:List Ev} {n:Net} {i:Int} (h:(allGo hz (e::l) n i).2.2=0):(happensF n e hz).2=0∧allGo hz (e::l) n i=allGo hz l (happensF n e hz).1 (i+1):=by
 rw[allGo]at h
 split at h
 ·rename_i h1
  exact⟨h1,by rw[allGo,if_pos h1]⟩
 ·rename_i h1
  exact absurd h h1
theorem filt_all {t hz:Int}:∀(l:List Ev) (N M:Net) (i j:Int),netOk N=true→netOk M=true→Rel t N M→Sub N M→sumR M.routers+addsE (upto t l)≤1024→(allGo hz l N i).2.2=0→
  (allGo hz (upto t l) M j).2.2=0∧Rel t (allGo hz l N i).1 (allGo hz (upto t l) M j).1∧netOk (allGo hz (upto t l) M j).1=true
 |[],N,M,i,j,hN,hM,hr,hs,_,_=>⟨rfl,hr,hM⟩
 |e::l,N,M,i,j,hN,hM,hr,hs,hsum,h=>by
  obtain⟨h1,h2⟩:=allGo_step h
  rw[h2]at h⊢
  have hN':=happensF_ok (e:=e) (hz:=hz) hN
  by_cases het:e.time≤t
  ·have hu:upto t (e::l)=e::upto t l:=by unfold upto;rw[List.filter_cons,if_pos (by simpa using het)]
   have ha:addsE (upto t (e::l))=addsE (upto t l)+if growsE e then 1 else 0:=by
    rw[hu]
    unfold addsE growsE
    rw[List.countP_cons]
   rw[ha]at hsum
   obtain⟨k1,k2,k3⟩:=rel_step hN hM h1 hr hs het (by omega)
   have hM':=happensF_ok (e:=e) (hz:=hz) hM
   have hsz:=happensF_sum hM k1
   rw[hu,allGo,if_pos k1]
   exact filt_all l _ _ _ _ hN' hM' k2 k3 (by omega) h
  ·have hu:upto t (e::l)=upto t l:=by unfold upto;rw[List.filter_cons,if_neg (by simpa using het)]
   rw[hu]at hsum⊢
   obtain⟨k2,k3⟩:=rel_late hN h1 hr hs (by omega)
   exact filt_all l _ _ _ _ hN' hM k2 k3 hsum h
theorem addsE_upto (t:Int) (l:List Ev):addsE (upto t l)≤addsE l:=(List.filter_sublist).countP_le
theorem okP_base {p:Past} (h:okP p=true):netOk p.base=true:=by
 unfold okP at h
 simp only[Bool.and_eq_true,decide_eq_true_eq]at h
 exact allN_ok h.1.2
theorem okP_all {p:Past} (h:okP p=true):(allGo p.hz p.evs p.base 0).2.2=0:=by
 have hb:=okP_base h
 unfold okP at h
 simp only[Bool.and_eq_true,decide_eq_true_eq]at h
 have:=h.1.2
 unfold allN at this
 rw[if_neg (by simp[hb])]at this
 exact this
theorem okP_sum {p:Past} (h:okP p=true):sumR p.base.routers+addsE p.evs≤1024:=by
 have hb:=okP_base h
 have hw:=okP_weight h
 have hm:=(netOk_many hb).1
 unfold weightF sizeN at hw
 rw[if_pos hb,hm]at hw
 omega
theorem Rel.refl (t:Int) (N:Net):Rel t N N:=fun r=>.inl ⟨rfl,rfl⟩
theorem thenW_ok {p:Past} (h:okP p=true) (t:Int):thenW p t=0:=by
 have hb:=okP_base h
 have hs:=okP_sum h
 have ha:=addsE_upto t p.evs
 unfold thenW allN
 rw[if_neg (by simp[hb])]
 exact(filt_all p.evs p.base p.base 0 0 hb hb (Rel.refl _ _) (fun r h=>h) (by omega) (okP_all h)).1
end Go.Am
namespace Go.Am
open Go.Proofs
end Go.Am
namespace Go.Am
open Go.Proofs
end Go.Am
namespace Go.Am
open Go.Proofs
theorem nowP_go {p:Past} (h:okP p=true):nowP p=(allGo p.hz p.evs p.base 0).1:=by
 unfold nowP allN
 rw[if_neg (by simp[okP_base h])]
theorem thenF_go {p:Past} (h:okP p=true) (t:Int):thenF p t=(allGo p.hz (upto t p.evs) p.base 0).1:=by
 unfold thenF allN
 rw[if_neg (by simp[okP_base h])]
theorem thenF_all {p:Past} (h:okP p=true) (t:Int):(allGo p.hz (upto t p.evs) p.base 0).2.2=0∧Rel t (nowP p) (thenF p t)∧netOk (thenF p t)=true:=by
 have hb:=okP_base h
 have hs:=okP_sum h
 have ha:=addsE_upto t p.evs
 rw[nowP_go h,thenF_go h]
 exact filt_all p.evs p.base p.base 0 0 hb hb (Rel.refl _ _) (fun r h=>h) (by omega) (okP_all h)
end Go.Am
namespace Go.Am
open Go.Proofs
end Go.Am
namespace Go.Am
open Go.Proofs
theorem atO_spec (p:Past) (t:Int) (hew:∀e∈p.evs,0≤e.seq):FSpec Tryz.prog 30 [p.av,.int .i64 t] []
  (.tup [(if okP p=true∧askT p t=0 then thenF p t else net0).av,.int .i64 (if okP p then askT p t else 2)]) []:=by
 have h:=atP_spec p t hew
 have e:(if okP p then(if askT p t=0 then thenW p t else askT p t)else 2)=if okP p then askT p t else 2:=by
  by_cases hok:okP p=true
  ·rw[if_pos hok,if_pos hok]
   by_cases hb:askT p t=0
   ·rw[if_pos hb,hb,thenW_ok hok]
   ·rw[if_neg hb]
  ·rw[if_neg hok,if_neg hok]
 rw[e]at h
 exact h
def lP0:Past:=⟨⟨[],[]⟩,-1,[]⟩
end Go.Am
namespace Go.Am
open Go.Proofs
def evSh:List Sh:=[.int .u8,.int .i64,.int .u64,.int .i64,.bool,.int .u64,.int .u64,.int .i64,.int .u8,.int .i64,.int .i64,.int .i64]
def pastSh:List Sh:=[.sl seatSh,.sl routerSh,.int .i64,.sl evSh]
def ivlSh:List Sh:=[.int .i64,.int .i64]
theorem ev_of (y:List IV) (h:Sh.hasL evSh y):∃e:Ev,(0≤e.seq∧e.pfx.addr.wf)∧y=e.iv:=by
 obtain⟨a,_,rfl,ha,h⟩:=hasL_cons h
 obtain⟨b,_,rfl,hb,h⟩:=hasL_cons h
 obtain⟨c,_,rfl,hc,h⟩:=hasL_cons h
 obtain⟨d,_,rfl,hd,h⟩:=hasL_cons h
 obtain⟨e,_,rfl,he,h⟩:=hasL_cons h
 obtain⟨f,_,rfl,hf,h⟩:=hasL_cons h
 obtain⟨g,_,rfl,hg,h⟩:=hasL_cons h
 obtain⟨i,_,rfl,hi,h⟩:=hasL_cons h
 obtain⟨j,_,rfl,hj,h⟩:=hasL_cons h
 obtain⟨k,_,rfl,hk,h⟩:=hasL_cons h
 obtain⟨l,_,rfl,hl,h⟩:=hasL_cons h
 obtain⟨m,_,rfl,hm,h⟩:=hasL_cons h
 cases hasL_nil h
 obtain⟨a,rfl,_⟩:=has_int ha
 obtain⟨b,rfl,_⟩:=has_int hb
 obtain⟨c,rfl,wc⟩:=has_int hc
 obtain⟨d,rfl,_⟩:=has_int hd
 obtain⟨e,rfl⟩:=has_bool he
 obtain⟨f,rfl,wf⟩:=has_int hf
 obtain⟨g,rfl,wg⟩:=has_int hg
 obtain⟨i,rfl,_⟩:=has_int hi
 obtain⟨j,rfl,_⟩:=has_int hj
 obtain⟨k,rfl,_⟩:=has_int hk
 obtain⟨l,rfl,_⟩:=has_int hl
 obtain⟨m,rfl,_⟩:=has_int hm
 exact⟨⟨a,b,c,d,⟨e,⟨f,g⟩,i⟩,⟨j,k⟩,l,m⟩,⟨(u64_wf wc).1,⟨(u64_wf wf).1,(u64_wf wf).2,u64_wf wg⟩⟩,rfl⟩
theorem past_of (y:List IV) (h:Sh.hasL pastSh y):∃p:Past,p.wf∧y.map AV.im=[.im (.sl 4 (p.base.seats.map Seat.iv)),.im (.sl 4 (p.base.routers.map Router.iv)),.int .i64 p.hz,.im (.sl 12 (p.evs.map Ev.iv))]:=by
 obtain⟨a,_,rfl,ha,h⟩:=hasL_cons h
 obtain⟨b,_,rfl,hb,h⟩:=hasL_cons h
 obtain⟨c,_,rfl,hc,h⟩:=hasL_cons h
 obtain⟨d,_,rfl,hd,h⟩:=hasL_cons h
 cases hasL_nil h
 obtain⟨a,rfl,wa⟩:=has_sl ha
 obtain⟨b,rfl,wb⟩:=has_sl hb
 obtain⟨c,rfl,_⟩:=has_int hc
 obtain⟨d,rfl,wd⟩:=has_sl hd
 obtain⟨ss,rfl,_⟩:=rows_of seat_of a wa
 obtain⟨rs,rfl,hr⟩:=rows_of router_of b wb
 obtain⟨es,rfl,hes⟩:=rows_of ev_of d wd
 exact⟨⟨⟨ss,rs⟩,c,es⟩,⟨hr,hes⟩,rfl⟩
theorem int1_of {x:List IV} (h:Sh.hasL [.int .i64] x):∃t:Int,x=[.sc (.int .i64 t)]:=by
 obtain⟨a,_,rfl,ha,h⟩:=hasL_cons h
 cases hasL_nil h
 obtain⟨a,rfl,_⟩:=has_int ha
 exact⟨a,rfl⟩
theorem ivl_of {x:List IV} (h:Sh.hasL ivlSh x):∃a b:Int,x=[.sc (.int .i64 a),.sc (.int .i64 b)]:=by
 obtain⟨a,_,rfl,ha,h⟩:=hasL_cons h
 obtain⟨b,_,rfl,hb,h⟩:=hasL_cons h
 cases hasL_nil h
 obtain⟨a,rfl,_⟩:=has_int ha
 obtain⟨b,rfl,_⟩:=has_int hb
 exact⟨a,b,rfl⟩
end Go.Am
namespace Go.Am
open Go.Proofs
theorem past_arg (y:List IV) (h:Sh.hasL pastSh y):∃p:Past,p.wf∧argAV Tryz.prog 28 y=p.av:=by
 obtain⟨p,hp,ep⟩:=past_of y h
 refine⟨p,hp,?_⟩
 simp only[argAV,Tryz.underlying28,ep]
 rfl
end Go.Am
namespace Go.Am
open Go.Proofs
end Go.Am
namespace Go.Am
open Go.Proofs
theorem allGo_wf {hz:Int}:∀(l:List Ev) (n:Net) (i:Int),n.wf→(∀e∈l,e.pfx.addr.wf)→(allGo hz l n i).1.wf
 |[],n,i,h,_=>h
 |e::l,n,i,h,hl=>by
  rw[allGo]
  split
  ·exact allGo_wf l _ _ (happensF_wf h (hl e List.mem_cons_self)) fun x hx=>hl x (List.mem_cons_of_mem _ hx)
  ·exact h
theorem net0_wf:net0.wf:=by intro r hr;cases hr
theorem allN_wf {n:Net} {l:List Ev} {hz:Int} (h:n.wf) (hl:∀e∈l,e.pfx.addr.wf):(allN n l hz).1.wf:=by
 unfold allN
 split
 ·exact net0_wf
 ·exact allGo_wf l n 0 h hl
end Go.Am
namespace Go.Am
open Go.Proofs
def askV (p:Past) (r:Int) (six:Bool) (x:Addr4) (a b:Int):Int:=if okP p=false∨rightA six x=false then 2 else if oneI a b=false∨r<0∨1048576<r then 1 else if a<p.hz then 15 else 0
set_option maxRecDepth 8000 in
theorem askedV_spec (p:Past) (r:Int) (six:Bool) (x:Addr4) (a b:Int) (hw:p.wf):
  FSpec Tryz.prog 63 [p.av,.int .i64 r,.bool six,x.av,.agg [.int .i64 a,.int .i64 b]] [] (.int .i64 (askV p r six x a b)) []:=by
 have h1:=checkP_spec_ p fun e he=>(hw.2 e he).1
 have h2:=rightA_spec six x
 have h3:=window_spec p a b
 unfold winW at h3
 unfold askV
 generalize okP p=O at*
 generalize rightA six x=R at*
 generalize oneI a b=W at*
 refine FSpec.of_flat (q:=[]) Tryz.func63 (by kernel_rfl) rfl Tryz.ntmps63 Tryz.results63 hP (by kernel_rfl) (by simp) (by first|rfl|simp) ?_
 simp -implicitDefEqProofs
 first|refine CallK.same (h1) rfl rfl ?_|refine CallQ.same (h1) rfl rfl ?_|refine CallQG.same _ (h1) rfl ?_|refine CallG.same _ (h1) rfl ?_|refine CallK.pv (h1) rfl rfl ?_
 simp -implicitDefEqProofs
 cases O with
 |false=>
  simp -implicitDefEqProofs
  first|refine CallG.off (.bool true) ?_|(refine CallG.on ?_;(first|refine CallK.same (h2) rfl rfl ?_|refine CallQ.same (h2) rfl rfl ?_|refine CallQG.same _ (h2) rfl ?_|refine CallG.same _ (h2) rfl ?_|refine CallK.pv (h2) rfl rfl ?_))
  simp -implicitDefEqProofs
 |true=>
  simp -implicitDefEqProofs
  first|refine CallG.off (.bool true) ?_|(refine CallG.on ?_;(first|refine CallK.same (h2) rfl rfl ?_|refine CallQ.same (h2) rfl rfl ?_|refine CallQG.same _ (h2) rfl ?_|refine CallG.same _ (h2) rfl ?_|refine CallK.pv (h2) rfl rfl ?_))
  simp -implicitDefEqProofs
  cases R with
  |false=>simp -implicitDefEqProofs
  |true=>
   simp -implicitDefEqProofs
   first|refine CallK.same (h3) rfl rfl ?_|refine CallQ.same (h3) rfl rfl ?_|refine CallQG.same _ (h3) rfl ?_|refine CallG.same _ (h3) rfl ?_|refine CallK.pv (h3) rfl rfl ?_
   cases W with
   |false=>simp -implicitDefEqProofs
   |true=>
    simp -implicitDefEqProofs
    by_cases ha:a<p.hz<;>by_cases hr1:r<0<;>by_cases hr2:1048576<r<;>simp[ha,hr1,hr2,impB]<;>omega
set_option maxRecDepth 8000 in
theorem askedVr_spec (p:Past) (r:Int) (six:Bool) (x:Addr4) (a b:Int) (hw:p.wf) (hx:x.wf):
  FSpec Tryz.prog 75 [p.av,.int .i64 r,.bool six,x.av,.agg [.int .i64 a,.int .i64 b]] [] (.int .i64 (askV p r six x a b)) []:=by
 have h1:=checkPr21_spec p hw
 have h2:=rightAr_spec six x hx
 have h3:=one_spec a b
 rw[show(decide (0≤a)&&decide (a≤b)&&decide (b≤1099511627776))=oneI a b from rfl]at h3
 unfold askV
 generalize okP p=O at*
 generalize rightA six x=R at*
 generalize oneI a b=W at*
 refine FSpec.of_flat (q:=[]) Tryz.func75 (by kernel_rfl) rfl Tryz.ntmps75 Tryz.results75 hP (by kernel_rfl) (by simp) (by first|rfl|simp) ?_
 simp -implicitDefEqProofs
 first|refine CallK.same (h1) rfl rfl ?_|refine CallQ.same (h1) rfl rfl ?_|refine CallQG.same _ (h1) rfl ?_|refine CallG.same _ (h1) rfl ?_|refine CallK.pv (h1) rfl rfl ?_
 simp -implicitDefEqProofs
 cases O with
 |false=>
  simp -implicitDefEqProofs
  first|refine CallG.off (.bool true) ?_|(refine CallG.on ?_;(first|refine CallK.same (h2) rfl rfl ?_|refine CallQ.same (h2) rfl rfl ?_|refine CallQG.same _ (h2) rfl ?_|refine CallG.same _ (h2) rfl ?_|refine CallK.pv (h2) rfl rfl ?_))
  simp -implicitDefEqProofs
 |true=>
  simp -implicitDefEqProofs
  first|refine CallG.off (.bool true) ?_|(refine CallG.on ?_;(first|refine CallK.same (h2) rfl rfl ?_|refine CallQ.same (h2) rfl rfl ?_|refine CallQG.same _ (h2) rfl ?_|refine CallG.same _ (h2) rfl ?_|refine CallK.pv (h2) rfl rfl ?_))
  simp -implicitDefEqProofs
  cases R with
  |false=>simp -implicitDefEqProofs
  |true=>
   simp -implicitDefEqProofs
   first|refine CallK.same (h3) rfl rfl ?_|refine CallQ.same (h3) rfl rfl ?_|refine CallQG.same _ (h3) rfl ?_|refine CallG.same _ (h3) rfl ?_|refine CallK.pv (h3) rfl rfl ?_
   cases W with
   |false=>simp -implicitDefEqProofs
   |true=>
    simp -implicitDefEqProofs
    by_cases ha:a<p.hz<;>by_cases hr1:r<0<;>by_cases hr2:1048576<r<;>simp[ha,hr1,hr2,impB]<;>omega
end Go.Am
namespace Go.Am
open Go.Proofs
def endT (b:Int) (ts:List Int) (k:Nat):Int:=if k+1<ts.length then ts.getD (k+1) 0-1 else b
def accE {T:Type} [DecidableEq T] (f:Int→T) (b:Int) (ts:List Int):Nat→List (Pc T)
 |0=>[]
 |k+1=>addPc (accE f b ts k) (ts.getD k 0) (endT b ts k) (f (ts.getD k 0))
theorem accE_acc {T:Type} [DecidableEq T] (f:Int→T) (b:Int) (ts:List Int):∀k,k<ts.length→accE f b ts k=accG f ts k
 |0,_=>rfl
 |k+1,h=>by rw[accE,accG,accE_acc f b ts k (by omega),endT,if_pos h]
theorem accE_all {T:Type} [DecidableEq T] (f:Int→T) (b:Int) (ts:List Int) (n:Nat) (h:ts.length=n+1):accE f b ts ts.length=lineG f b ts []:=by
 rw[lineG_acc f b ts n h,h,accE,accE_acc f b ts n (by omega),endT,if_neg (by omega)]
theorem accE_len {T:Type} [DecidableEq T] (f:Int→T) (b:Int) (ts:List Int):∀k,(accE f b ts k).length≤k
 |0=>Nat.le_refl _
 |k+1=>by
  have h1:=accE_len f b ts k
  have h2:=addPc_len (accE f b ts k) (ts.getD k 0) (endT b ts k) (f (ts.getD k 0))
  rw[accE]
  omega
theorem accE_p {T:Type} [DecidableEq T] (p:Past) (F:Net→T) (a b:Int):accE (fun t=>F (thenF p t)) b (a::timesF p.evs a b) (a::timesF p.evs a b).length=lineP p F a b:=accE_all _ _ _ _ rfl
theorem askV_zero {p:Past} {r:Int} {six:Bool} {x:Addr4} {a b:Int} (h:askV p r six x a b=0):okP p=true∧rightA six x=true∧oneI a b=true∧0≤r∧r≤1048576∧p.hz≤a:=by
 unfold askV at h
 split at h
 ·cases h
 split at h
 ·cases h
 split at h
 ·cases h
 rename_i h1 h2 h3
 simp at h1 h2
 exact⟨h1.1,h1.2,h2.1,h2.2.1,h2.2.2,by omega⟩
theorem oneI_le {a b:Int} (h:oneI a b=true):0≤a∧a≤b∧b≤1099511627776:=by
 unfold oneI at h
 simp at h
 exact⟨h.1.1,h.1.2,h.2⟩
theorem ask_timesW {p:Past} {r:Int} {six:Bool} {x:Addr4} {a b:Int} (h:askV p r six x a b=0):timesW p a b=0:=by
 obtain⟨h1,h2,h3,h4,h5,h6⟩:=askV_zero h
 unfold timesW winW
 rw[if_neg (by simp[h1]),if_neg (by simp[h3]),if_neg (by omega)]
theorem timesF_bd {l:List Ev} {a b t:Int} (h:oneI a b=true) (ht:t∈a::timesF l a b):0≤t∧t≤1099511627776:=by
 have:=oneI_le h
 rcases List.mem_cons.1 ht with rfl|ht
 ·omega
 ·have:=timesF_in ht;omega
theorem timesF_len (l:List Ev) (a b:Int):(timesF l a b).length≤l.length:=by
 unfold timesF
 have h1:=dedup_len (sortI (happT l a b))
 rw[(sortI_perm _).length_eq]at h1
 have h2:=happT_len l a b
 omega
set_option maxRecDepth 8000 in
theorem timesD_spec (p:Past) (a b:Int) (hw:p.wf) (h:timesW p a b=0) (hok:okP p=true):FSpec Tryz.prog 76 [p.av,.agg [.int .i64 a,.int .i64 b]] [] (.im (.sl 1 (rowN (a::timesF p.evs a b)))) []:=by
 have h1:=timesPr_spec p a b hw
 rw[h,if_pos rfl]at h1
 have hl:=okP_len hok
 have hl2:=timesF_len p.evs a b
 generalize timesF p.evs a b=D at*
 refine FSpec.of_z (q:=[]) Tryz.func76 (by kernel_rfl) rfl Tryz.ntmps76 Tryz.results76 hP (by kernel_rfl) (by simp) (by first|rfl|simp) ?_
 simp -implicitDefEqProofs
 first|refine CallK.same (h1) rfl rfl ?_|refine CallQ.same (h1) rfl rfl ?_|refine CallQG.same _ (h1) rfl ?_|refine CallG.same _ (h1) rfl ?_|refine CallK.pv (h1) rfl rfl ?_
 simp -implicitDefEqProofs
 refine⟨⟨by omega,by unfold maxLen;omega⟩,?_⟩
 refine EndZ.ret [3] (.row 3) (by simp) (by simp[rowN])
end Go.Am
namespace Go.Am
open Go.Proofs
attribute [local simp] kindsO
def wasVd (f:Int→Verd) (ts:List Int):Nat→List AV
 |0=>[.int .u8 0,.int .i64 0]
 |k+1=>[.int .u8 (f (ts.getD k 0)).kind,.int .i64 (f (ts.getD k 0)).at_]
deriving instance DecidableEq for Verd
set_option maxRecDepth 8000 in
set_option maxHeartbeats 4000000 in
theorem lineVd_spec (p:Past) (a b:Int) (g:FuncId) (F:Net→Verd) (router:Int) (six:Bool) (x:Addr4) (hok:okP p=true) (hew:∀e∈p.evs,0≤e.seq)
  (hw:p.wf) (hg:∀n:Net,n.wf→netOk n=true→FSpec Tryz.prog g [n.av,.ptr 1 0,.ptr 2 0,.ptr 3 0] [kindsO,.box 3 [.int .i64 router],.box 4 [.bool six],.box 31 [.int .u64 x.hi,.int .u64 x.lo]] (F n).av [kindsO,.box 3 [.int .i64 router],.box 4 [.bool six],.box 31 [.int .u64 x.hi,.int .u64 x.lo]]) (hbd:∀t∈a::timesF p.evs a b,0≤t∧t≤1099511627776) (hasT:∀t∈a::timesF p.evs a b,askT p t=0):
  FSpec Tryz.prog 64 [p.av,.agg [.int .i64 a,.int .i64 b],.fn g [.ptr 1 0,.ptr 2 0,.ptr 3 0]] [kindsO,.box 3 [.int .i64 router],.box 4 [.bool six],.box 31 [.int .u64 x.hi,.int .u64 x.lo]] (.ptr 4 0) [kindsO,.box 3 [.int .i64 router],.box 4 [.bool six],.box 31 [.int .u64 x.hi,.int .u64 x.lo],lineVd 5,rowVd (lineP p F a b)]:=by
 have hl:=okP_len hok
 have htm:=timesK_spec p a b (by omega)
 refine FSpec.of_o (q:=[(2,.m [.p [] [],.p [] [],.a 0 1,.p [1] [],.p [1] [0],.a 1 0,.a 2 0,.a 3 0,.e [8,16]])]) Tryz.func64 (by kernel_rfl) rfl Tryz.ntmps64 Tryz.results64 hP (by kernel_rfl) (by simp) (by first|rfl|simp) ?_
 simp -implicitDefEqProofs
 refine CallK.outs [] (eachO_spec p a b) rfl (by simp) (by simp[AV.flat]) ?_
 simp -implicitDefEqProofs [rangeK]
 intro a0 b0 rr
 refine⟨_,_,_,[(1,.m [.p [1] [],.p [1] [],.a 0 1,.p [] [],.p [] [],.e [16,17],.e [15,18],.e [19],.p [] [],.p [0,1,2] []])],Tryz.func211,(by kernel_rfl),rfl,Tryz.ntmps211,Tryz.results211,(by kernel_rfl),(by simp),?_⟩
 simp -implicitDefEqProofs
 refine CallO.mk [] [17] htm (by simp) rfl (by simp) (by simp) (by simp) ?_
 simp -implicitDefEqProofs
 have hcc:=concatN_spec [[a],timesF p.evs a b] (by simp[sumM];have:=timesF_len p.evs a b;omega) (by simp)
 simp only[List.flatten_cons,List.flatten_nil,List.append_nil,List.singleton_append]at hcc
 have hcl:(a::timesF p.evs a b).length≤2000:=by have:=timesF_len p.evs a b;simp;omega
 refine CallK.outs [18,19] hcc rfl (by simp[rowM,rowN]) (by simp[AV.flat,rowN]) ?_
 generalize hts:a::timesF p.evs a b=ts at*
 simp -implicitDefEqProofs
 have h0:ts[0]?.getD 0=a:=by rw[←hts];rfl
 have hpos:0<ts.length:=by rw[←hts];simp
 refine LoopK.nil (.cl 7 0 126 4) ?_
 simp -implicitDefEqProofs
 refine LoopK.os (fun k:Nat=>[(0,.yld 14),(4,.ptr 12 0),(20,.im (.sl 1 (rowN ts))),(21,.int .i64 ts.length),(22,.int .i64 k)])
  (fun k=>[kindsO,.box 3 [.int .i64 router],.box 4 [.bool six],.box 31 [.int .u64 x.hi,.int .u64 x.lo],.box 43 [.int .i64 a,.int .i64 b],
   .box 121 [.fn g [.ptr 1 0,.ptr 2 0,.ptr 3 0]],lineVd 7,rowVd (accG (fun t=>F (thenF p t)) ts (k-1)),.box 119 [.ptr 6 0],
   .box 2 [.int .i64 (ts.getD (k-1) 0)],.box 35 (wasVd (fun t=>F (thenF p t)) ts k),.box 4 [.bool (decide (0<k))],bookI p,
   .sv a0 [(4,.ptr 4 0),(5,.ptr 5 0),(7,.ptr 8 0),(8,.ptr 9 0),(9,.ptr 10 0),(10,.ptr 11 0)],.lp b0 rr .ready none])
  (fun k=>k≤ts.length) (fun k=>ts.length-k) 0 [0,1,2,3,5,6,7,20,8,10,11,12,17,15,16] (Nat.zero_le _) (by simp[renM,accG,wasVd,h0];rintro _ _ (⟨rfl,rfl⟩|⟨rfl,rfl⟩|⟨rfl,rfl⟩|⟨rfl,rfl⟩|⟨rfl,rfl⟩|⟨rfl,rfl⟩)<;>rfl) ?_
 intro k hk
 by_cases hlt:k<ts.length
 ·have e1:IntKind.i64.wrap (k+1)=(k+1:Nat):=wrap64 (by omega) (by omega)
  have hgt:=rowN_get hlt
  have htk:=hasT ts[k] (List.getElem_mem hlt)
  have hat:=atK_spec p ts[k] hew (by omega) htk
  rw[thenW_ok hok]at hat
  have hgf:=hg (thenF p ts[k]) (allN_wf hw.1 fun e he=>(hw.2 e (List.mem_filter.1 he).1).2) (thenF_all hok ts[k]).2.2
  have hgd:ts[k]?.getD 0=ts[k]:=by rw[List.getElem?_eq_getElem hlt];rfl
  have hlen:=accG_len (fun t=>F (thenF p t)) ts (k-1)
  obtain⟨t,ht⟩:∃t,ts[k]=t:=⟨_,rfl⟩
  rw[ht]at hgt hat hgf hgd
  simp -implicitDefEqProofs [hlt,hgt,ht]
  refine CallO.mk [] [12] hat (by simp) rfl (by simp) (by simp) (by simp) ?_
  simp -implicitDefEqProofs
  refine⟨13,_,rfl,rfl,rfl,fun aI=>?_⟩
  simp -implicitDefEqProofs [putL,asgK]
  refine⟨14,by simp,?_⟩
  simp -implicitDefEqProofs
  cases k with
  |zero=>
   simp -implicitDefEqProofs [wasVd,accG]
   refine CallO.mk [] [0,1,2,3] hgf (by simp) rfl (by simp) (by simp) (by simp) ?_
   simp -implicitDefEqProofs
   refine endRd_normal 17 14 (by simp;rfl) (by simp) ?_
   simp -implicitDefEqProofs
   refine Again.os 1 [0,1,2,3,4,5,6,7,8,9,10,11,12,13,14] hlt (by omega) ?_
   simp -implicitDefEqProofs [renM,accG,wasVd,hgd,show IntKind.i64.wrap 1=1 by decide]
   rintro _ _ (⟨rfl,rfl⟩|⟨rfl,rfl⟩|⟨rfl,rfl⟩|⟨rfl,rfl⟩|⟨rfl,rfl⟩|⟨rfl,rfl⟩)<;>rfl
  |succ j=>
   have hacc:accG (fun t=>F (thenF p t)) ts (j+1)=addPc (accG (fun t=>F (thenF p t)) ts j) (ts[j]?.getD 0) (t-1) (F (thenF p (ts[j]?.getD 0))):=by
    rw[accG,List.getD_eq_getElem?_getD,List.getD_eq_getElem?_getD,hgd]
   have htb:=hbd t (by rw[←ht];exact List.getElem_mem hlt)
   have e3:IntKind.i64.wrap (t-1)=t-1:=wrap64 (by omega) (by omega)
   have hws:wasVd (fun t=>F (thenF p t)) ts (j+1+1)=[.int .u8 (F (thenF p t)).kind,.int .i64 (F (thenF p t)).at_]:=by
    rw[wasVd,List.getD_eq_getElem?_getD,hgd]
   rw[Nat.add_sub_cancel]at hlen
   simp -implicitDefEqProofs [wasVd,e3]
   generalize ts[j]?.getD 0=s at*
   generalize F (thenF p s)=W at*
   generalize hH:F (thenF p t)=H at*
   generalize accG (fun t=>F (thenF p t)) ts j=L at*
   by_cases hL:∃L' y,L=L'++[y]∧y.v=W
   ·obtain⟨L',y,rfl,rfl⟩:=hL
    rw[addPc_ext]at hacc
    rw[List.length_append,List.length_singleton]at hlen
    refine CallO.mk [] [6,7] (addVd_ext L' y s (t-1) (by omega)) (by simp) rfl (by simp) (by simp) (by simp) ?_
    simp -implicitDefEqProofs
    refine CallO.mk [] [0,1,2,3] hgf (by simp) rfl (by simp) (by simp) (by simp) ?_
    simp -implicitDefEqProofs
    refine endRd_normal 17 14 (by simp;rfl) (by simp) ?_
    simp -implicitDefEqProofs
    refine Again.os (j+1+1) [0,1,2,3,4,5,6,7,8,9,10,11,12,13,14] hlt (by omega) ?_
    simp -implicitDefEqProofs at e1
    simp -implicitDefEqProofs [renM,e1,hacc,hws,hgd,hH]
    rintro _ _ (⟨rfl,rfl⟩|⟨rfl,rfl⟩|⟨rfl,rfl⟩|⟨rfl,rfl⟩|⟨rfl,rfl⟩|⟨rfl,rfl⟩)<;>rfl
   ·have hne:∀y,L.getLast? =some y→y.v≠W:=fun y hy h=>hL (by
     rcases List.eq_nil_or_concat L with rfl|⟨L',z,rfl⟩
     ·cases hy
     ·rw[List.concat_eq_append]at hy⊢
      simp at hy
      exact⟨L',z,rfl,by rw[hy];exact h⟩)
    rw[addPc_new _ _ _ _ hne]at hacc
    refine CallO.mk [] [6,7] (addVd_new L s (t-1) W (by omega) hne) (by simp) rfl (by simp) (by simp) (by simp) ?_
    simp -implicitDefEqProofs
    refine CallO.mk [] [0,1,2,3] hgf (by simp) rfl (by simp) (by simp) (by simp) ?_
    simp -implicitDefEqProofs
    refine endRd_normal 17 14 (by simp;rfl) (by simp) ?_
    simp -implicitDefEqProofs
    refine Again.os (j+1+1) [0,1,2,3,4,5,6,19,8,9,10,11,12,13,14] hlt (by omega) ?_
    simp -implicitDefEqProofs at e1
    simp -implicitDefEqProofs [renM,e1,hacc,hws,hgd,hH]
    rintro _ _ (⟨rfl,rfl⟩|⟨rfl,rfl⟩|⟨rfl,rfl⟩|⟨rfl,rfl⟩|⟨rfl,rfl⟩|⟨rfl,rfl⟩)<;>rfl
 ·have hkk:k=ts.length:=by omega
  subst hkk
  obtain⟨n,hn⟩:∃n,ts.length=n+1:=⟨ts.length-1,by omega⟩
  have hline:lineP p F a b=addPc (accG (fun t=>F (thenF p t)) ts n) (ts[n]?.getD 0) b (F (thenF p (ts[n]?.getD 0))):=by
   unfold lineP
   rw[hts,lineG_acc _ _ _ n hn,List.getD_eq_getElem?_getD]
  rw[hline,hn]
  have hlen:=accG_len (fun t=>F (thenF p t)) ts n
  simp -implicitDefEqProofs [wasVd]
  generalize ts[n]?.getD 0=s at*
  generalize F (thenF p s)=W at*
  generalize accG (fun t=>F (thenF p t)) ts n=L at*
  refine⟨13,_,14,.ready,none,rfl,rfl,.inl rfl,?_⟩
  simp -implicitDefEqProofs [pendK]
  by_cases hL:∃L' y,L=L'++[y]∧y.v=W
  ·obtain⟨L',y,rfl,rfl⟩:=hL
   rw[addPc_ext]
   rw[List.length_append,List.length_singleton]at hlen
   refine CallO.mk [] [6,7] (addVd_ext L' y s b (by omega)) (by simp) rfl (by simp) (by simp) (by simp) ?_
   simp -implicitDefEqProofs
   refine EndO.ret [] [0,1,2,3,6,7] (.ptr 6 0) (by simp) ?_
   simp -implicitDefEqProofs
  ·have hne:∀y,L.getLast? =some y→y.v≠W:=fun y hy h=>hL (by
    rcases List.eq_nil_or_concat L with rfl|⟨L',z,rfl⟩
    ·cases hy
    ·rw[List.concat_eq_append]at hy⊢
     simp at hy
     exact⟨L',z,rfl,by rw[hy];exact h⟩)
   rw[addPc_new _ _ _ _ hne]
   refine CallO.mk [] [6,7] (addVd_new L s b W (by omega) hne) (by simp) rfl (by simp) (by simp) (by simp) ?_
   simp -implicitDefEqProofs
   refine EndO.ret [] [0,1,2,3,6,15] (.ptr 6 0) (by simp) ?_
   simp -implicitDefEqProofs
end Go.Am
namespace Go.Am
open Go.Proofs
@[simp] def capV (r:Int) (six:Bool) (x:Addr4):List AObj:=[.box 3 [.int .i64 r],.box 4 [.bool six],.box 31 [.int .u64 x.hi,.int .u64 x.lo]]
set_option maxRecDepth 8000 in
theorem wayW_spec (n:Net) (six:Bool) (a:Addr4) (r:Int) (hw:n.wf) (ha:a.wf) (h1:rightN n six a=true):
  FSpec Tryz.prog 57 [n.av,.int .i64 r,.bool six,a.av] [kindsO] (.tup [.im (.sl 1 (rowI (wayN n six a r).1)),(wayN n six a r).2.av]) [kindsO]:=by
 have h2:=way1_spec n six a r hw ha h1
 refine FSpec.of_o (q:=[]) Tryz.func57 (by kernel_rfl) rfl Tryz.ntmps57 Tryz.results57 hP (by kernel_rfl) (by simp) (by first|rfl|simp) ?_
 simp -implicitDefEqProofs [kindsO]
 refine CallO.mk [] [0,4] h2 (by simp) rfl (by simp[kindsO,tripC]) (by simp[kindsO,tripC]) (by simp[kindsO,tripC]) ?_
 simp -implicitDefEqProofs [kindsO,tripC]
 refine EndO.ret [] [0] (.tup [.im (.sl 1 (rowI (wayN n six a r).1)),(wayN n six a r).2.av]) (by simp) ?_
 simp
theorem rightN_of {n:Net} {six:Bool} {a:Addr4} (h1:netOk n=true) (h2:rightA six a=true):rightN n six a=true:=by unfold rightN;simp[h1,h2]
set_option maxRecDepth 8000 in
theorem verd1_spec (n:Net) (r:Int) (six:Bool) (x:Addr4) (hw:n.wf) (hok:netOk n=true) (hx:x.wf) (hr:rightA six x=true):
  FSpec Tryz.prog 65 [n.av,.ptr 1 0,.ptr 2 0,.ptr 3 0] (kindsO::capV r six x) (wayN n six x r).2.av (kindsO::capV r six x):=by
 have h2:=wayW_spec n six x r hw hx (rightN_of hok hr)
 refine FSpec.of_o (q:=[]) Tryz.func65 (by kernel_rfl) rfl Tryz.ntmps65 Tryz.results65 hP (by kernel_rfl) (by simp) (by first|rfl|simp) ?_
 simp -implicitDefEqProofs [kindsO]
 refine CallO.mk [] [0] h2 (by simp) rfl (by simp[kindsO]) (by simp[kindsO]) (by simp[kindsO]) ?_
 simp -implicitDefEqProofs [kindsO]
 refine EndO.ret [] [0,1,2,3] (wayN n six x r).2.av (by simp) ?_
 simp
theorem askV_T {p:Past} {r:Int} {six:Bool} {x:Addr4} {a b:Int} (h:askV p r six x a b=0):∀t∈a::timesF p.evs a b,askT p t=0:=by
 obtain⟨hok,hr,ho,h3,h4,h5⟩:=askV_zero h
 intro t ht
 have h1:=timesF_bd ho ht
 have h2:a≤t:=by
  rcases List.mem_cons.1 ht with rfl|ht
  ·exact Int.le_refl _
  ·have:=timesF_in ht;omega
 unfold askT
 rw[if_neg (by omega),if_neg (by omega)]
def verdE (p:Past) (r:Int) (six:Bool) (x:Addr4) (a b:Int):Int:=if askV p r six x a b=0 then(if 1024<(lineP p (fun n=>(wayN n six x r).2) a b).length then 11 else 0)else askV p r six x a b
def verdL (p:Past) (r:Int) (six:Bool) (x:Addr4) (a b:Int):List (Pc Verd):=if verdE p r six x a b=0 then lineP p (fun n=>(wayN n six x r).2) a b else[]
set_option maxRecDepth 8000 in
set_option maxHeartbeats 4000000 in
theorem verdictsP_spec (p:Past) (r:Int) (six:Bool) (x:Addr4) (a b:Int) (hw:p.wf) (hx:x.wf):
  FSpec Tryz.prog 19 [p.av,.int .i64 r,.bool six,x.av,.agg [.int .i64 a,.int .i64 b]] [kindsO]
   (.tup [.im (.sl 4 ((verdL p r six x a b).map Pc.ivVd)),.int .i64 (verdE p r six x a b)]) [kindsO]:=by
 have h1:=askedV_spec p r six x a b hw
 refine FSpec.of_o (q:=[]) Tryz.func19 (by kernel_rfl) rfl Tryz.ntmps19 Tryz.results19 hP (by kernel_rfl) (by simp) (by first|rfl|simp) ?_
 simp -implicitDefEqProofs [kindsO]
 first|refine CallK.same (h1) rfl rfl ?_|refine CallQ.same (h1) rfl rfl ?_|refine CallQG.same _ (h1) rfl ?_|refine CallG.same _ (h1) rfl ?_|refine CallK.pv (h1) rfl rfl ?_
 simp -implicitDefEqProofs
 refine⟨fun h=>?_,fun h=>?_⟩
 ·refine EndO.ret [] [0] (.tup [.im (.sc (.slice none 0 0)),.int .i64 (askV p r six x a b)]) (by simp) ?_
  simp -implicitDefEqProofs [verdL,verdE,h,kindsO]
 obtain⟨hok,hr,ho,h3,h4,h5⟩:=askV_zero h
 have hl:=lineVd_spec p a b 65 (fun n=>(wayN n six x r).2) r six x hok (fun e he=>(hw.2 e he).1) hw (fun n h1 h2=>verd1_spec n r six x h1 h2 hx hr) (fun t ht=>timesF_bd ho ht) (askV_T h)
 have hll:=lineP_len p (fun n=>(wayN n six x r).2) a b
 have hl1:=okP_len hok
 have hl2:=timesF_len p.evs a b
 have hE:verdE p r six x a b=if 1024<(lineP p (fun n=>(wayN n six x r).2) a b).length then 11 else 0:=by unfold verdE;rw[if_pos h]
 have hL:verdL p r six x a b=if 1024<(lineP p (fun n=>(wayN n six x r).2) a b).length then[]else lineP p (fun n=>(wayN n six x r).2) a b:=by
  unfold verdL;rw[hE];split<;>simp
 rw[hE,hL]
 generalize lineP p (fun n=>(wayN n six x r).2) a b=L at*
 refine CallO.mk [] [0,2,3,4] hl (by simp) rfl (by simp[kindsO]) (by simp[kindsO]) (by simp[kindsO]) ?_
 simp -implicitDefEqProofs [kindsO]
 refine⟨fun h'=>?_,fun h'=>?_⟩
 ·have hb:1024<L.length:=by omega
  refine EndO.ret [] [0] (.tup [.im (.sc (.slice none 0 0)),.int .i64 11]) (by simp) ?_
  simp -implicitDefEqProofs [hb]
 have hb:¬1024<L.length:=by omega
 rw[if_neg hb,if_neg hb]
 refine LoopK.nil (.sl 14 71 4) ?_
 simp -implicitDefEqProofs
 refine LoopK.os (fun k:Nat=>[(14,.row 2),(39,.row 1),(40,.int .i64 L.length),(41,.int .i64 k)])
  (fun k=>[kindsO,rowVd L,.row 71 4 ((L.take k).map Pc.ivVd)])
  (fun k=>k≤L.length) (fun k=>L.length-k) 0 [0,7,8] (Nat.zero_le _) (by simp[kindsO]) ?_
 intro k hk
 by_cases hlt:k<L.length
 ·have e1:IntKind.i64.wrap (k+1)=(k+1:Nat):=wrap64 (by omega) (by omega)
  have ht:L.take (k+1)=L.take k++[L[k]]:=by rw[List.take_add_one,List.getElem?_eq_getElem hlt];rfl
  obtain⟨y,hy⟩:∃y,L[k]=y:=⟨_,rfl⟩
  rw[hy]at ht
  have ht2:=congrArg (List.map Pc.ivVd) ht
  simp at ht2
  simp -implicitDefEqProofs [hlt,hy,kindsO]
  refine⟨⟨by omega,by unfold maxLen;omega⟩,?_⟩
  refine Again.os (k+1) [0,1,5] hlt (by omega) ?_
  simp -implicitDefEqProofs [e1,ht2,kindsO]
 ·have hkk:k=L.length:=by omega
  subst hkk
  simp -implicitDefEqProofs [kindsO]
  refine EndO.ret [2] [0] (.tup [.row 2,.int .i64 0]) (by simp) ?_
  simp -implicitDefEqProofs
end Go.Am
namespace Go.Proofs
def Tryz.sortRun_ren:Go.Shelf.Ren:=⟨fun|6=>146|15=>204|14=>215|28=>265|29=>266|20=>272|21=>273|22=>274|23=>275|24=>276|25=>277|26=>278|27=>279|46=>344|47=>328|48=>329|49=>345|50=>346|57=>389|n=>n,fun|22=>132|24=>251|25=>253|3=>3|39=>236|0=>0|53=>378|55=>29|4=>4|46=>371|45=>370|50=>175|5=>5|9=>9|66=>425|70=>429|76=>481|77=>482|n=>n,fun|n=>n⟩
theorem Tryz.sortRun:SlLaysF0.n6 Tryz.prog Tryz.sortRun_ren:={
 mixed:=by kernel_rfl,
 f6:=⟨Tryz.f146.name,by decide,Tryz.func146.trans (congrArg some (by kernel_rfl))⟩,
 f14:=⟨Tryz.f215.name,by decide,Tryz.func215.trans (congrArg some (by kernel_rfl))⟩,
 f15:=Tryz.func204.trans (congrArg some (by kernel_rfl)),
 f20:=⟨Tryz.f272.name,by decide,Tryz.func272.trans (congrArg some (by kernel_rfl))⟩,
 f21:=⟨Tryz.f273.name,by decide,Tryz.func273.trans (congrArg some (by kernel_rfl))⟩,
 f22:=⟨Tryz.f274.name,by decide,Tryz.func274.trans (congrArg some (by kernel_rfl))⟩,
 f23:=⟨Tryz.f275.name,by decide,Tryz.func275.trans (congrArg some (by kernel_rfl))⟩,
 f24:=⟨Tryz.f276.name,by decide,Tryz.func276.trans (congrArg some (by kernel_rfl))⟩,
 f25:=⟨Tryz.f277.name,by decide,Tryz.func277.trans (congrArg some (by kernel_rfl))⟩,
 f26:=⟨Tryz.f278.name,by decide,Tryz.func278.trans (congrArg some (by kernel_rfl))⟩,
 f27:=⟨Tryz.f279.name,by decide,Tryz.func279.trans (congrArg some (by kernel_rfl))⟩,
 f28:=Tryz.func265.trans (congrArg some (by kernel_rfl)),
 f29:=Tryz.func266.trans (congrArg some (by kernel_rfl)),
 f46:=⟨Tryz.f344.name,by decide,Tryz.func344.trans (congrArg some (by kernel_rfl))⟩,
 f47:=Tryz.func328.trans (congrArg some (by kernel_rfl)),
 f48:=Tryz.func329.trans (congrArg some (by kernel_rfl)),
 f49:=⟨Tryz.f345.name,by decide,Tryz.func345.trans (congrArg some (by kernel_rfl))⟩,
 f50:=⟨Tryz.f346.name,by decide,Tryz.func346.trans (congrArg some (by kernel_rfl))⟩,
 f57:=⟨Tryz.f389.name,by decide,Tryz.func389.trans (congrArg some (by kernel_rfl))⟩,
 t0:=Tryz.underlying0,
 a0:=Tryz.isAgg0,
 z0:=Tryz.sizeOf0,
 v0:=Tryz.zeroValue0,
 t3:=Tryz.underlying3,
 a3:=Tryz.isAgg3,
 z3:=Tryz.sizeOf3,
 v3:=Tryz.zeroValue3,
 t4:=Tryz.underlying4,
 a4:=Tryz.isAgg4,
 z4:=Tryz.sizeOf4,
 v4:=Tryz.zeroValue4,
 t5:=Tryz.underlying5,
 a5:=Tryz.isAgg5,
 z5:=Tryz.sizeOf5,
 v5:=Tryz.zeroValue5,
 t9:=Tryz.underlying9,
 a9:=Tryz.isAgg9,
 z9:=Tryz.sizeOf9,
 v9:=Tryz.zeroValue9,
 t22:=Tryz.underlying132,
 a22:=Tryz.isAgg132,
 z22:=Tryz.sizeOf132,
 v22:=Tryz.zeroValue132,
 t25:=Tryz.underlying253,
 a25:=Tryz.isAgg253,
 z25:=Tryz.sizeOf253,
 v25:=Tryz.zeroValue253,
 t39:=Tryz.underlying236,
 a39:=Tryz.isAgg236,
 z39:=Tryz.sizeOf236,
 v39:=Tryz.zeroValue236,
 t45:=Tryz.underlying370,
 a45:=Tryz.isAgg370,
 z45:=Tryz.sizeOf370,
 v45:=Tryz.zeroValue370,
 t46:=Tryz.underlying371,
 a46:=Tryz.isAgg371,
 z46:=Tryz.sizeOf371,
 v46:=Tryz.zeroValue371,
 t50:=Tryz.underlying175,
 a50:=Tryz.isAgg175,
 z50:=Tryz.sizeOf175,
 v50:=Tryz.zeroValue175,
 t53:=Tryz.underlying378,
 a53:=Tryz.isAgg378,
 z53:=Tryz.sizeOf378,
 v53:=Tryz.zeroValue378,
 t55:=Tryz.underlying29,
 a55:=Tryz.isAgg29,
 z55:=Tryz.sizeOf29,
 v55:=Tryz.zeroValue29,
 t66:=Tryz.underlying425,
 a66:=Tryz.isAgg425,
 z66:=Tryz.sizeOf425,
 v66:=Tryz.zeroValue425,
 t70:=Tryz.underlying429,
 a70:=Tryz.isAgg429,
 z70:=Tryz.sizeOf429,
 v70:=Tryz.zeroValue429,
 t76:=Tryz.underlying481,
 a76:=Tryz.isAgg481,
 z76:=Tryz.sizeOf481,
 v76:=Tryz.zeroValue481,
 t77:=Tryz.underlying482,
 a77:=Tryz.isAgg482,
 z77:=Tryz.sizeOf482,
 v77:=Tryz.zeroValue482}
end Go.Proofs
namespace Go.Am
open Go.Proofs
@[simp] def fieldC:List AV:=[.int .i64 0,.int .i64 1099511627776,.fn 142 [],.fn 143 [],.fn 144 []]
@[simp] def fieldO:AObj:=.box 136 fieldC
theorem joinC_spec (x y:Ivl):FSpec Tryz.prog 147 [.agg [.int .i64 x.1,.int .i64 x.2],.agg [.int .i64 y.1,.int .i64 y.2],.ptr 0 0] [fieldO] (.int .i64 (cmpI x.1 y.1)) [fieldO]:=by
 have h1:=cmp64_spec x.1 y.1
 refine FSpec.of_o (q:=[]) Tryz.func147 (by kernel_rfl) rfl Tryz.ntmps147 Tryz.results147 hP (by kernel_rfl) (by simp) (by first|rfl|simp) ?_
 simp -implicitDefEqProofs
 first|refine CallK.same (h1) rfl rfl ?_|refine CallQ.same (h1) rfl rfl ?_|refine CallQG.same _ (h1) rfl ?_|refine CallG.same _ (h1) rfl ?_|refine CallK.pv (h1) rfl rfl ?_
 simp -implicitDefEqProofs
 refine EndO.ret [] [0] (.int .i64 (cmpI x.1 y.1)) (by simp) (by simp)
theorem cloNRun_spec (A:Option Addr) (c:Nat):FSpec Tryz.prog 145 [.im (.sc (.slice A 0 c))] [] (.row 0) [.row 251 2 []]:=by
 refine FSpec.of_o (q:=[]) Tryz.func145 (by kernel_rfl) rfl Tryz.ntmps145 Tryz.results145 hP (by kernel_rfl) (by simp) (by first|rfl|simp) ?_
 cases A with
 |none=>
  cases c with
  |zero=>
   simp -implicitDefEqProofs
   refine⟨[.sl 2 251 2],[],[0],.row 0,by simp[St.nils],by simp[St.nils]⟩
  |succ c=>
   simp -implicitDefEqProofs
   refine⟨[.sl 2 251 2],[],[0],.row 0,by simp[St.nils],by simp[St.nils]⟩
 |some ad=>
  simp -implicitDefEqProofs
  refine EndO.ret [] [1] (.row 1) (by simp) (by simp)
theorem cloRun_spec (xs:List (List IV)) (hl:xs.length≤4096):FSpec Tryz.prog 145 [.im (.sl 2 xs)] [] (.row 0) [.row 251 2 xs]:=by
 cases xs with
 |nil=>exact FSpec.nilArg cloNRun_spec
 |cons x xs=>
  refine FSpec.of_o (q:=[]) Tryz.func145 (by kernel_rfl) rfl Tryz.ntmps145 Tryz.results145 hP (by kernel_rfl) (by simp) (by first|rfl|simp) ?_
  simp -implicitDefEqProofs
  simp at hl
  refine⟨⟨by omega,by unfold maxLen;omega⟩,?_⟩
  refine EndO.ret [] [1] (.row 1) (by simp) (by simp)
def unI:List IV→Ivl
 |[.sc (.int _ a),.sc (.int _ b)]=>(a,b)
 |_=>(0,0)
theorem unI_iv (x:Ivl):unI (ivI x)=x:=rfl
def sortF (l:List Ivl):List Ivl:=l.mergeSort fun x y=>decide (x.1≤y.1)
theorem sortF_perm (l:List Ivl):(sortF l).Perm l:=List.mergeSort_perm l _
theorem sortF_sorted (l:List Ivl):(sortF l).Pairwise (fun x y=>x.1≤y.1):=by
 have:=List.pairwise_mergeSort (le:=fun(x y:Ivl)=>decide (x.1≤y.1)) (fun a b c h1 h2=>by simp at*;omega) (fun a b=>by simp;omega) l
 exact this.imp fun h=>by simpa using h
theorem sortF_id {l:List Ivl} (h:l.Pairwise (fun x y=>x.1≤y.1)):sortF l=l:=List.mergeSort_of_pairwise (h.imp fun h=>by simpa using h)
theorem sortedF_eq:∀{a b:List Ivl},a.Perm b→(a.map (·.1)).Nodup→a.Pairwise (fun x y=>x.1≤y.1)→b.Pairwise (fun x y=>x.1≤y.1)→a=b
 |[],b,hp,_,_,_=>by rw[List.nil_perm.1 hp]
 |x::a,[],hp,_,_,_=>by cases List.perm_nil.1 hp
 |x::a,y::b,hp,hn,h1,h2=>by
  have hxy:x=y:=by
   have m1:y∈x::a:=hp.mem_iff.2 (by simp)
   have m2:x∈y::b:=hp.mem_iff.1 (by simp)
   have l1:x.1≤y.1:=by rcases List.mem_cons.1 m1 with h|h;rw[h];exact Int.le_refl _;exact(List.pairwise_cons.1 h1).1 y h
   have l2:y.1≤x.1:=by rcases List.mem_cons.1 m2 with h|h;rw[h];exact Int.le_refl _;exact(List.pairwise_cons.1 h2).1 x h
   rcases List.mem_cons.1 m1 with h|h
   ·exact h.symm
   ·simp only[List.map_cons,List.nodup_cons,List.mem_map]at hn
    exact absurd ⟨y,h,by omega⟩ hn.1
  subst hxy
  rw[sortedF_eq (List.perm_cons x|>.1 hp) (by simp only[List.map_cons,List.nodup_cons]at hn;exact hn.2) (List.pairwise_cons.1 h1).2 (List.pairwise_cons.1 h2).2]
theorem cmpI_lt0 (a b:Int):cmpI a b<0↔a<b:=by
 unfold cmpI
 repeat' split
 all_goals omega
theorem bitsLenR64_0:FSpec Tryz.prog 266 [.int .u64 0] [] (.int .i64 0) []:=by
 refine FSpec.of_flat (q:=[]) Tryz.func266 (by kernel_rfl) rfl Tryz.ntmps266 Tryz.results266 hP (by kernel_rfl) (by simp) (by first|rfl|simp) ?_
 simp
 decide+kernel
theorem bitsLenR0:FSpec Tryz.prog 204 [.int .u64 0] [] (.int .i64 0) []:=by
 refine FSpec.of_flat (q:=[]) Tryz.func204 (by kernel_rfl) rfl Tryz.ntmps204 Tryz.results204 hP (by kernel_rfl) (by simp) (by first|rfl|simp) ?_
 simp
 first|refine CallK.same (bitsLenR64_0) rfl rfl ?_|refine CallQ.same (bitsLenR64_0) rfl rfl ?_|refine CallQG.same _ (bitsLenR64_0) rfl ?_|refine CallG.same _ (bitsLenR64_0) rfl ?_|refine CallK.pv (bitsLenR64_0) rfl rfl ?_
 simp
theorem insNoneR_spec (T:TypeId):FSpec Tryz.prog 272 [.row 0,.int .i64 0,.int .i64 0,.fn 147 [.ptr 1 0]] [.row T 2 [],fieldO] (.tup []) [.row T 2 [],fieldO]:=by
 have e1:IntKind.i64.wrap 1=1:=by decide
 refine FSpec.of_o (q:=[(4,.n 14),(6,.m [.p [] [],.p [] [],.p [1] [],.p [1] [],.p [1] [],.p [] [],.p [] [],.p [] [],.p [] [],.p [] [],.p [] [],.p [] [],.p [] [],.p [] [],.p [] [],.e [51,46]])]) Tryz.func272 (by kernel_rfl) rfl Tryz.ntmps272 Tryz.results272 hP (by kernel_rfl) (by simp) (by first|rfl|simp) ?_
 simp[e1]
 refine LoopK.os (fun _:Unit=>[(0,.row 0),(2,.int .i64 0),(8,.int .i64 1)]) (fun _=>[.row T 2 [],fieldO]) (fun _=>True) (fun _=>0) () [0,1] trivial (by simp) ?_
 intro _ _
 simp
 refine EndO.normal [] [0,1] (.tup []) (by simp) (by simp)
theorem pdqNoneR_spec (T:TypeId):FSpec Tryz.prog 215 [.row 0,.int .i64 0,.int .i64 0,.int .i64 0,.fn 147 [.ptr 1 0]] [.row T 2 [],fieldO] (.tup []) [.row T 2 [],fieldO]:=by
 have e0:IntKind.i64.wrap 0=0:=by decide
 refine FSpec.of_o (q:=[(17,.n 13)]) Tryz.func215 (by kernel_rfl) rfl Tryz.ntmps215 Tryz.results215 hP (by kernel_rfl) (by simp) (by first|rfl|simp) ?_
 simp
 refine LoopK.os (fun _:Unit=>[(0,.row 0),(1,.int .i64 0),(2,.int .i64 0),(3,.int .i64 0),(4,.fn 147 [.ptr 1 0])]) (fun _=>[.row T 2 [],fieldO]) (fun _=>True) (fun _=>0) () [0,1] trivial (by simp) ?_
 intro _ _
 simp[e0]
 refine CallO.mk [] [0,1] (insNoneR_spec T) (by simp) rfl (by simp) (by simp) (by simp) ?_
 simp
 refine EndO.ret [] [0,1] (.tup []) (by simp) (by simp)
theorem sortNoneR_spec (T:TypeId):FSpec Tryz.prog 146 [.row 0,.fn 147 [.ptr 1 0]] [.row T 2 [],fieldO] (.tup []) [.row T 2 [],fieldO]:=by
 have e0:IntKind.u64.wrap 0=0:=by decide
 refine FSpec.of_o (q:=[]) Tryz.func146 (by kernel_rfl) rfl Tryz.ntmps146 Tryz.results146 hP (by kernel_rfl) (by simp) (by first|rfl|simp) ?_
 simp[e0]
 first|refine CallK.same (bitsLenR0) rfl rfl ?_|refine CallQ.same (bitsLenR0) rfl rfl ?_|refine CallQG.same _ (bitsLenR0) rfl ?_|refine CallG.same _ (bitsLenR0) rfl ?_|refine CallK.pv (bitsLenR0) rfl rfl ?_
 simp
 refine CallO.mk [] [0,1] (pdqNoneR_spec T) (by simp) rfl (by simp) (by simp) (by simp) ?_
 simp
 refine EndO.normal [] [0,1] (.tup []) (by simp) (by simp)
set_option maxRecDepth 8000 in
theorem sortRun_spec (l:List Ivl) (hd:(l.map (·.1)).Nodup) (hl:l.length≤1000000000):
  FSpec Tryz.prog 146 [.row 0,.fn 147 [.ptr 1 0]] [.row 251 2 (l.map ivI),fieldO] (.tup []) [.row 251 2 ((sortF l).map ivI),fieldO]:=by
 by_cases hne:l=[]
 ·subst hne
  rw[show sortF []=[]by simp[sortF]]
  exact sortNoneR_spec _
 have hmem:∀x,x∈l.map ivI→∃a,a∈l∧x=ivI a:=fun x hx=>by
  obtain⟨a,h1,h2⟩:=List.mem_map.1 hx
  exact⟨a,h1,h2.symm⟩
 have hun:∀zs:List Ivl,(zs.map ivI).map unI=zs:=fun zs=>by
  rw[List.map_map]
  conv=>rhs;rw[←List.map_id zs]
  exact List.map_congr_left fun a _=>unI_iv a
 refine sortFuncC Tryz.sortRun 251 2 (by decide) (fun w=>by first|rfl|exact Tryz.isAgg251 w) (fun w=>by first|rfl|exact Tryz.sizeOf251 w) _ _ (fun x y=>cmpI (unI x).1 (unI y).1) (fun x=>(unI x).1) (enters_of Tryz.func147 (by kernel_rfl) rfl) (by simpa using hne) 136 fieldC ?_ ?_ ?_ (by simp;omega) ?_
 ·intro x hx
  simp only[fieldC,List.mem_cons,List.not_mem_nil,or_false]at hx
  rcases hx with rfl|rfl|rfl|rfl|rfl
  ·exact rigid_sc _
  ·exact rigid_sc _
  ·exact rigid_fn _
  ·exact rigid_fn _
  ·exact rigid_fn _
 ·intro x y hx hy
  obtain⟨a,_,rfl⟩:=hmem x hx
  obtain⟨b,_,rfl⟩:=hmem y hy
  exact joinC_spec a b
 ·intro x y hx hy
  exact cmpI_lt0 _ _
 ·intro ys hp hs
  have hy:ys=(ys.map unI).map ivI:=by
   rw[List.map_map]
   conv=>lhs;rw[←List.map_id ys]
   refine List.map_congr_left fun y hy=>?_
   obtain⟨a,_,rfl⟩:=hmem y (hp.mem_iff.1 hy)
   rfl
  have hpz:(ys.map unI).Perm l:=by
   have:=hp.map unI
   rw[hun]at this
   exact this
  rw[hy]
  congr 1
  refine sortedF_eq (hpz.trans (sortF_perm l).symm) ((hpz.map _).nodup_iff.2 hd) ?_ (sortF_sorted l)
  rw[List.pairwise_map]
  exact hs
end Go.Am
namespace Go.Am
open Go.Proofs
def joinStep (out:List Ivl) (x:Ivl):List Ivl:=match out.getLast? with
 |none=>[x]
 |some y=>if y.2≠1099511627776∧IntKind.i64.wrap (y.2+1)<x.1 then out++[x]else if y.2<x.2 then out.dropLast++[(y.1,x.2)]else out
def joinF (l:List Ivl):List Ivl:=(sortF l).foldl joinStep []
theorem mod_endR {β:Type} (g:β→β) (r:β):∀l:List β,(l++[r]).modify l.length g=l++[g r]
 |[]=>rfl
 |y::l=>by
  show y::(l++[r]).modify l.length g=y::(l++[g r])
  rw[mod_endR g r l]
theorem joinStep_len (out:List Ivl) (x:Ivl):(joinStep out x).length≤out.length+1:=by
 unfold joinStep
 split
 ·simp
 ·rename_i y hy
  have:out≠[]:=by intro h;rw[h]at hy;simp at hy
  have:=List.length_pos_iff.2 this
  repeat' split
  all_goals simp
  all_goals omega
theorem foldJ_len:∀(l out:List Ivl),(l.foldl joinStep out).length≤out.length+l.length
 |[],out=>by simp
 |x::l,out=>by
  have h1:=foldJ_len l (joinStep out x)
  have h2:=joinStep_len out x
  simp only[List.foldl_cons,List.length_cons]
  omega
set_option maxRecDepth 8000 in
set_option maxHeartbeats 4000000 in
theorem joinI_spec (l:List Ivl) (hd:(l.map (·.1)).Nodup) (hl:l.length≤4096):
  FSpec Tryz.prog 72 [fieldI,.im (.sl 2 (l.map ivI))] [] (.im (.sl 2 ((joinF l).map ivI))) []:=by
 have hc:=cloRun_spec (l.map ivI) (by simpa using hl)
 have hs:=sortRun_spec l hd (by omega)
 have hsl:(sortF l).length=l.length:=(sortF_perm l).length_eq
 unfold joinF
 refine FSpec.of_z (q:=[(8,.n 24),(10,.n 9)]) Tryz.func72 (by kernel_rfl) rfl Tryz.ntmps72 Tryz.results72 hP (by kernel_rfl) (by simp) (by first|rfl|simp) ?_
 simp -implicitDefEqProofs
 refine CallK.outs [] hc rfl (by simp) (by simp[AV.flat]) ?_
 simp -implicitDefEqProofs
 refine CallO.mk [] [1,0] hs (by simp) rfl (by simp) (by simp) (by simp) ?_
 generalize sortF l=S at*
 simp -implicitDefEqProofs
 refine LoopK.nil (.sl 5 251 2) ?_
 simp -implicitDefEqProofs
 refine LoopK.os (fun k:Nat=>[(2,.ptr 0 0),(5,.row 2),(14,.row 1),(15,.int .i64 S.length),(16,.int .i64 k)])
  (fun k=>[fieldO,.row 251 2 (S.map ivI),.row 251 2 (((S.take k).foldl joinStep []).map ivI)])
  (fun k=>k≤S.length) (fun k=>S.length-k) 0 [0,1,2] (Nat.zero_le _) (by simp) ?_
 intro k hk
 by_cases hlt:k<S.length
 ·have e1:IntKind.i64.wrap (k+1)=(k+1:Nat):=wrap64 (by omega) (by omega)
  have ht:S.take (k+1)=S.take k++[S[k]]:=by rw[List.take_add_one,List.getElem?_eq_getElem hlt];rfl
  have hgt:(S.map ivI)[k]? =some (ivI S[k]):=by rw[List.getElem?_map,List.getElem?_eq_getElem hlt];rfl
  have hfl:=foldJ_len (S.take k) []
  rw[List.length_take,List.length_nil]at hfl
  obtain⟨y,hy⟩:∃y,S[k]=y:=⟨_,rfl⟩
  rw[hy]at ht hgt
  have hacc:(S.take (k+1)).foldl joinStep []=joinStep ((S.take k).foldl joinStep []) y:=by rw[ht,List.foldl_append];rfl
  generalize (S.take k).foldl joinStep []=out at*
  rcases List.eq_nil_or_concat out with rfl|⟨out,z,rfl⟩
  ·have em:IntKind.i64.wrap (-1)= -1:=by decide
   simp -implicitDefEqProofs [hlt,hy,em]
   refine⟨[],.bool false,(fun h=>by cases h),rfl,?_⟩
   simp -implicitDefEqProofs
   refine .inl ⟨[],[],.bool false,(fun h=>by cases h),rfl,?_⟩
   simp -implicitDefEqProofs
   refine⟨by unfold maxLen;omega,?_⟩
   refine Again.os (k+1) [0,1,5] hlt (by omega) ?_
   simp -implicitDefEqProofs [e1,hacc,joinStep]
  ·rw[List.concat_eq_append]at*
   rw[List.length_append,List.length_singleton]at hfl
   have e2:IntKind.i64.wrap (out.length:Int)=(out.length:Int):=wrap64 (by omega) (by omega)
   have hn:=nextI_spec z.2
   have hc1:=cmp64_spec (IntKind.i64.wrap (z.2+1)) y.1
   have hc2:=cmp64_spec z.2 y.2
   simp -implicitDefEqProofs [hlt,hy,e2]
   refine⟨by omega,fun _=>by omega,?_⟩
   first|refine CallK.same (hn) rfl rfl ?_|refine CallQ.same (hn) rfl rfl ?_|refine CallQG.same _ (hn) rfl ?_|refine CallG.same _ (hn) rfl ?_|refine CallK.pv (hn) rfl rfl ?_
   simp -implicitDefEqProofs
   first|refine CallK.same (hc1) rfl rfl ?_|refine CallQ.same (hc1) rfl rfl ?_|refine CallQG.same _ (hc1) rfl ?_|refine CallG.same _ (hc1) rfl ?_|refine CallK.pv (hc1) rfl rfl ?_
   simp -implicitDefEqProofs [cmpI_lt0]
   have hj:joinStep (out++[z]) y=if z.2≠1099511627776∧IntKind.i64.wrap (z.2+1)<y.1 then out++[z]++[y]else if z.2<y.2 then out++[(z.1,y.2)]else out++[z]:=by
    unfold joinStep
    simp
   refine⟨by cases (z.2 != 1099511627776)<;>simp[impB],fun h=>?_,fun h=>?_⟩
   ·rw[if_pos (by rcases h with h|h;omega;exact h)]at hj
    refine⟨⟨by omega,by unfold maxLen;omega⟩,?_⟩
    refine Again.os (k+1) [0,1,5] hlt (by omega) ?_
    simp -implicitDefEqProofs [e1,hacc,hj]
   ·rw[if_neg (by rintro⟨h1,h2⟩;have:=h h1;omega)]at hj
    refine⟨by omega,?_⟩
    first|refine CallK.same (hc2) rfl rfl ?_|refine CallQ.same (hc2) rfl rfl ?_|refine CallQG.same _ (hc2) rfl ?_|refine CallG.same _ (hc2) rfl ?_|refine CallK.pv (hc2) rfl rfl ?_
    simp -implicitDefEqProofs [cmpI_lt0]
    refine⟨fun h'=>?_,fun h'=>?_⟩
    ·rw[if_pos h']at hj
     refine⟨by omega,?_⟩
     refine Again.os (k+1) [0,1,2] hlt (by omega) ?_
     simp -implicitDefEqProofs [e1,hacc,hj]
     have hm:=mod_endR (fun x=>List.take 1 x++IV.sc (.int .i64 y.2)::List.drop 2 x) [IV.sc (.int .i64 z.1),IV.sc (.int .i64 z.2)] (out.map ivI)
     rw[List.length_map]at hm
     exact hm
    ·rw[if_neg (by omega)]at hj
     refine Again.os (k+1) [0,1,2] hlt (by omega) ?_
     simp -implicitDefEqProofs [e1,hacc,hj]
 ·have hkk:k=S.length:=by omega
  subst hkk
  simp -implicitDefEqProofs
  refine EndZ.ret [2] (.row 2) (by simp) (by simp)
end Go.Am
namespace Go.Am
open Go.Proofs
def oneC (x:Ivl):Bool:=decide (checkI [x]=0)
def badJ:List Ivl→Int→Int
 |[],_=> -1
 |x::l,k=>if oneC x=false then k else badJ l (k+1)
theorem badJ_any:∀(l:List Ivl) (k:Int),0≤k→l.any (fun x=>!oneC x)=decide (0≤badJ l k)
 |[],k,_=>by simp[badJ]
 |x::l,k,hk=>by
  rw[badJ,List.any_cons]
  by_cases h:oneC x=false
  ·rw[if_pos h,h];simp[hk]
  ·rw[if_neg h,←badJ_any l (k+1) (by omega)];simp[h]
theorem one1_spec (x:Ivl):FSpec Tryz.prog 140 [.agg [.int .i64 x.1,.int .i64 x.2]] [] (.bool (oneC x)) []:=by
 have h1:=checkI_spec [x]
 simp at h1
 refine FSpec.of_flat (q:=[]) Tryz.func140 (by kernel_rfl) rfl Tryz.ntmps140 Tryz.results140 hP (by kernel_rfl) (by simp) (by first|rfl|simp) ?_
 simp -implicitDefEqProofs
 refine CallK.fz [1] h1 rfl (by simp) rfl ?_
 simp -implicitDefEqProofs [oneC]
 rfl
theorem makeB_spec (x:Ivl):FSpec Tryz.prog 139 [.agg [.int .i64 x.1,.int .i64 x.2]] [] (.bool (!oneC x)) []:=by
 have h1:=one1_spec x
 refine FSpec.of_flat (q:=[]) Tryz.func139 (by kernel_rfl) rfl Tryz.ntmps139 Tryz.results139 hP (by kernel_rfl) (by simp) (by first|rfl|simp) ?_
 simp -implicitDefEqProofs
 first|refine CallK.same (h1) rfl rfl ?_|refine CallQ.same (h1) rfl rfl ?_|refine CallQG.same _ (h1) rfl ?_|refine CallG.same _ (h1) rfl ?_|refine CallK.pv (h1) rfl rfl ?_
 simp -implicitDefEqProofs
theorem indexB_spec (l:List Ivl) (hl:l.length≤100000):
  FSpec Tryz.prog 213 [.im (.sl 2 (l.map ivI)),.fn 139 []] [] (.int .i64 (badJ l 0)) []:=by
 refine FSpec.of_flat (q:=[]) Tryz.func213 (by kernel_rfl) rfl Tryz.ntmps213 Tryz.results213 hP (by kernel_rfl) (by simp) (by first|rfl|simp) ?_
 simp
 refine LoopK.plain (fun k:Nat=>[(0,.im (.sl 2 (l.map ivI))),(1,.fn 139 []),(7,.int .i64 l.length),(8,.int .i64 k)])
  (fun k=>k≤l.length∧badJ (l.drop k) k=badJ l 0) (fun k=>l.length-k) 0 ⟨Nat.zero_le _,by simp⟩ (by simp) ?_
 rintro k ⟨hk,hR⟩
 by_cases hlt:k<l.length
 ·have e1:IntKind.i64.wrap (k+1)=(k+1:Nat):=wrap64 (by omega) (by omega)
  rw[List.drop_eq_getElem_cons hlt,badJ]at hR
  obtain⟨y,hy⟩:∃y,l[k]=y:=⟨_,rfl⟩
  rw[hy]at hR
  have h1:=makeB_spec y
  simp -implicitDefEqProofs [hlt,e1,hy]
  first|refine CallK.same (h1) rfl rfl ?_|refine CallQ.same (h1) rfl rfl ?_|refine CallQG.same _ (h1) rfl ?_|refine CallG.same _ (h1) rfl ?_|refine CallK.pv (h1) rfl rfl ?_
  simp -implicitDefEqProofs
  refine⟨fun h=>?_,fun h=>?_⟩
  ·rw[if_pos h]at hR
   simp[←hR]
  ·rw[if_neg (by simp[h])]at hR
   refine Again.plain (k+1) ⟨hlt,by simpa using hR⟩ (by omega) ?_
   simp[e1]
 ·have hkk:k=l.length:=by omega
  subst hkk
  rw[List.drop_length,badJ]at hR
  simp[←hR]
theorem containsB_spec (l:List Ivl) (hl:l.length≤100000):
  FSpec Tryz.prog 138 [.im (.sl 2 (l.map ivI)),.fn 139 []] [] (.bool (l.any fun x=>!oneC x)) []:=by
 rw[badJ_any l 0 (Int.le_refl _)]
 have h1:=indexB_spec l hl
 refine FSpec.of_flat (q:=[]) Tryz.func138 (by kernel_rfl) rfl Tryz.ntmps138 Tryz.results138 hP (by kernel_rfl) (by simp) (by first|rfl|simp) ?_
 simp
 first|refine CallK.same (h1) rfl rfl ?_|refine CallQ.same (h1) rfl rfl ?_|refine CallQG.same _ (h1) rfl ?_|refine CallG.same _ (h1) rfl ?_|refine CallK.pv (h1) rfl rfl ?_
 simp
set_option maxRecDepth 8000 in
set_option maxHeartbeats 2000000 in
theorem toldI_spec (l:List Ivl) (hl:l.length≤1024):FSpec Tryz.prog 70 [.im (.sl 2 (l.map ivI))] [] (.tup [.im (.sl 2 (l.map ivI)),.int .i64 0]) []:=by
 refine FSpec.of_z (q:=[]) Tryz.func70 (by kernel_rfl) rfl Tryz.ntmps70 Tryz.results70 hP (by kernel_rfl) (by simp) (by first|rfl|simp) ?_
 have hl':¬(1024:Int)<l.length:=by omega
 simp -implicitDefEqProofs [hl']
 refine LoopK.nil (.sl 4 43 2) ?_
 simp -implicitDefEqProofs
 refine LoopK.os (fun k:Nat=>[(4,.row 0),(10,.im (.sl 2 (l.map ivI))),(11,.int .i64 l.length),(12,.int .i64 k)])
  (fun k=>[.row 43 2 ((l.take k).map ivI)])
  (fun k=>k≤l.length) (fun k=>l.length-k) 0 [0] (Nat.zero_le _) (by simp) ?_
 intro k hk
 by_cases hlt:k<l.length
 ·have e1:IntKind.i64.wrap (k+1)=(k+1:Nat):=wrap64 (by omega) (by omega)
  have ht:l.take (k+1)=l.take k++[l[k]]:=by rw[List.take_add_one,List.getElem?_eq_getElem hlt];rfl
  obtain⟨y,hy⟩:∃y,l[k]=y:=⟨_,rfl⟩
  rw[hy]at ht
  have ht2:=congrArg (List.map ivI) ht
  simp at ht2
  simp -implicitDefEqProofs [hlt,hy]
  refine⟨⟨by omega,by unfold maxLen;omega⟩,?_⟩
  refine Again.os (k+1) [3] hlt (by omega) ?_
  simp -implicitDefEqProofs [e1,ht2]
 ·have hkk:k=l.length:=by omega
  subst hkk
  simp -implicitDefEqProofs
  refine EndZ.ret [0] (.tup [.row 0,.int .i64 0]) (by simp) (by simp)
theorem makeI_spec (l:List Ivl) (hd:(l.map (·.1)).Nodup) (hl:l.length≤1024) (hb:l.any (fun x=>!oneC x)=false):
  FSpec Tryz.prog 67 [.im (.sl 2 (l.map ivI))] [] (.tup [.im (.sl 2 ((joinF l).map ivI)),.int .i64 0]) []:=by
 have h1:=containsB_spec l (by omega)
 have h2:=runsI_spec l (by omega)
 have h3:=joinI_spec l hd (by omega)
 have h4:=toldI_spec (joinF l) (by have:=foldJ_len (sortF l) [];have:=(sortF_perm l).length_eq;unfold joinF;simp at*;omega)
 have h5:=timesI_spec
 have hl':¬(1024:Int)<l.length:=by omega
 refine FSpec.of_flat (q:=[]) Tryz.func67 (by kernel_rfl) rfl Tryz.ntmps67 Tryz.results67 hP (by kernel_rfl) (by simp) (by first|rfl|simp) ?_
 simp -implicitDefEqProofs [hl']
 first|refine CallK.same (h1) rfl rfl ?_|refine CallQ.same (h1) rfl rfl ?_|refine CallQG.same _ (h1) rfl ?_|refine CallG.same _ (h1) rfl ?_|refine CallK.pv (h1) rfl rfl ?_
 simp -implicitDefEqProofs [hb]
 first|refine CallK.same (h5) rfl rfl ?_|refine CallQ.same (h5) rfl rfl ?_|refine CallQG.same _ (h5) rfl ?_|refine CallG.same _ (h5) rfl ?_|refine CallK.pv (h5) rfl rfl ?_
 simp -implicitDefEqProofs
 first|refine CallK.same (h2) rfl rfl ?_|refine CallQ.same (h2) rfl rfl ?_|refine CallQG.same _ (h2) rfl ?_|refine CallG.same _ (h2) rfl ?_|refine CallK.pv (h2) rfl rfl ?_
 simp -implicitDefEqProofs
 first|refine CallK.same (h3) rfl rfl ?_|refine CallQ.same (h3) rfl rfl ?_|refine CallQG.same _ (h3) rfl ?_|refine CallG.same _ (h3) rfl ?_|refine CallK.pv (h3) rfl rfl ?_
 simp -implicitDefEqProofs
 first|refine CallK.same (h4) rfl rfl ?_|refine CallQ.same (h4) rfl rfl ?_|refine CallQG.same _ (h4) rfl ?_|refine CallG.same _ (h4) rfl ?_|refine CallK.pv (h4) rfl rfl ?_
 simp -implicitDefEqProofs
end Go.Am
namespace Go.Am
open Go.Proofs
def kindL (k:Int) (L:List (Pc Verd)):List Ivl:=(L.filter fun x=>x.v.kind==k).map fun x=>(x.a,x.b)
theorem tile_up {T:Type} [DecidableEq T]:∀{l:List (Pc T)} {n:Int} {pv:Option T} {e:Int},Tile n pv l e→(∀x∈l,n≤x.a∧x.a≤x.b∧x.b<e)∧l.Pairwise (fun x y=>x.b<y.a)
 |[],n,pv,e,h=>⟨fun x hx=>by simp at hx,List.Pairwise.nil⟩
 |x::l,n,pv,e,h=>by
  obtain⟨h1,h2,h3,h4⟩:=h
  obtain⟨g1,g2⟩:=tile_up h4
  have hle:=Tile.le h4
  refine⟨fun y hy=>?_,List.pairwise_cons.2 ⟨fun y hy=>?_,g2⟩⟩
  ·rcases List.mem_cons.1 hy with rfl|hy
   ·omega
   ·have:=g1 y hy;omega
  ·have:=g1 y hy;omega
theorem kindL_up {L:List (Pc Verd)} {n e:Int} (k:Int) (h:(∀x∈L,n≤x.a∧x.a≤x.b∧x.b<e)∧L.Pairwise (fun x y=>x.b<y.a)):(∀x∈kindL k L,n≤x.1∧x.1≤x.2∧x.2<e)∧(kindL k L).Pairwise (fun x y=>x.2<y.1):=by
 refine⟨fun x hx=>?_,?_⟩
 ·simp only[kindL,List.mem_map,List.mem_filter]at hx
  obtain⟨y,⟨hy,_⟩,rfl⟩:=hx
  exact h.1 y hy
 ·unfold kindL
  rw[List.pairwise_map]
  exact h.2.filter _
theorem up_nodup {l:List Ivl} {n e:Int} (h:(∀x∈l,n≤x.1∧x.1≤x.2∧x.2<e)∧l.Pairwise (fun x y=>x.2<y.1)):(l.map (·.1)).Nodup:=by
 rw[List.nodup_iff_pairwise_ne,List.pairwise_map]
 refine List.Pairwise.imp_of_mem (fun{x y} hx hy hxy=>?_) h.2
 have:=(h.1 x hx).2.1
 omega
theorem up_one {l:List Ivl} {n e:Int} (h:∀x∈l,n≤x.1∧x.1≤x.2∧x.2<e) (h0:0≤n) (he:e≤1099511627777):l.any (fun x=>!oneC x)=false:=by
 rw[List.any_eq_false]
 intro x hx
 obtain⟨h1,h2,h3⟩:=h x hx
 have g1:0≤x.1:=by omega
 have g2:x.2≤1099511627776:=by omega
 simp[oneC,checkI,soundI,aheadI,g1,g2,h2]
theorem kindL_len (k:Int) (L:List (Pc Verd)):(kindL k L).length≤L.length:=by
 unfold kindL
 rw[List.length_map]
 exact List.length_filter_le _ _
theorem kindL_app (k:Int) (L M:List (Pc Verd)):kindL k (L++M)=kindL k L++kindL k M:=by simp[kindL]
def everL (p:Past) (r:Int) (six:Bool) (x:Addr4) (a b k:Int):List Ivl:=joinF (kindL k (verdL p r six x a b))
theorem verdL_up {p:Past} {r:Int} {six:Bool} {x:Addr4} {a b:Int} (h:verdE p r six x a b=0):((∀y∈verdL p r six x a b,a≤y.a∧y.a≤y.b∧y.b<b+1)∧(verdL p r six x a b).Pairwise (fun x y=>x.b<y.a))∧0≤a∧b≤1099511627776∧(verdL p r six x a b).length≤1024:=by
 have ha:askV p r six x a b=0:=by
  unfold verdE at h
  split at h
  ·assumption
  ·exact h
 have hl:(lineP p (fun n=>(wayN n six x r).2) a b).length≤1024:=by
  unfold verdE at h
  rw[if_pos ha]at h
  split at h
  ·cases h
  ·omega
 obtain⟨hok,hr,ho,h3,h4,h5⟩:=askV_zero ha
 simp only[oneI,Bool.and_eq_true,decide_eq_true_eq]at ho
 unfold verdL
 rw[if_pos h]
 exact⟨tile_up (lineP_tile p _ ho.1.2),ho.1.1,ho.2,hl⟩
set_option maxRecDepth 8000 in
set_option maxHeartbeats 4000000 in
theorem everP_spec (p:Past) (r:Int) (six:Bool) (x:Addr4) (a b kd:Int) (hw:p.wf) (hx:x.wf):
  FSpec Tryz.prog 22 [p.av,.int .i64 r,.bool six,x.av,.agg [.int .i64 a,.int .i64 b],.int .u8 kd] [kindsO]
   (.tup [.im (.sl 2 ((everL p r six x a b kd).map ivI)),.int .i64 (verdE p r six x a b)]) [kindsO]:=by
 have h1:=verdictsP_spec p r six x a b hw hx
 refine FSpec.of_o (q:=[]) Tryz.func22 (by kernel_rfl) rfl Tryz.ntmps22 Tryz.results22 hP (by kernel_rfl) (by simp) (by first|rfl|simp) ?_
 simp -implicitDefEqProofs [kindsO]
 refine CallO.mk [] [0] h1 (by simp) rfl (by simp[kindsO]) (by simp[kindsO]) (by simp[kindsO]) ?_
 simp -implicitDefEqProofs [kindsO]
 refine⟨fun h=>?_,fun h=>?_⟩
 ·have hv:verdL p r six x a b=[]:=by unfold verdL;rw[if_neg h]
  have he:everL p r six x a b kd=[]:=by unfold everL;rw[hv];simp[kindL,joinF,sortF]
  refine EndO.ret [] [0] (.tup [.im (.sc (.slice none 0 0)),.int .i64 (verdE p r six x a b)]) (by simp) ?_
  simp -implicitDefEqProofs [he]
 obtain⟨hup,h0,h2,hl⟩:=verdL_up h
 have hk:=kindL_up kd hup
 have hm:=makeI_spec (kindL kd (verdL p r six x a b)) (up_nodup hk) (by have:=kindL_len kd (verdL p r six x a b);omega) (up_one hk.1 h0 (by omega))
 unfold everL
 rw[h]
 generalize verdL p r six x a b=L at*
 refine LoopK.nil (.sl 16 43 2) ?_
 simp -implicitDefEqProofs
 refine LoopK.os (fun k:Nat=>[(5,.int .u8 kd),(16,.row 1),(31,.im (.sl 4 (L.map Pc.ivVd))),(32,.int .i64 L.length),(33,.int .i64 k)])
  (fun k=>[kindsO,.row 43 2 ((kindL kd (L.take k)).map ivI)])
  (fun k=>k≤L.length) (fun k=>L.length-k) 0 [0,4] (Nat.zero_le _) (by simp[kindsO,kindL]) ?_
 intro k hk
 by_cases hlt:k<L.length
 ·have e1:IntKind.i64.wrap (k+1)=(k+1:Nat):=wrap64 (by omega) (by omega)
  have ht:L.take (k+1)=L.take k++[L[k]]:=by rw[List.take_add_one,List.getElem?_eq_getElem hlt];rfl
  obtain⟨y,hy⟩:∃y,L[k]=y:=⟨_,rfl⟩
  rw[hy]at ht
  have ht2:kindL kd (L.take (k+1))=kindL kd (L.take k)++(if y.v.kind=kd then[(y.a,y.b)]else[]):=by
   rw[ht,kindL_app]
   congr 1
   by_cases h:y.v.kind=kd<;>simp[kindL,h]
  have hkl:=kindL_len kd (L.take k)
  rw[List.length_take]at hkl
  generalize kindL kd (L.take k)=out at*
  simp -implicitDefEqProofs [hlt,hy,kindsO]
  refine⟨fun h'=>?_,fun h'=>?_⟩
  ·rw[if_pos h']at ht2
   refine⟨⟨by omega,by unfold maxLen;omega⟩,?_⟩
   refine Again.os (k+1) [0,4] hlt (by omega) ?_
   simp -implicitDefEqProofs [e1,ht2,kindsO]
  ·rw[if_neg h',List.append_nil]at ht2
   refine Again.os (k+1) [0,1] hlt (by omega) ?_
   simp -implicitDefEqProofs [e1,ht2,kindsO]
 ·have hkk:k=L.length:=by omega
  subst hkk
  simp -implicitDefEqProofs [kindsO]
  refine CallK.outs [1] hm rfl (by simp) (by simp[AV.flat]) ?_
  simp -implicitDefEqProofs
  refine EndO.ret [] [0] (.tup [.im (.sl 2 ((joinF (kindL kd L)).map ivI)),.int .i64 0]) (by simp) ?_
  simp -implicitDefEqProofs
end Go.Am
namespace Go.Am
open Go.Proofs
def traceE (p:Past) (r:Int) (six:Bool) (x:Addr4) (t:Int):Int:=if okP p=true∧rightA six x=true then(if r<0∨1048576<r then 1 else askT p t)else 2
def traceR (p:Past) (r:Int) (six:Bool) (x:Addr4) (t:Int):List Int×Verd:=if traceE p r six x t=0 then wayN (thenF p t) six x r else([],⟨0,0⟩)
theorem then_wf {p:Past} (hw:p.wf) (t:Int):(thenF p t).wf:=allN_wf hw.1 fun e he=>(hw.2 e (List.mem_filter.1 he).1).2
set_option maxRecDepth 8000 in
set_option maxHeartbeats 4000000 in
theorem traceP_spec (p:Past) (r:Int) (six:Bool) (x:Addr4) (t:Int) (hw:p.wf) (hx:x.wf):
  FSpec Tryz.prog 15 [p.av,.int .i64 r,.bool six,x.av,.int .i64 t] [kindsO]
   (.tup [.im (.sl 1 (rowI (traceR p r six x t).1)),(traceR p r six x t).2.av,.int .i64 (traceE p r six x t)]) [kindsO]:=by
 have h1:=checkP_spec_ p (fun e he=>(hw.2 e he).1)
 have h2:=rightA_spec six x
 have h3:=atO_spec p t (fun e he=>(hw.2 e he).1)
 refine FSpec.of_o (q:=[(3,.n 2),(5,.n 2),(8,.m [.p [] [],.p [1] [],.p [] [],.e [11,46]]),(10,.n 3)]) Tryz.func15 (by kernel_rfl) rfl Tryz.ntmps15 Tryz.results15 hP (by kernel_rfl) (by simp) (by first|rfl|simp) ?_
 simp -implicitDefEqProofs [kindsO]
 first|refine CallK.same (h1) rfl rfl ?_|refine CallQ.same (h1) rfl rfl ?_|refine CallQG.same _ (h1) rfl ?_|refine CallG.same _ (h1) rfl ?_|refine CallK.pv (h1) rfl rfl ?_
 by_cases hok:okP p=true
 ·simp -implicitDefEqProofs [hok]
  first|refine CallK.same (h2) rfl rfl ?_|refine CallQ.same (h2) rfl rfl ?_|refine CallQG.same _ (h2) rfl ?_|refine CallG.same _ (h2) rfl ?_|refine CallK.pv (h2) rfl rfl ?_
  by_cases hr:rightA six x=true
  ·have hE:traceE p r six x t=if r<0∨1048576<r then 1 else askT p t:=by unfold traceE;rw[if_pos ⟨hok,hr⟩]
   simp -implicitDefEqProofs [hr]
   refine⟨fun h=>?_,fun ha hb=>?_⟩
   ·rw[if_pos h]at hE
    have hR:traceR p r six x t=([],⟨0,0⟩):=by unfold traceR;rw[hE];rfl
    refine EndO.ret [] [0] (.tup [.im (.sc (.slice none 0 0)),.agg [.int .u8 0,.int .i64 0],.int .i64 1]) (by simp) ?_
    simp -implicitDefEqProofs [hE,hR,rowI]
   ·rw[if_neg (by omega)]at hE
    rw[if_pos hok]at h3
    by_cases ht:askT p t=0
    ·have hR:traceR p r six x t=wayN (thenF p t) six x r:=by unfold traceR;rw[hE,ht];rfl
     have h4:=wayW_spec (thenF p t) six x r (then_wf hw t) hx (rightN_of (thenF_all hok t).2.2 hr)
     rw[if_pos ⟨hok,ht⟩,ht]at h3
     rw[hE,hR,ht]
     generalize thenF p t=N at*
     generalize wayN N six x r=W at*
     first|refine CallK.same (h3) rfl rfl ?_|refine CallQ.same (h3) rfl rfl ?_|refine CallQG.same _ (h3) rfl ?_|refine CallG.same _ (h3) rfl ?_|refine CallK.pv (h3) rfl rfl ?_
     simp -implicitDefEqProofs
     refine CallO.mk [] [0] h4 (by simp) rfl (by simp[kindsO]) (by simp[kindsO]) (by simp[kindsO]) ?_
     simp -implicitDefEqProofs [kindsO]
     refine EndO.ret [] [0] (.tup [.im (.sl 1 (rowI W.1)),W.2.av,.int .i64 0]) (by simp) ?_
     simp -implicitDefEqProofs
    ·have hR:traceR p r six x t=([],⟨0,0⟩):=by unfold traceR;rw[hE,if_neg ht]
     rw[if_neg (fun h=>ht h.2)]at h3
     rw[hE,hR]
     first|refine CallK.same (h3) rfl rfl ?_|refine CallQ.same (h3) rfl rfl ?_|refine CallQG.same _ (h3) rfl ?_|refine CallG.same _ (h3) rfl ?_|refine CallK.pv (h3) rfl rfl ?_
     simp -implicitDefEqProofs [ht]
     refine EndO.ret [] [0] (.tup [.im (.sc (.slice none 0 0)),.agg [.int .u8 0,.int .i64 0],.int .i64 (askT p t)]) (by simp) ?_
     simp -implicitDefEqProofs [rowI]
  ·have hE:traceE p r six x t=2:=by unfold traceE;rw[if_neg (fun h=>hr h.2)]
   have hR:traceR p r six x t=([],⟨0,0⟩):=by unfold traceR;rw[hE];rfl
   simp -implicitDefEqProofs [hr]
   refine EndO.ret [] [0] (.tup [.im (.sc (.slice none 0 0)),.agg [.int .u8 0,.int .i64 0],.int .i64 2]) (by simp) ?_
   simp -implicitDefEqProofs [hE,hR,rowI]
 ·have hE:traceE p r six x t=2:=by unfold traceE;rw[if_neg (fun h=>hok h.1)]
  have hR:traceR p r six x t=([],⟨0,0⟩):=by unfold traceR;rw[hE];rfl
  simp -implicitDefEqProofs [hok]
  first|refine CallG.off (.bool true) ?_|(refine CallG.on ?_;(first|refine CallK.same (h2) rfl rfl ?_|refine CallQ.same (h2) rfl rfl ?_|refine CallQG.same _ (h2) rfl ?_|refine CallG.same _ (h2) rfl ?_|refine CallK.pv (h2) rfl rfl ?_))
  simp -implicitDefEqProofs
  refine EndO.ret [] [0] (.tup [.im (.sc (.slice none 0 0)),.agg [.int .u8 0,.int .i64 0],.int .i64 2]) (by simp) ?_
  simp -implicitDefEqProofs [hE,hR,rowI]
end Go.Am
namespace Go.Am
open Go.Proofs
set_option maxRecDepth 4000 in
theorem same19_spec (l:List (Int×Int)) (hl:l.length≤9223372036854775807):FSpec Tryz.prog 25 [.im (.sl 2 (l.map ivI)),.im (.sl 2 (l.map ivI))] [] (.bool true) []:=by
 refine FSpec.of_flat (q:=[(6,.n 8)]) Tryz.func25 (by kernel_rfl) rfl Tryz.ntmps25 Tryz.results25 hP (by kernel_rfl) (by simp) (by first|rfl|simp) ?_
 simp -implicitDefEqProofs
 refine LoopK.os (fun k:Nat=>[(0,.im (.sl 2 (l.map ivI))),(1,.im (.sl 2 (l.map ivI))),(12,.int .i64 l.length),(13,.int .i64 k)])
  (fun k=>[]) (fun k=>k≤l.length) (fun k=>l.length-k) 0 [] (Nat.zero_le _) (by simp) ?_
 intro k hk
 by_cases hlt:k<l.length
 ·have e1:IntKind.i64.wrap (k+1)=(k+1:Nat):=wrap64 (by omega) (by omega)
  obtain⟨x,hx⟩:∃x,l[k]=x:=⟨_,rfl⟩
  simp -implicitDefEqProofs [hlt,hx,e1]
  refine Again.os (k+1) [] hlt (by omega) ?_
  simp -implicitDefEqProofs
 ·have hkk:k=l.length:=by omega
  subst hkk
  simp -implicitDefEqProofs
set_option maxRecDepth 4000 in
theorem same20_spec (l:List (Pc Verd)) (hl:l.length≤9223372036854775807):FSpec Tryz.prog 21 [.im (.sl 4 (l.map Pc.ivVd)),.im (.sl 4 (l.map Pc.ivVd))] [] (.bool true) []:=by
 refine FSpec.of_flat (q:=[(6,.n 8)]) Tryz.func21 (by kernel_rfl) rfl Tryz.ntmps21 Tryz.results21 hP (by kernel_rfl) (by simp) (by first|rfl|simp) ?_
 simp -implicitDefEqProofs
 refine LoopK.os (fun k:Nat=>[(0,.im (.sl 4 (l.map Pc.ivVd))),(1,.im (.sl 4 (l.map Pc.ivVd))),(12,.int .i64 l.length),(13,.int .i64 k)])
  (fun k=>[]) (fun k=>k≤l.length) (fun k=>l.length-k) 0 [] (Nat.zero_le _) (by simp) ?_
 intro k hk
 by_cases hlt:k<l.length
 ·have e1:IntKind.i64.wrap (k+1)=(k+1:Nat):=wrap64 (by omega) (by omega)
  obtain⟨x,hx⟩:∃x,l[k]=x:=⟨_,rfl⟩
  simp -implicitDefEqProofs [hlt,hx,e1]
  refine Again.os (k+1) [] hlt (by omega) ?_
  simp -implicitDefEqProofs
 ·have hkk:k=l.length:=by omega
  subst hkk
  simp -implicitDefEqProofs
def sW:Pfx:=⟨false,⟨0,0⟩,0⟩
def sE1:Ev:=⟨1,4,1,2,sW,⟨0,0⟩,0,0⟩
def sE2:Ev:=⟨3,4,2,5,sW,⟨2,0⟩,0,0⟩
def sE3:Ev:=⟨4,4,3,8,sW,⟨0,0⟩,0,0⟩
def sP1:Past:=⟨⟨[],[]⟩,-1,[sE1]⟩
def sP2:Past:=⟨⟨[],[]⟩,-1,[sE1,sE2]⟩
def sP3:Past:=⟨⟨[],[]⟩,-1,[sE1,sE2,sE3]⟩
def uL:List (Pc Verd):=[⟨0,4,⟨3,4⟩⟩,⟨5,7,⟨1,4⟩⟩,⟨8,9,⟨3,4⟩⟩]
theorem sl1:takeP lP0 sE1=(sP1,0):=by kernel_rfl
theorem sl2:takeP sP1 sE2=(sP2,0):=by kernel_rfl
theorem sl3:takeP sP2 sE3=(sP3,0):=by kernel_rfl
theorem timesF_of_sorted {l:List Ev} {a b:Int} {d:List Int} (h:happT l a b=d) (hs:d.Pairwise (·≤·)):timesF l a b=dedup d:=by
 unfold timesF
 rw[h,sorted_eq (sortI_perm d) (sortI_sorted d) hs]
theorem sl0:timesF sP3.evs 0 9=[2,5,8]:=timesF_of_sorted (d:=[2,5,8]) (by kernel_rfl) (by decide)
theorem ul1:lineP sP3 (fun n=>(wayN n false ⟨0,0⟩ 4).2) 0 9=uL:=by unfold lineP;rw[sl0];kernel_rfl
theorem ul2:askV sP3 4 false ⟨0,0⟩ 0 9=0:=by kernel_rfl
theorem ul3:askV sP3 (-1) false ⟨0,0⟩ 0 9=1:=by kernel_rfl
theorem ul4:traceE sP3 4 false ⟨0,0⟩ 6=0:=by kernel_rfl
theorem ul5:wayN (thenF sP3 6) false ⟨0,0⟩ 4=([4],⟨1,4⟩):=by kernel_rfl
theorem ul6:traceE sP3 4 false ⟨0,0⟩ (-1)=1:=by kernel_rfl
theorem ul7:verdE sP3 4 false ⟨0,0⟩ 0 9=0:=by unfold verdE;rw[if_pos ul2,ul1];rfl
theorem ul8:verdL sP3 4 false ⟨0,0⟩ 0 9=uL:=by unfold verdL;rw[if_pos ul7,ul1]
theorem ul9:verdE sP3 (-1) false ⟨0,0⟩ 0 9=1:=by unfold verdE;rw[if_neg (by rw[ul3];decide),ul3]
theorem ul10:verdL sP3 (-1) false ⟨0,0⟩ 0 9=[]:=by unfold verdL;rw[if_neg (by rw[ul9];decide)]
theorem ul11:everL sP3 4 false ⟨0,0⟩ 0 9 3=[(0,4),(8,9)]:=by
 unfold everL
 rw[ul8,show kindL 3 uL=[(0,4),(8,9)]by rfl]
 unfold joinF
 rw[sortF_id (by simp)]
 rfl
theorem ul12:traceR sP3 4 false ⟨0,0⟩ 6=([4],⟨1,4⟩):=by unfold traceR;rw[if_pos ul4,ul5]
theorem ul13:traceR sP3 4 false ⟨0,0⟩ (-1)=([],⟨0,0⟩):=by unfold traceR;rw[if_neg (by rw[ul6];decide)]
theorem sA (h l:Int) (h1:0≤h∧h≤1) (h2:0≤l∧l≤1):(Addr4.mk h l).wf:=by unfold Addr4.wf;simp only;omega
theorem sEw {e:Ev} (h:e=sE1∨e=sE2∨e=sE3):0≤e.seq∧e.pfx.addr.wf:=by rcases h with rfl|rfl|rfl<;>exact⟨by decide,sA 0 0 (by decide) (by decide)⟩
theorem sw3:sP3.wf:=⟨by intro r hr;simp[sP3]at hr,fun e he=>sEw (by simpa [sP3]using he)⟩
theorem ss1:FSpec Tryz.prog 111 [lP0.av,sE1.av] [] (.tup [sP1.av,.int .i64 0]) []:=by
 have h:=takePo_spec lP0 sE1 (by intro e he;cases he) (by decide)
 rw[sl1]at h;exact h
theorem ss2:FSpec Tryz.prog 111 [sP1.av,sE2.av] [] (.tup [sP2.av,.int .i64 0]) []:=by
 have h:=takePo_spec sP1 sE2 (fun e he=>(sEw (by simp[sP1]at he;exact .inl he)).1) (by decide)
 rw[sl2]at h;exact h
theorem ss3:FSpec Tryz.prog 111 [sP2.av,sE3.av] [] (.tup [sP3.av,.int .i64 0]) []:=by
 have h:=takePo_spec sP2 sE3 (fun e he=>(sEw (by simp[sP2]at he;rcases he with he|he;exact .inl he;exact .inr (.inl he))).1) (by decide)
 rw[sl3]at h;exact h
theorem us1:FSpec Tryz.prog 19 [sP3.av,.int .i64 4,.bool false,(Addr4.mk 0 0).av,.agg [.int .i64 0,.int .i64 9]] [kindsO] (.tup [.im (.sl 4 (uL.map Pc.ivVd)),.int .i64 0]) [kindsO]:=by
 have h:=verdictsP_spec sP3 4 false ⟨0,0⟩ 0 9 sw3 (sA _ _ (by decide) (by decide))
 rw[ul8,ul7]at h;exact h
theorem us2:FSpec Tryz.prog 15 [sP3.av,.int .i64 4,.bool false,(Addr4.mk 0 0).av,.int .i64 6] [kindsO] (.tup [.im (.sl 1 (rowI [4])),.agg [.int .u8 1,.int .i64 4],.int .i64 0]) [kindsO]:=by
 have h:=traceP_spec sP3 4 false ⟨0,0⟩ 6 sw3 (sA _ _ (by decide) (by decide))
 rw[ul12,ul4]at h;exact h
theorem us3:FSpec Tryz.prog 22 [sP3.av,.int .i64 4,.bool false,(Addr4.mk 0 0).av,.agg [.int .i64 0,.int .i64 9],.int .u8 3] [kindsO] (.tup [.im (.sl 2 ([(0,4),(8,9)].map ivI)),.int .i64 0]) [kindsO]:=by
 have h:=everP_spec sP3 4 false ⟨0,0⟩ 0 9 3 sw3 (sA _ _ (by decide) (by decide))
 rw[ul11,ul7]at h;exact h
theorem us4:FSpec Tryz.prog 15 [sP3.av,.int .i64 4,.bool false,(Addr4.mk 0 0).av,.int .i64 (-1)] [kindsO] (.tup [.im (.sl 1 (rowI [])),.agg [.int .u8 0,.int .i64 0],.int .i64 1]) [kindsO]:=by
 have h:=traceP_spec sP3 4 false ⟨0,0⟩ (-1) sw3 (sA _ _ (by decide) (by decide))
 rw[ul13,ul6]at h;exact h
theorem us5:FSpec Tryz.prog 19 [sP3.av,.int .i64 (-1),.bool false,(Addr4.mk 0 0).av,.agg [.int .i64 0,.int .i64 9]] [kindsO] (.tup [.im (.sl 4 []),.int .i64 1]) [kindsO]:=by
 have h:=verdictsP_spec sP3 (-1) false ⟨0,0⟩ 0 9 sw3 (sA _ _ (by decide) (by decide))
 rw[ul10,ul9]at h;exact h
set_option maxRecDepth 8000 in
set_option maxHeartbeats 4000000 in
theorem story26_spec:FSpec Tryz.prog 62 [] [] (.tup [sP3.av,.bool true]) []:=by
 have h1:=ss1
 have h2:=ss2
 have h3:=ss3
 simp[lP0,sE1,sP1,sE2,sP2,sE3,sP3,sW]at h1 h2 h3
 refine FSpec.of_flat (q:=[]) Tryz.func62 (by kernel_rfl) rfl Tryz.ntmps62 Tryz.results62 hP (by kernel_rfl) (by simp) (by first|rfl|simp) ?_
 simp -implicitDefEqProofs
 first|refine CallK.same (makePo_spec) rfl rfl ?_|refine CallQ.same (makePo_spec) rfl rfl ?_|refine CallQG.same _ (makePo_spec) rfl ?_|refine CallG.same _ (makePo_spec) rfl ?_|refine CallK.pv (makePo_spec) rfl rfl ?_
 simp -implicitDefEqProofs
 refine CallK.v0 h1 rfl (by simp) rfl ?_
 simp -implicitDefEqProofs
 refine CallK.v0 h2 rfl (by simp) rfl ?_
 simp -implicitDefEqProofs
 refine CallK.v0 h3 rfl (by simp) rfl ?_
 simp -implicitDefEqProofs [sP3,sE1,sE2,sE3,sW]
set_option maxRecDepth 8000 in
set_option maxHeartbeats 4000000 in
theorem lives26_spec:FSpec Tryz.prog 17 [] [kindsO] (.bool true) [kindsO]:=by
 have h1:=story26_spec
 have h2:=us1
 have h3:=us2
 have h4:=us3
 have h5:=us4
 have h6:=us5
 have h7:=same20_spec uL (by decide)
 have h8:=alike_spec [4] [4]
 have h9:=same19_spec [(0,4),(8,9)] (by decide)
 simp[sE1,sE2,sE3,sP3,sW,uL,rowI]at h1 h2 h3 h4 h5 h6 h7 h8 h9
 refine FSpec.of_o (q:=[]) Tryz.func17 (by kernel_rfl) rfl Tryz.ntmps17 Tryz.results17 hP (by kernel_rfl) (by simp) (by first|rfl|simp) ?_
 simp -implicitDefEqProofs [kindsO]
 refine CallK.v0 h1 rfl (by simp) rfl ?_
 simp -implicitDefEqProofs
 refine CallO.mk [] [0] h2 (by simp) rfl (by simp[kindsO]) (by simp[kindsO]) (by simp[kindsO]) ?_
 simp -implicitDefEqProofs [kindsO]
 refine CallO.mk [] [0] h3 (by simp) rfl (by simp[kindsO]) (by simp[kindsO]) (by simp[kindsO]) ?_
 simp -implicitDefEqProofs [kindsO]
 refine CallO.mk [] [0] h4 (by simp) rfl (by simp[kindsO]) (by simp[kindsO]) (by simp[kindsO]) ?_
 simp -implicitDefEqProofs [kindsO]
 refine CallO.mk [] [0] h5 (by simp) rfl (by simp[kindsO]) (by simp[kindsO]) (by simp[kindsO]) ?_
 simp -implicitDefEqProofs [kindsO]
 refine CallO.mk [] [0] h6 (by simp) rfl (by simp[kindsO]) (by simp[kindsO]) (by simp[kindsO]) ?_
 simp -implicitDefEqProofs [kindsO]
 refine CallG.on ?_
 refine CallK.fz [7] h7 rfl (by simp) rfl ?_
 simp -implicitDefEqProofs
 refine CallG.on ?_
 refine CallK.fz [8] h8 rfl (by simp) rfl ?_
 simp -implicitDefEqProofs
 refine CallG.on ?_
 refine CallK.fz [9] h9 rfl (by simp) rfl ?_
 simp -implicitDefEqProofs
 refine EndO.ret [] [0] (.bool true) (by simp) ?_
 simp -implicitDefEqProofs [kindsO]
end Go.Am
namespace Go.Am
open Go.Proofs
end Go.Am
namespace Go.Am
open Go.Proofs
theorem boolV_arg (y:List IV) (h:Sh.hasL [.bool] y):∃t:Bool,argAV Tryz.prog 4 y=.bool t:=by
 obtain⟨a,_,rfl,ha,h⟩:=hasL_cons h
 cases hasL_nil h
 obtain⟨a,rfl⟩:=has_bool ha
 refine⟨a,?_⟩
 simp only[argAV,Tryz.underlying4]
theorem addrV_arg (y:List IV) (h:Sh.hasL addrSh y):∃a:Addr4,a.wf∧argAV Tryz.prog 31 y=a.av:=by
 obtain⟨a,ha,ea⟩:=addr_of y h
 refine⟨a,ha,?_⟩
 simp only[argAV,Tryz.underlying31,ea]
 rfl
theorem num_arg (y:List IV) (h:Sh.hasL [.int .i64] y):∃t:Int,argAV Tryz.prog 3 y=.int .i64 t:=by
 obtain⟨t,rfl⟩:=int1_of h
 refine⟨t,?_⟩
 simp only[argAV,Tryz.underlying3]
theorem ivlP_arg (y:List IV) (h:Sh.hasL ivlSh y):∃w:Int×Int,argAV Tryz.prog 43 y=.agg [.int .i64 w.1,.int .i64 w.2]:=by
 obtain⟨a,b,rfl⟩:=ivl_of h
 refine⟨(a,b),?_⟩
 simp only[argAV,Tryz.underlying43]
 rfl
theorem args_wever {xs:List (List IV)} (h:hasArgs [pastSh,[.int .i64],[.bool],addrSh,ivlSh] xs):∃(p:Past) (r:Int) (s:Bool) (x:Addr4) (w:Int×Int),p.wf∧x.wf∧argsAV Tryz.prog [28,3,4,31,43] xs=[p.av,.int .i64 r,.bool s,x.av,.agg [.int .i64 w.1,.int .i64 w.2]]:=by
 obtain⟨y0,_,rfl,g0,h⟩:=hasArgs_cons h
 obtain⟨y1,_,rfl,g1,h⟩:=hasArgs_cons h
 obtain⟨y2,_,rfl,g2,h⟩:=hasArgs_cons h
 obtain⟨y3,_,rfl,g3,h⟩:=hasArgs_cons h
 obtain⟨y4,_,rfl,g4,h⟩:=hasArgs_cons h
 cases h
 obtain⟨p,h0,e0⟩:=past_arg y0 g0
 obtain⟨r,e1⟩:=num_arg y1 g1
 obtain⟨s,e2⟩:=boolV_arg y2 g2
 obtain⟨x,h3,e3⟩:=addrV_arg y3 g3
 obtain⟨w,e4⟩:=ivlP_arg y4 g4
 refine⟨p,r,s,x,w,h0,h3,?_⟩
 simp only[argsAV,e0,e1,e2,e3,e4]
end Go.Am
namespace Go.Am
open Go.Proofs
attribute [local simp] kindsO
attribute [local simp] kindsO
set_option maxRecDepth 8000 in
set_option maxHeartbeats 4000000 in
theorem linePk_spec (p:Past) (a b:Int) (g:FuncId) (F:Net→Verd) (router:Int) (six:Bool) (x:Addr4) (hok:okP p=true) (hew:∀e∈p.evs,0≤e.seq)
  (hw:p.wf) (hg:∀n:Net,n.wf→netOk n=true→FSpec Tryz.prog g [n.av,.ptr 1 0] [kindsO,.box 160 [.int .i64 router,.bool six,.int .u64 x.hi,.int .u64 x.lo]] (F n).av [kindsO,.box 160 [.int .i64 router,.bool six,.int .u64 x.hi,.int .u64 x.lo]]) (hbd:∀t∈a::timesF p.evs a b,0≤t∧t≤1099511627776) (hasT:∀t∈a::timesF p.evs a b,askT p t=0):
  FSpec Tryz.prog 64 [p.av,.agg [.int .i64 a,.int .i64 b],.fn g [.ptr 1 0]] [kindsO,.box 160 [.int .i64 router,.bool six,.int .u64 x.hi,.int .u64 x.lo]] (.ptr 2 0) [kindsO,.box 160 [.int .i64 router,.bool six,.int .u64 x.hi,.int .u64 x.lo],lineVd 3,rowVd (lineP p F a b)]:=by
 have hl:=okP_len hok
 have htm:=timesK_spec p a b (by omega)
 refine FSpec.of_o (q:=[(2,.m [.p [] [],.p [] [],.a 0 1,.p [1] [],.p [1] [0],.a 1 0,.a 2 0,.a 3 0,.e [8,16]])]) Tryz.func64 (by kernel_rfl) rfl Tryz.ntmps64 Tryz.results64 hP (by kernel_rfl) (by simp) (by first|rfl|simp) ?_
 simp -implicitDefEqProofs
 refine CallK.outs [] (eachO_spec p a b) rfl (by simp) (by simp[AV.flat]) ?_
 simp -implicitDefEqProofs [rangeK]
 intro a0 b0 rr
 refine⟨_,_,_,[(1,.m [.p [1] [],.p [1] [],.a 0 1,.p [] [],.p [] [],.e [16,17],.e [15,18],.e [19],.p [] [],.p [0,1,2] []])],Tryz.func211,(by kernel_rfl),rfl,Tryz.ntmps211,Tryz.results211,(by kernel_rfl),(by simp),?_⟩
 simp -implicitDefEqProofs
 refine CallO.mk [] [15] htm (by simp) rfl (by simp) (by simp) (by simp) ?_
 simp -implicitDefEqProofs
 have hcc:=concatN_spec [[a],timesF p.evs a b] (by simp[sumM];have:=timesF_len p.evs a b;omega) (by simp)
 simp only[List.flatten_cons,List.flatten_nil,List.append_nil,List.singleton_append]at hcc
 have hcl:(a::timesF p.evs a b).length≤2000:=by have:=timesF_len p.evs a b;simp;omega
 refine CallK.outs [16,17] hcc rfl (by simp[rowM,rowN]) (by simp[AV.flat,rowN]) ?_
 generalize hts:a::timesF p.evs a b=ts at*
 simp -implicitDefEqProofs
 have h0:ts[0]?.getD 0=a:=by rw[←hts];rfl
 have hpos:0<ts.length:=by rw[←hts];simp
 refine LoopK.nil (.cl 5 0 126 4) ?_
 simp -implicitDefEqProofs
 refine LoopK.os (fun k:Nat=>[(0,.yld 12),(4,.ptr 10 0),(20,.im (.sl 1 (rowN ts))),(21,.int .i64 ts.length),(22,.int .i64 k)])
  (fun k=>[kindsO,.box 160 [.int .i64 router,.bool six,.int .u64 x.hi,.int .u64 x.lo],.box 43 [.int .i64 a,.int .i64 b],
   .box 121 [.fn g [.ptr 1 0]],lineVd 5,rowVd (accG (fun t=>F (thenF p t)) ts (k-1)),.box 119 [.ptr 4 0],
   .box 2 [.int .i64 (ts.getD (k-1) 0)],.box 35 (wasVd (fun t=>F (thenF p t)) ts k),.box 4 [.bool (decide (0<k))],bookI p,
   .sv a0 [(4,.ptr 2 0),(5,.ptr 3 0),(7,.ptr 6 0),(8,.ptr 7 0),(9,.ptr 8 0),(10,.ptr 9 0)],.lp b0 rr .ready none])
  (fun k=>k≤ts.length) (fun k=>ts.length-k) 0 [0,1,3,4,5,18,6,8,9,10,15,13,14] (Nat.zero_le _) (by simp[renM,accG,wasVd,h0];rintro _ _ (⟨rfl,rfl⟩|⟨rfl,rfl⟩|⟨rfl,rfl⟩|⟨rfl,rfl⟩|⟨rfl,rfl⟩|⟨rfl,rfl⟩)<;>rfl) ?_
 intro k hk
 by_cases hlt:k<ts.length
 ·have e1:IntKind.i64.wrap (k+1)=(k+1:Nat):=wrap64 (by omega) (by omega)
  have hgt:=rowN_get hlt
  have htk:=hasT ts[k] (List.getElem_mem hlt)
  have hat:=atK_spec p ts[k] hew (by omega) htk
  rw[thenW_ok hok]at hat
  have hgf:=hg (thenF p ts[k]) (allN_wf hw.1 fun e he=>(hw.2 e (List.mem_filter.1 he).1).2) (thenF_all hok ts[k]).2.2
  have hgd:ts[k]?.getD 0=ts[k]:=by rw[List.getElem?_eq_getElem hlt];rfl
  have hlen:=accG_len (fun t=>F (thenF p t)) ts (k-1)
  obtain⟨t,ht⟩:∃t,ts[k]=t:=⟨_,rfl⟩
  rw[ht]at hgt hat hgf hgd
  simp -implicitDefEqProofs [hlt,hgt,ht]
  refine CallO.mk [] [10] hat (by simp) rfl (by simp) (by simp) (by simp) ?_
  simp -implicitDefEqProofs
  refine⟨11,_,rfl,rfl,rfl,fun aI=>?_⟩
  simp -implicitDefEqProofs [putL,asgK]
  refine⟨12,by simp,?_⟩
  simp -implicitDefEqProofs
  cases k with
  |zero=>
   simp -implicitDefEqProofs [wasVd,accG]
   refine CallO.mk [] [0,1] hgf (by simp) rfl (by simp) (by simp) (by simp) ?_
   simp -implicitDefEqProofs
   refine endRd_normal 15 12 (by simp;rfl) (by simp) ?_
   simp -implicitDefEqProofs
   refine Again.os 1 [0,1,2,3,4,5,6,7,8,9,10,11,12] hlt (by omega) ?_
   simp -implicitDefEqProofs [renM,accG,wasVd,hgd,show IntKind.i64.wrap 1=1 by decide]
   rintro _ _ (⟨rfl,rfl⟩|⟨rfl,rfl⟩|⟨rfl,rfl⟩|⟨rfl,rfl⟩|⟨rfl,rfl⟩|⟨rfl,rfl⟩)<;>rfl
  |succ j=>
   have hacc:accG (fun t=>F (thenF p t)) ts (j+1)=addPc (accG (fun t=>F (thenF p t)) ts j) (ts[j]?.getD 0) (t-1) (F (thenF p (ts[j]?.getD 0))):=by
    rw[accG,List.getD_eq_getElem?_getD,List.getD_eq_getElem?_getD,hgd]
   have htb:=hbd t (by rw[←ht];exact List.getElem_mem hlt)
   have e3:IntKind.i64.wrap (t-1)=t-1:=wrap64 (by omega) (by omega)
   have hws:wasVd (fun t=>F (thenF p t)) ts (j+1+1)=[.int .u8 (F (thenF p t)).kind,.int .i64 (F (thenF p t)).at_]:=by
    rw[wasVd,List.getD_eq_getElem?_getD,hgd]
   rw[Nat.add_sub_cancel]at hlen
   simp -implicitDefEqProofs [wasVd,e3]
   generalize ts[j]?.getD 0=s at*
   generalize F (thenF p s)=W at*
   generalize hH:F (thenF p t)=H at*
   generalize accG (fun t=>F (thenF p t)) ts j=L at*
   by_cases hL:∃L' y,L=L'++[y]∧y.v=W
   ·obtain⟨L',y,rfl,rfl⟩:=hL
    rw[addPc_ext]at hacc
    rw[List.length_append,List.length_singleton]at hlen
    refine CallO.mk [] [4,5] (addVd_ext L' y s (t-1) (by omega)) (by simp) rfl (by simp) (by simp) (by simp) ?_
    simp -implicitDefEqProofs
    refine CallO.mk [] [0,1] hgf (by simp) rfl (by simp) (by simp) (by simp) ?_
    simp -implicitDefEqProofs
    refine endRd_normal 15 12 (by simp;rfl) (by simp) ?_
    simp -implicitDefEqProofs
    refine Again.os (j+1+1) [0,1,2,3,4,5,6,7,8,9,10,11,12] hlt (by omega) ?_
    simp -implicitDefEqProofs at e1
    simp -implicitDefEqProofs [renM,e1,hacc,hws,hgd,hH]
    rintro _ _ (⟨rfl,rfl⟩|⟨rfl,rfl⟩|⟨rfl,rfl⟩|⟨rfl,rfl⟩|⟨rfl,rfl⟩|⟨rfl,rfl⟩)<;>rfl
   ·have hne:∀y,L.getLast? =some y→y.v≠W:=fun y hy h=>hL (by
     rcases List.eq_nil_or_concat L with rfl|⟨L',z,rfl⟩
     ·cases hy
     ·rw[List.concat_eq_append]at hy⊢
      simp at hy
      exact⟨L',z,rfl,by rw[hy];exact h⟩)
    rw[addPc_new _ _ _ _ hne]at hacc
    refine CallO.mk [] [4,5] (addVd_new L s (t-1) W (by omega) hne) (by simp) rfl (by simp) (by simp) (by simp) ?_
    simp -implicitDefEqProofs
    refine CallO.mk [] [0,1] hgf (by simp) rfl (by simp) (by simp) (by simp) ?_
    simp -implicitDefEqProofs
    refine endRd_normal 15 12 (by simp;rfl) (by simp) ?_
    simp -implicitDefEqProofs
    refine Again.os (j+1+1) [0,1,2,3,4,17,6,7,8,9,10,11,12] hlt (by omega) ?_
    simp -implicitDefEqProofs at e1
    simp -implicitDefEqProofs [renM,e1,hacc,hws,hgd,hH]
    rintro _ _ (⟨rfl,rfl⟩|⟨rfl,rfl⟩|⟨rfl,rfl⟩|⟨rfl,rfl⟩|⟨rfl,rfl⟩|⟨rfl,rfl⟩)<;>rfl
 ·have hkk:k=ts.length:=by omega
  subst hkk
  obtain⟨n,hn⟩:∃n,ts.length=n+1:=⟨ts.length-1,by omega⟩
  have hline:lineP p F a b=addPc (accG (fun t=>F (thenF p t)) ts n) (ts[n]?.getD 0) b (F (thenF p (ts[n]?.getD 0))):=by
   unfold lineP
   rw[hts,lineG_acc _ _ _ n hn,List.getD_eq_getElem?_getD]
  rw[hline,hn]
  have hlen:=accG_len (fun t=>F (thenF p t)) ts n
  simp -implicitDefEqProofs [wasVd]
  generalize ts[n]?.getD 0=s at*
  generalize F (thenF p s)=W at*
  generalize accG (fun t=>F (thenF p t)) ts n=L at*
  refine⟨11,_,12,.ready,none,rfl,rfl,.inl rfl,?_⟩
  simp -implicitDefEqProofs [pendK]
  by_cases hL:∃L' y,L=L'++[y]∧y.v=W
  ·obtain⟨L',y,rfl,rfl⟩:=hL
   rw[addPc_ext]
   rw[List.length_append,List.length_singleton]at hlen
   refine CallO.mk [] [4,5] (addVd_ext L' y s b (by omega)) (by simp) rfl (by simp) (by simp) (by simp) ?_
   simp -implicitDefEqProofs
   refine EndO.ret [] [0,1,4,5] (.ptr 4 0) (by simp) ?_
   simp -implicitDefEqProofs
  ·have hne:∀y,L.getLast? =some y→y.v≠W:=fun y hy h=>hL (by
    rcases List.eq_nil_or_concat L with rfl|⟨L',z,rfl⟩
    ·cases hy
    ·rw[List.concat_eq_append]at hy⊢
     simp at hy
     exact⟨L',z,rfl,by rw[hy];exact h⟩)
   rw[addPc_new _ _ _ _ hne]
   refine CallO.mk [] [4,5] (addVd_new L s b W (by omega) hne) (by simp) rfl (by simp) (by simp) (by simp) ?_
   simp -implicitDefEqProofs
   refine EndO.ret [] [0,1,4,13] (.ptr 4 0) (by simp) ?_
   simp -implicitDefEqProofs
end Go.Am
namespace Go.Am
theorem Goes.within {H:Int→Hop} {S:Int→Prop} (hS:∀x,moves H x→S (H x).peer):∀{way:List Int} {r:Int} {res:List Int×Verd},Goes H way r res→S r→S res.2.at_
 |_,_,_,.ends h,hr=>by
  unfold endsF
  repeat' split
  all_goals exact hr
 |_,_,_,.again h hp,hr=>hS _ h
 |_,_,_,.step h hp hs,hr=>Goes.within hS hs (hS _ h)
theorem checkLL_right:∀{l:List Link} {ah:Int},checkLL l ah=0→∀x∈l,rightL x=true
 |[],_,_,x,hx=>by cases hx
 |s::t,ah,h,x,hx=>by
  rw[checkLL]at h
  split at h
  ·cases h
  ·rename_i hc
   simp at hc
   rcases List.mem_cons.1 hx with rfl|hx
   ·exact hc.1
   ·exact checkLL_right h x hx
theorem checkL_right {l:List Link} (h:checkL l=0):∀x∈l,rightL x=true:=by
 unfold checkL at h
 split at h
 ·cases h
 ·exact checkLL_right h
theorem hop_peer {n:Net} {six:Bool} {a:Addr4} {r:Int} (hok:netOk n=true) (h:(doesF n r six a).kind=1):0≤(doesF n r six a).peer∧(doesF n r six a).peer≤1048576:=by
 unfold doesF at h⊢
 cases hb:routerF n.routers r with
 |none=>rw[hb]at h;cases h
 |some y=>
  rw[hb]at h
  simp only at h⊢
  have hm:y∈n.routers:=List.mem_of_find?_eq_some hb
  have hy:=(netOk_routers hok).2 y hm
  unfold routerOk at hy
  simp only[Bool.and_eq_true,beq_iff_eq]at hy
  have hl:=hy.2
  unfold hopF at h⊢
  cases hx:bestF six a y.routes none with
  |none=>rw[hx]at h;cases h
  |some q=>
   rw[hx]at h
   simp only at h⊢
   split at h
   ·cases h
   ·rename_i h2
    rw[if_neg h2]
    split at h
    ·cases h
    ·rename_i h3
     rw[if_neg h3]
     cases hp:peerF y.links q.act.iface with
     |none=>rw[hp]at h;cases h
     |some p=>
      simp only
      unfold peerF at hp
      obtain⟨z,hz,rfl⟩:=Option.map_eq_some_iff.1 hp
      have hzm:=List.mem_of_find?_eq_some hz
      have hzr:=checkL_right hl z hzm
      unfold rightL at hzr
      simp at hzr
      exact⟨hzr.1.2,hzr.2⟩
theorem way_right {n:Net} {six:Bool} {a:Addr4} {r:Int} (hok:netOk n=true) (h0:0≤r) (h1:r≤1048576):1≤(wayN n six a r).2.kind∧(wayN n six a r).2.kind≤4∧0≤(wayN n six a r).2.at_∧(wayN n six a r).2.at_≤1048576:=by
 have hg:=wayN_goes n six a r
 have hk:=hg.kind
 have hw:=Goes.within (S:=fun x=>0≤x∧x≤1048576) (fun x hx=>by
  have hkk:=hopN_kind n six a x
  obtain⟨m0,m2,m3⟩:=hx
  exact hop_peer hok (by unfold hopN at hkk m0 m2 m3;omega)) hg ⟨h0,h1⟩
 exact⟨by omega,by omega,hw.1,hw.2⟩
end Go.Am
namespace Go.Am
open Go.Proofs
def ofN (v:Nat):Addr4:=⟨((v / 18446744073709551616:Nat):Int),((v % 18446744073709551616:Nat):Int)⟩
theorem ofN_num {a:Addr4} (h:a.wf):ofN a.num=a:=by
 obtain⟨h1,h2,h3,h4⟩:=h
 cases a with|mk hi lo=>
 simp only[ofN,Addr4.num,Addr4.mk.injEq]at*
 constructor<;>omega
theorem ofN_wf {v:Nat} (h:v<340282366920938463463374607431768211456):(ofN v).wf:=by
 unfold ofN Addr4.wf
 simp only
 omega
theorem num_ofN {v:Nat} (h:v<340282366920938463463374607431768211456):(ofN v).num=v:=by
 unfold ofN Addr4.num
 simp only
 omega
def maxN (six:Bool):Nat:=2 ^ wideN six-1
def nextF (six:Bool) (a:Addr4):Addr4×Int:=if rightA six a=false then(⟨0,0⟩,2)else if a.num=maxN six then(⟨0,0⟩,3)else(ofN (a.num+1),0)
def lastN (p:Pfx):Nat:=p.addr.num+(2 ^ (wideN p.six-p.len.toNat)-1)
def lastF (p:Pfx):Addr4×Int:=if checkP p=0 then(ofN (lastN p),0)else(⟨0,0⟩,2)
theorem maxN_lt (six:Bool):maxN six<340282366920938463463374607431768211456:=by cases six<;>decide
theorem maxN_all {six:Bool} {a:Addr4} (hw:a.wf) (hr:rightA six a=true):a.num≤maxN six:=by
 have:=Addr4.num_lt hw hr
 unfold maxN
 omega
end Go.Am
namespace Go.Am
open Go.Proofs
end Go.Am
namespace Go.Am
open Go.Proofs
def zeroA:Addr4:=⟨0,0⟩
theorem checkP_two {p:Pfx} (h:¬checkP p=0):checkP p=2:=by
 unfold checkP at h⊢
 split
 ·rfl
 ·rename_i h1
  rw[if_neg h1]at h
  split
  ·rfl
  ·rename_i h2
   rw[if_neg h2]at h
   exact absurd rfl h
end Go.Am
namespace Go.Am
open Go.Proofs
@[simp] def Addr4.iv (a:Addr4):List IV:=[.sc (.int .u64 a.hi),.sc (.int .u64 a.lo)]
def SA (l:List Addr4):Prop:=l.Pairwise fun a b=>a.num<b.num
def wfL (l:List Addr4):Prop:=∀a∈l,a.wf
theorem cmpA_lt {a b:Addr4} (ha:a.wf) (hb:b.wf):cmpA a b<0↔a.num<b.num:=by
 obtain⟨a1,a2,a3,a4⟩:=ha
 obtain⟨b1,b2,b3,b4⟩:=hb
 simp only[cmpA,orInt,cmpI,Addr4.num]
 repeat' split
 all_goals omega
theorem cmpA_gt {a b:Addr4} (ha:a.wf) (hb:b.wf):0<cmpA a b↔b.num<a.num:=by
 obtain⟨a1,a2,a3,a4⟩:=ha
 obtain⟨b1,b2,b3,b4⟩:=hb
 simp only[cmpA,orInt,cmpI,Addr4.num]
 repeat' split
 all_goals omega
theorem cmpA_eq {a b:Addr4} (ha:a.wf) (hb:b.wf):cmpA a b=0↔a=b:=by
 have h1:=cmpA_lt ha hb
 have h2:=cmpA_gt ha hb
 constructor
 ·intro h
  exact Addr4.num_inj ha hb (by omega)
 ·rintro rfl
  omega
theorem sa_eq:∀{a b:List Addr4},SA a→SA b→(∀x,x∈a↔x∈b)→a=b
 |[],[],_,_,_=>rfl
 |[],y::b,_,_,h=>by have:=(h y).2 List.mem_cons_self;cases this
 |x::a,[],_,_,h=>by have:=(h x).1 List.mem_cons_self;cases this
 |x::a,y::b,ha,hb,h=>by
  have ha1:=List.pairwise_cons.1 ha
  have hb1:=List.pairwise_cons.1 hb
  have hxy:x=y:=by
   rcases List.mem_cons.1 ((h x).1 List.mem_cons_self)with e|h1
   ·exact e
   ·rcases List.mem_cons.1 ((h y).2 List.mem_cons_self)with e|h2
    ·exact e.symm
    ·have:=ha1.1 y h2
     have:=hb1.1 x h1
     omega
  subst hxy
  congr 1
  refine sa_eq ha1.2 hb1.2 fun z=>?_
  constructor
  ·intro hz
   rcases List.mem_cons.1 ((h z).1 (List.mem_cons_of_mem _ hz))with rfl|h1
   ·have:=ha1.1 z hz;omega
   ·exact h1
  ·intro hz
   rcases List.mem_cons.1 ((h z).2 (List.mem_cons_of_mem _ hz))with rfl|h1
   ·have:=hb1.1 z hz;omega
   ·exact h1
def insA (a:Addr4):List Addr4→List Addr4
 |[]=>[a]
 |b::l=>if a.num<b.num then a::b::l else if a.num=b.num then b::l else b::insA a l
def sortA (l:List Addr4):List Addr4:=l.foldr insA []
theorem insA_mem {a:Addr4} (ha:a.wf):∀{l:List Addr4},wfL l→∀x,x∈insA a l↔x=a∨x∈l
 |[],_,x=>by simp[insA]
 |b::l,h,x=>by
  rw[insA]
  split
  ·simp
  ·split
   ·rename_i h2
    have:=Addr4.num_inj ha (h b List.mem_cons_self) h2
    subst this
    simp
   ·rw[List.mem_cons,insA_mem ha (fun y hy=>h y (List.mem_cons_of_mem _ hy)),List.mem_cons]
    constructor
    ·rintro(h1|h1|h1)
     ·exact .inr (.inl h1)
     ·exact .inl h1
     ·exact .inr (.inr h1)
    ·rintro(h1|h1|h1)
     ·exact .inr (.inl h1)
     ·exact .inl h1
     ·exact .inr (.inr h1)
theorem insA_wf {a:Addr4} (ha:a.wf) {l:List Addr4} (h:wfL l):wfL (insA a l):=fun x hx=>by
 rcases(insA_mem ha h x).1 hx with rfl|hx
 ·exact ha
 ·exact h x hx
theorem insA_sa {a:Addr4} (ha:a.wf):∀{l:List Addr4},wfL l→SA l→SA (insA a l)
 |[],_,_=>by simp[insA,SA]
 |b::l,hw,h=>by
  have h1:=List.pairwise_cons.1 h
  rw[insA]
  split
  ·rename_i hab
   refine List.pairwise_cons.2 ⟨fun y hy=>?_,h⟩
   rcases List.mem_cons.1 hy with rfl|hy
   ·exact hab
   ·have:=h1.1 y hy;omega
  ·split
   ·exact h
   ·have hwl:wfL l:=fun y hy=>hw y (List.mem_cons_of_mem _ hy)
    refine List.pairwise_cons.2 ⟨fun y hy=>?_,insA_sa ha hwl h1.2⟩
    rcases(insA_mem ha hwl y).1 hy with rfl|hy
    ·omega
    ·exact h1.1 y hy
theorem sortA_all:∀{l:List Addr4},wfL l→wfL (sortA l)∧SA (sortA l)∧∀x,x∈sortA l↔x∈l
 |[],_=>⟨fun x hx=>(by cases hx),List.Pairwise.nil,fun x=>Iff.rfl⟩
 |a::l,h=>by
  have ha:=h a List.mem_cons_self
  obtain⟨h1,h2,h3⟩:=sortA_all (l:=l) fun y hy=>h y (List.mem_cons_of_mem _ hy)
  have e:sortA (a::l)=insA a (sortA l):=rfl
  rw[e]
  refine⟨insA_wf ha h1,insA_sa ha h1 h2,fun x=>?_⟩
  rw[insA_mem ha h1,h3,List.mem_cons]
def msA (l:List Addr4):List Addr4:=l.mergeSort fun x y=>decide (x.num≤y.num)
theorem msA_perm (l:List Addr4):(msA l).Perm l:=List.mergeSort_perm l _
theorem msA_sorted (l:List Addr4):(msA l).Pairwise fun x y=>x.num≤y.num:=by
 have:=List.pairwise_mergeSort (le:=fun x y:Addr4=>decide (x.num≤y.num)) (fun a b c h1 h2=>by simp at*;omega) (fun a b=>by simp;omega) l
 simpa [msA]using this
theorem perm_num:∀{a b:List Addr4},a.Perm b→wfL a→(a.Pairwise fun x y=>x.num≤y.num)→(b.Pairwise fun x y=>x.num≤y.num)→a=b
 |[],b,h,_,_,_=>(List.nil_perm.1 h).symm
 |x::a,[],h,_,_,_=>by have:=h.length_eq;cases this
 |x::a,y::b,h,hw,ha,hb=>by
  have hxy:x=y:=by
   have h1:=h.mem_iff.1 (show x∈x::a from List.mem_cons_self)
   have h2:=h.mem_iff.2 (show y∈y::b from List.mem_cons_self)
   rcases List.mem_cons.1 h1 with e|h1
   ·exact e
   ·rcases List.mem_cons.1 h2 with e|h2
    ·exact e.symm
    ·have g1:=List.rel_of_pairwise_cons ha h2
     have g2:=List.rel_of_pairwise_cons hb h1
     exact Addr4.num_inj (hw x List.mem_cons_self) (hw y (List.mem_cons_of_mem _ h2)) (by omega)
  subst hxy
  rw[perm_num ((List.perm_cons x).1 h) (fun z hz=>hw z (List.mem_cons_of_mem _ hz)) (List.Pairwise.of_cons ha) (List.Pairwise.of_cons hb)]
def dedupA:List Addr4→List Addr4
 |[]=>[]
 |[x]=>[x]
 |x::y::l=>if x.hi=y.hi∧x.lo=y.lo then dedupA (y::l)else x::dedupA (y::l)
theorem Addr4.eq_iff (x y:Addr4):x=y↔x.hi=y.hi∧x.lo=y.lo:=by
 cases x;cases y;simp
instance:DecidableEq Addr4:=fun x y=>decidable_of_iff _ (Addr4.eq_iff x y).symm
theorem dedupA_mem:∀(l:List Addr4) (x:Addr4),x∈dedupA l↔x∈l
 |[],x=>Iff.rfl
 |[a],x=>Iff.rfl
 |a::b::l,x=>by
  rw[dedupA]
  split
  ·rename_i h
   have:=(Addr4.eq_iff a b).2 h
   subst this
   rw[dedupA_mem (a::l)]
   simp
  ·rw[List.mem_cons,dedupA_mem (b::l),List.mem_cons (b:=a)]
theorem dedupA_sa:∀{l:List Addr4},wfL l→(l.Pairwise fun x y=>x.num≤y.num)→SA (dedupA l)
 |[],_,_=>List.Pairwise.nil
 |[a],_,_=>by simp[dedupA,SA]
 |a::b::l,hw,h=>by
  have h1:=List.pairwise_cons.1 h
  have hwl:wfL (b::l):=fun y hy=>hw y (List.mem_cons_of_mem _ hy)
  rw[dedupA]
  split
  ·exact dedupA_sa hwl h1.2
  ·rename_i hne
   refine List.pairwise_cons.2 ⟨fun y hy=>?_,dedupA_sa hwl h1.2⟩
   rw[dedupA_mem]at hy
   have h2:=h1.1 b List.mem_cons_self
   have h4:a.num≠b.num:=fun e=>hne ((Addr4.eq_iff a b).1 (Addr4.num_inj (hw a List.mem_cons_self) (hwl b List.mem_cons_self) e))
   rcases List.mem_cons.1 hy with rfl|hy
   ·omega
   ·have h3:=List.rel_of_pairwise_cons h1.2 hy
    omega
theorem dedupA_sort {l:List Addr4} (hw:wfL l):dedupA (msA l)=sortA l:=by
 have hwm:wfL (msA l):=fun x hx=>hw x ((msA_perm l).mem_iff.1 hx)
 obtain⟨_,b1,c1⟩:=sortA_all hw
 exact sa_eq (dedupA_sa hwm (msA_sorted l)) b1 fun x=>by rw[dedupA_mem,(msA_perm l).mem_iff,c1]
end Go.Am
namespace Go.Proofs
def Tryz.sortAddr_ren:Go.Shelf.Ren:=⟨fun|6=>231|15=>204|14=>297|28=>265|29=>266|20=>365|21=>366|22=>367|23=>368|24=>369|25=>370|26=>371|27=>372|46=>409|47=>328|48=>329|49=>410|50=>411|57=>432|n=>n,fun|22=>80|24=>31|25=>177|3=>3|39=>236|0=>0|53=>378|55=>29|4=>4|46=>371|45=>370|50=>175|5=>5|9=>9|66=>425|70=>429|76=>481|77=>482|n=>n,fun|n=>n⟩
theorem Tryz.sortAddr:SlLaysF0.n6 Tryz.prog Tryz.sortAddr_ren:={
 mixed:=by kernel_rfl,
 f6:=⟨Tryz.f231.name,by decide,Tryz.func231.trans (congrArg some (by kernel_rfl))⟩,
 f14:=⟨Tryz.f297.name,by decide,Tryz.func297.trans (congrArg some (by kernel_rfl))⟩,
 f15:=Tryz.func204.trans (congrArg some (by kernel_rfl)),
 f20:=⟨Tryz.f365.name,by decide,Tryz.func365.trans (congrArg some (by kernel_rfl))⟩,
 f21:=⟨Tryz.f366.name,by decide,Tryz.func366.trans (congrArg some (by kernel_rfl))⟩,
 f22:=⟨Tryz.f367.name,by decide,Tryz.func367.trans (congrArg some (by kernel_rfl))⟩,
 f23:=⟨Tryz.f368.name,by decide,Tryz.func368.trans (congrArg some (by kernel_rfl))⟩,
 f24:=⟨Tryz.f369.name,by decide,Tryz.func369.trans (congrArg some (by kernel_rfl))⟩,
 f25:=⟨Tryz.f370.name,by decide,Tryz.func370.trans (congrArg some (by kernel_rfl))⟩,
 f26:=⟨Tryz.f371.name,by decide,Tryz.func371.trans (congrArg some (by kernel_rfl))⟩,
 f27:=⟨Tryz.f372.name,by decide,Tryz.func372.trans (congrArg some (by kernel_rfl))⟩,
 f28:=Tryz.func265.trans (congrArg some (by kernel_rfl)),
 f29:=Tryz.func266.trans (congrArg some (by kernel_rfl)),
 f46:=⟨Tryz.f409.name,by decide,Tryz.func409.trans (congrArg some (by kernel_rfl))⟩,
 f47:=Tryz.func328.trans (congrArg some (by kernel_rfl)),
 f48:=Tryz.func329.trans (congrArg some (by kernel_rfl)),
 f49:=⟨Tryz.f410.name,by decide,Tryz.func410.trans (congrArg some (by kernel_rfl))⟩,
 f50:=⟨Tryz.f411.name,by decide,Tryz.func411.trans (congrArg some (by kernel_rfl))⟩,
 f57:=⟨Tryz.f432.name,by decide,Tryz.func432.trans (congrArg some (by kernel_rfl))⟩,
 t0:=Tryz.underlying0,
 a0:=Tryz.isAgg0,
 z0:=Tryz.sizeOf0,
 v0:=Tryz.zeroValue0,
 t3:=Tryz.underlying3,
 a3:=Tryz.isAgg3,
 z3:=Tryz.sizeOf3,
 v3:=Tryz.zeroValue3,
 t4:=Tryz.underlying4,
 a4:=Tryz.isAgg4,
 z4:=Tryz.sizeOf4,
 v4:=Tryz.zeroValue4,
 t5:=Tryz.underlying5,
 a5:=Tryz.isAgg5,
 z5:=Tryz.sizeOf5,
 v5:=Tryz.zeroValue5,
 t9:=Tryz.underlying9,
 a9:=Tryz.isAgg9,
 z9:=Tryz.sizeOf9,
 v9:=Tryz.zeroValue9,
 t22:=Tryz.underlying80,
 a22:=Tryz.isAgg80,
 z22:=Tryz.sizeOf80,
 v22:=Tryz.zeroValue80,
 t25:=Tryz.underlying177,
 a25:=Tryz.isAgg177,
 z25:=Tryz.sizeOf177,
 v25:=Tryz.zeroValue177,
 t39:=Tryz.underlying236,
 a39:=Tryz.isAgg236,
 z39:=Tryz.sizeOf236,
 v39:=Tryz.zeroValue236,
 t45:=Tryz.underlying370,
 a45:=Tryz.isAgg370,
 z45:=Tryz.sizeOf370,
 v45:=Tryz.zeroValue370,
 t46:=Tryz.underlying371,
 a46:=Tryz.isAgg371,
 z46:=Tryz.sizeOf371,
 v46:=Tryz.zeroValue371,
 t50:=Tryz.underlying175,
 a50:=Tryz.isAgg175,
 z50:=Tryz.sizeOf175,
 v50:=Tryz.zeroValue175,
 t53:=Tryz.underlying378,
 a53:=Tryz.isAgg378,
 z53:=Tryz.sizeOf378,
 v53:=Tryz.zeroValue378,
 t55:=Tryz.underlying29,
 a55:=Tryz.isAgg29,
 z55:=Tryz.sizeOf29,
 v55:=Tryz.zeroValue29,
 t66:=Tryz.underlying425,
 a66:=Tryz.isAgg425,
 z66:=Tryz.sizeOf425,
 v66:=Tryz.zeroValue425,
 t70:=Tryz.underlying429,
 a70:=Tryz.isAgg429,
 z70:=Tryz.sizeOf429,
 v70:=Tryz.zeroValue429,
 t76:=Tryz.underlying481,
 a76:=Tryz.isAgg481,
 z76:=Tryz.sizeOf481,
 v76:=Tryz.zeroValue481,
 t77:=Tryz.underlying482,
 a77:=Tryz.isAgg482,
 z77:=Tryz.sizeOf482,
 v77:=Tryz.zeroValue482}
end Go.Proofs
namespace Go.Am
open Go.Proofs
theorem dedupA_snoc:∀(l:List Addr4) (x y:Addr4),dedupA (l++[x,y])=if x.hi=y.hi∧x.lo=y.lo then dedupA (l++[x])else dedupA (l++[x])++[y]
 |[],x,y=>by
  simp only[List.nil_append,dedupA]
  split
  ·rename_i h
   rw[(Addr4.eq_iff x y).2 h]
  ·rfl
 |[a],x,y=>by
  have:=dedupA_snoc [] x y
  simp only[List.nil_append,List.cons_append,dedupA]at this⊢
  rw[this]
  by_cases h1:x.hi=y.hi∧x.lo=y.lo<;>by_cases h2:a.hi=x.hi∧a.lo=x.lo<;>simp[h1,h2]
 |a::b::l,x,y=>by
  have:=dedupA_snoc (b::l) x y
  simp only[List.cons_append,dedupA]at this⊢
  rw[this]
  by_cases h1:x.hi=y.hi∧x.lo=y.lo<;>by_cases h2:a.hi=b.hi∧a.lo=b.lo<;>simp[h1,h2]
theorem dedupA_take {l:List Addr4} {j:Nat} (h:j+1<l.length):dedupA (l.take (j+2))=if l[j+1]=l[j]then dedupA (l.take (j+1))else dedupA (l.take (j+1))++[l[j+1]]:=by
 have a1:l.take (j+2)=l.take (j+1)++[l[j+1]]:=by rw[show j+2=(j+1)+1 from rfl,List.take_add_one,List.getElem?_eq_getElem h];rfl
 have a2:l.take (j+1)=l.take j++[l[j]]:=by rw[List.take_add_one,List.getElem?_eq_getElem (by omega)];rfl
 have e1:l.take (j+2)=l.take j++[l[j],l[j+1]]:=by rw[a1,a2,List.append_assoc];rfl
 rw[e1,a2,dedupA_snoc]
 by_cases hh:l[j+1]=l[j]
 ·rw[if_pos ((Addr4.eq_iff _ _).1 hh.symm),if_pos hh]
 ·rw[if_neg (fun x=>hh ((Addr4.eq_iff _ _).2 x).symm),if_neg hh]
theorem dedupA_small {l:List Addr4} (h:l.length<2):dedupA l=l:=by
 match l,h with
 |[],_=>rfl
 |[x],_=>rfl
structure CmpdA (xs C:List Addr4) (k j:Nat):Prop where
 len:C.length=xs.length
 k1:1≤k
 kj:k+1≤j
 jl:j≤xs.length
 pre:C.take k=dedupA (xs.take j)
 suf:∀i,j≤i+1→C[i]? =xs[i]?
theorem CmpdA.get {xs C:List Addr4} {k j i:Nat} (h:CmpdA xs C k j) (hi:j≤i+1) (hx:i<xs.length) (hc:i<C.length):C[i]=xs[i]:=by
 have:=h.suf i hi
 rw[List.getElem?_eq_getElem hx,List.getElem?_eq_getElem hc]at this
 exact Option.some.inj this
theorem CmpdA.skip {xs C:List Addr4} {k j:Nat} (h:CmpdA xs C k (j+1)) (hj:j+1<xs.length) (he:xs[j+1]=xs[j]):CmpdA xs C k (j+2):=by
 obtain⟨a1,a2,a3,a4,a5,a6⟩:=h
 refine⟨a1,a2,by omega,by omega,?_,fun i hi=>a6 i (by omega)⟩
 rw[dedupA_take hj,if_pos he,a5]
theorem CmpdA.put {xs C:List Addr4} {k j:Nat} (h:CmpdA xs C k (j+1)) (hj:j+1<xs.length) (he:¬xs[j+1]=xs[j]):CmpdA xs (C.set k xs[j+1]) (k+1) (j+2):=by
 obtain⟨a1,a2,a3,a4,a5,a6⟩:=h
 refine⟨by simpa using a1,by omega,by omega,by omega,?_,fun i hi=>?_⟩
 ·rw[dedupA_take hj,if_neg he,←a5,List.take_add_one,List.getElem?_set_self (by omega),List.take_set_of_le (Nat.le_refl _)]
  rfl
 ·rw[List.getElem?_set_ne (by omega)]
  exact a6 i (by omega)
set_option maxRecDepth 8000 in
set_option maxHeartbeats 2000000 in
theorem compactA_spec (l:List Addr4) (hl:l.length≤1000000000):
  FSpec Tryz.prog 232 [.row 0] [.row 31 2 (l.map Addr4.iv)] (.im (.sl 2 ((dedupA l).map Addr4.iv))) [.gone]:=by
 refine FSpec.of_o (q:=[(6,.n 9),(11,.n 9)]) Tryz.func232 (by kernel_rfl) rfl Tryz.ntmps232 Tryz.results232 hP (by kernel_rfl) (by simp) (by first|rfl|simp) ?_
 simp -implicitDefEqProofs
 refine⟨fun h=>?_,fun h2=>?_⟩
 ·refine EndO.ret [0] [0] (.row 0) (by simp) ?_
  simp -implicitDefEqProofs [dedupA_small (show l.length<2 by omega)]
 refine LoopK.os (fun k:Nat=>[(0,.row 0),(3,.int .i64 k)])
  (fun _=>[.row 31 2 (l.map Addr4.iv)])
  (fun k=>1≤k∧k≤l.length∧dedupA (l.take k)=l.take k) (fun k=>l.length-k) 1 [0] ⟨Nat.le_refl _,by omega,dedupA_small (by simp;omega)⟩ (by simp) ?_
 rintro k ⟨hk1,hk,hR⟩
 by_cases hlt:k<l.length
 ·obtain⟨j,hj⟩:∃j,k=j+1:=⟨k-1,by omega⟩
  have e1:IntKind.i64.wrap ((k:Int)-1)=(j:Nat):=by rw[wrap64 (by omega) (by omega)];omega
  have e2:IntKind.i64.wrap ((k:Int)+1)=(k+1:Nat):=wrap64 (by omega) (by omega)
  have hjl:j<l.length:=by omega
  have hd:dedupA (l.take (k+1))=if l[k]=l[j]then dedupA (l.take k)else dedupA (l.take k)++[l[k]]:=by
   subst hj;exact dedupA_take hlt
  have heqv:l[k]=l[j]↔l[k].hi=l[j].hi∧l[k].lo=l[j].lo:=Addr4.eq_iff _ _
  simp -implicitDefEqProofs [hlt,hjl,e1,e2]
  refine⟨fun g1 g2=>⟨hk,?_⟩,fun hne=>?_⟩
  ·rw[if_pos (heqv.2 ⟨g1,g2⟩)]at hd
   have hd':=hd
   clear e1 e2 hd
   refine LoopK.os (fun g:Nat×Nat×List Addr4=>[(0,.row 0),(3,.int .i64 g.1),(4,.sub 0 2 k (l.length-k)),(5,.int .i64 g.2.1)])
    (fun g=>[.row 31 2 (g.2.2.map Addr4.iv)])
    (fun g=>CmpdA l g.2.2 g.1 (k+g.2.1)∧1≤g.2.1) (fun g=>l.length-(k+g.2.1)) (k,1,l) [0] ⟨⟨rfl,hk1,Nat.le_refl _,hlt,by rw[hd',hR],fun i _=>rfl⟩,Nat.le_refl _⟩ (by simp) ?_
   rintro⟨k',k2,C⟩ ⟨hC,hk2⟩
   simp only at hC hk2
   have c0:=hC.len
   have c1:=hC.k1
   have c2:=hC.kj
   have c3:=hC.jl
   by_cases hl2:k2<l.length-k
   ·obtain⟨i2,hi2⟩:∃i2,k2=i2+1:=⟨k2-1,by omega⟩
    have e1:IntKind.i64.wrap ((k2:Int)-1)=(i2:Nat):=by rw[wrap64 (by omega) (by omega)];omega
    have e2:IntKind.i64.wrap ((k2:Int)+1)=(k2+1:Nat):=wrap64 (by omega) (by omega)
    have e3:IntKind.i64.wrap ((k':Int)+1)=(k'+1:Nat):=wrap64 (by omega) (by omega)
    have b1:k+k2<C.length:=by omega
    have b2:k+i2<C.length:=by omega
    have b3:i2<l.length-k:=by omega
    have b4:k'<C.length:=by omega
    simp -implicitDefEqProofs [hl2,e1,e2,e3,b1,b2,b3,b4]
    have g1:=hC.get (i:=k+k2) (by omega) (by omega) b1
    have g2:=hC.get (i:=k+i2) (by omega) (by omega) b2
    have heq2:C[k+k2]=C[k+i2]↔C[k+k2].hi=C[k+i2].hi∧C[k+k2].lo=C[k+i2].lo:=Addr4.eq_iff _ _
    have hmod:=mod_set Addr4.iv C C[k+k2] k' (fun x=>IV.sc (.int .u64 C[k+k2].hi)::IV.sc (.int .u64 C[k+k2].lo)::List.drop 2 x) (fun x=>rfl)
    subst hi2
    refine⟨by omega,fun hne=>⟨by omega,?_⟩,fun h1 h3=>?_⟩
    ·have hne:¬C[k+(i2+1)]=C[k+i2]:=fun h=>by have:=heq2.1 h;rcases hne with h4|h4<;>simp_all
     refine Again.os (k'+1,i2+1+1,C.set k' C[k+(i2+1)]) [0] ⟨?_,by show 1≤i2+1+1;omega⟩ (by show l.length-(k+(i2+1+1))<l.length-(k+(i2+1));omega) ?_
     ·rw[g1]
      exact CmpdA.put (j:=k+i2) hC (by omega) (by rw[←g2];exact fun h=>hne (g1.trans h))
     ·show EntO _ _ _ _ _ _ _
      simp -implicitDefEqProofs [e2,e3]
      rw[hmod,List.map_set]
      rfl
    ·have he:=heq2.2 ⟨h1,h3⟩
     refine Again.os (k',i2+1+1,C) [0] ⟨?_,by show 1≤i2+1+1;omega⟩ (by show l.length-(k+(i2+1+1))<l.length-(k+(i2+1));omega) ?_
     ·exact CmpdA.skip (j:=k+i2) hC (by omega) (by rw[←g2,←he];exact g1.symm)
     ·simp -implicitDefEqProofs [e2]
   ·have hkl:k+k2=l.length:=by omega
    have hpre:=hC.pre
    rw[hkl,List.take_length]at hpre
    simp -implicitDefEqProofs [hl2]
    refine⟨by omega,by omega,.inr ⟨by omega,?_⟩⟩
    refine EndO.ret [1] [0] (.row 1) (by simp) ?_
    have ht:List.take k' (List.take k' (C.map Addr4.iv)++(List.replicate (C.length-k') [IV.sc (.int .u64 0),IV.sc (.int .u64 0)]++List.drop (k'+(C.length-k')) (C.map Addr4.iv)))=(dedupA l).map Addr4.iv:=by
     rw[List.take_append_of_le_length (by simp;omega),List.take_take,Nat.min_self,←hpre,List.map_take]
    simp -implicitDefEqProofs [ht]
  ·rw[if_neg (fun h=>by obtain⟨h1,h2⟩:=heqv.1 h;exact hne h1 h2),hR]at hd
   have ht:l.take k++[l[k]]=l.take (k+1):=by rw[List.take_add_one,List.getElem?_eq_getElem hlt];rfl
   refine Again.os (k+1) [0] ⟨by omega,hlt,by rw[hd,ht]⟩ (by omega) ?_
   simp -implicitDefEqProofs [e2]
 ·have:k=l.length:=by omega
  subst this
  rw[List.take_length]at hR
  simp -implicitDefEqProofs
  refine EndO.ret [0] [0] (.row 0) (by simp) ?_
  simp -implicitDefEqProofs [hR]
def unA:List IV→Addr4
 |[.sc (.int _ h),.sc (.int _ l)]=>⟨h,l⟩
 |_=>⟨0,0⟩
theorem unA_iv (a:Addr4):unA a.iv=a:=rfl
set_option maxRecDepth 8000 in
theorem sortFA_spec (l:List Addr4) (hw:wfL l) (hne:l≠[]) (hl:l.length≤1000000000):
  FSpec Tryz.prog 231 [.row 0,.fn 96 []] [.row 31 2 (l.map Addr4.iv)] (.tup []) [.row 31 2 ((msA l).map Addr4.iv)]:=by
 have hmem:∀x,x∈l.map Addr4.iv→∃a,a∈l∧x=a.iv:=fun x hx=>by
  obtain⟨a,h1,h2⟩:=List.mem_map.1 hx
  exact⟨a,h1,h2.symm⟩
 have hun:∀zs:List Addr4,(zs.map Addr4.iv).map unA=zs:=fun zs=>by
  rw[List.map_map]
  conv=>rhs;rw[←List.map_id zs]
  exact List.map_congr_left fun a _=>unA_iv a
 refine sortFuncK Tryz.sortAddr 31 2 (by decide) (fun w=>by first|rfl|exact Tryz.isAgg31 w) (fun w=>by first|rfl|exact Tryz.sizeOf31 w) _ _ (fun x y=>cmpA (unA x) (unA y)) (fun x=>(unA x).num) (enters_of Tryz.func96 (by kernel_rfl) rfl) (by simpa using hne) ?_ ?_ (by simp;omega) ?_
 ·intro x y hx hy
  obtain⟨a,_,rfl⟩:=hmem x hx
  obtain⟨b,_,rfl⟩:=hmem y hy
  exact cmpA_spec a b
 ·intro x y hx hy
  obtain⟨a,ha,rfl⟩:=hmem x hx
  obtain⟨b,hb,rfl⟩:=hmem y hy
  have:=cmpA_lt (hw a ha) (hw b hb)
  simp only[unA_iv]
  omega
 ·intro ys hp hs
  have hy:ys=(ys.map unA).map Addr4.iv:=by
   rw[List.map_map]
   conv=>lhs;rw[←List.map_id ys]
   refine List.map_congr_left fun y hy=>?_
   obtain⟨a,_,rfl⟩:=hmem y (hp.mem_iff.1 hy)
   rfl
  have hpz:(ys.map unA).Perm l:=by
   have:=hp.map unA
   rw[hun]at this
   exact this
  rw[hy]
  congr 1
  refine perm_num (hpz.trans (msA_perm l).symm) (fun x hx=>hw x (hpz.mem_iff.1 hx)) ?_ (msA_sorted l)
  rw[List.pairwise_map]
  exact hs.imp fun h=>by omega
end Go.Am
namespace Go.Am
open Go.Proofs
end Go.Am
namespace Go.Am
open Go.Proofs
theorem below_all:((List.range 129).all fun n=>(below (n:Int)).hi==(ofN (2 ^ n-1)).hi&&(below (n:Int)).lo==(ofN (2 ^ n-1)).lo)=true:=by kernel_rfl
theorem below_ofN {n:Nat} (h:n≤128):below (n:Int)=ofN (2 ^ n-1):=by
 have:=List.all_eq_true.1 below_all n (List.mem_range.2 (by omega))
 simp only[Bool.and_eq_true,beq_iff_eq]at this
 exact(Addr4.eq_iff _ _).2 this
theorem or_mask {x k:Nat} (hk:k≤64) (h1:x % 2 ^ k=0) (h2:x<18446744073709551616):x|||(2 ^ k-1)=x+(2 ^ k-1)∧x+(2 ^ k-1)<18446744073709551616:=by
 have hp:=Nat.two_pow_pos k
 obtain⟨q,rfl⟩:=Nat.dvd_of_mod_eq_zero h1
 constructor
 ·exact(Nat.two_pow_add_eq_or_of_lt (by omega) q).symm
 ·have h64:(18446744073709551616:Nat)=2 ^ k*2 ^ (64-k):=by
   rw[←Nat.pow_add,show k+(64-k)=64 by omega]
  rw[h64]at h2⊢
  have h3:q<2 ^ (64-k):=Nat.lt_of_mul_lt_mul_left h2
  have h4:2 ^ k*(q+1)≤2 ^ k*2 ^ (64-k):=Nat.mul_le_mul_left _ h3
  rw[Nat.mul_add,Nat.mul_one]at h4
  omega
theorem or_nat {x y:Int} (h0:0≤x) (h1:x<18446744073709551616) (h2:0≤y) (h3:y<18446744073709551616):or64 x y=((x.toNat|||y.toNat:Nat):Int):=by
 unfold or64 orI
 have e1:(BitVec.ofInt 64 x).toNat=x.toNat:=by rw[BitVec.toNat_ofInt];simp;omega
 have e2:(BitVec.ofInt 64 y).toNat=y.toNat:=by rw[BitVec.toNat_ofInt];simp;omega
 show IntKind.u64.wrap (((BitVec.ofInt 64 x|||BitVec.ofInt 64 y).toNat:Nat):Int)=_
 have hb:=(BitVec.ofInt 64 x|||BitVec.ofInt 64 y).isLt
 rw[wrapU (by omega) (by omega),BitVec.toNat_or,e1,e2]
theorem last_or {p:Pfx} (hw:p.addr.wf) (h:checkP p=0):or64 p.addr.hi (host p).hi=(ofN (lastN p)).hi∧or64 p.addr.lo (host p).lo=(ofN (lastN p)).lo:=by
 obtain⟨l0,l1,l2⟩:=checkP_len h
 have hh:=checkP_host hw h
 have hW:wideN p.six≤128:=by cases p.six<;>decide
 obtain⟨n,hn⟩:∃n,n=wideN p.six-p.len.toNat:=⟨_,rfl⟩
 have hhost:host p=ofN (2 ^ n-1):=by
  unfold host
  rw[wide_N,show(wideN p.six:Int)-p.len=n by omega,below_ofN (by omega)]
 unfold lastN
 rw[←hn]at hh⊢
 rw[hhost]
 obtain⟨a1,a2,a3,a4⟩:=hw
 have hp:=Nat.two_pow_pos n
 have hnum:p.addr.num=p.addr.hi.toNat*18446744073709551616+p.addr.lo.toNat:=rfl
 have hle:2 ^ n≤2 ^ 128:=Nat.pow_le_pow_right (by omega) (by omega)
 have h128:(2:Nat) ^ 128=340282366920938463463374607431768211456:=by decide
 have h64:(2:Nat) ^ 64=18446744073709551616:=by decide
 unfold ofN
 simp only
 rw[or_nat a1 a2 (by omega) (by omega),or_nat a3 a4 (by omega) (by omega)]
 simp only[Int.toNat_natCast]
 rw[hnum]at hh⊢
 have hH:p.addr.hi.toNat<18446744073709551616:=by omega
 have hL:p.addr.lo.toNat<18446744073709551616:=by omega
 generalize p.addr.hi.toNat=H at*
 generalize p.addr.lo.toNat=L at*
 by_cases c:n≤64
 ·have hle64:2 ^ n≤2 ^ 64:=Nat.pow_le_pow_right (by omega) c
  have hd:(2:Nat) ^ 64=2 ^ n*2 ^ (64-n):=by rw[←Nat.pow_add];congr 1;omega
  have hLm:L % 2 ^ n=0:=by
   rw[←h64,hd,show H*(2 ^ n*2 ^ (64-n))=2 ^ n*(H*2 ^ (64-n))by rw[Nat.mul_left_comm],Nat.mul_add_mod]at hh
   exact hh
  obtain⟨o1,o2⟩:=or_mask c hLm hL
  have e1:(2 ^ n-1) / 18446744073709551616=0:=by omega
  have e2:(2 ^ n-1) % 18446744073709551616=2 ^ n-1:=by omega
  rw[e1,e2,o1,Nat.or_zero]
  constructor<;>congr 1<;>omega
 ·have hd:(2:Nat) ^ n=18446744073709551616*2 ^ (n-64):=by rw[←h64,←Nat.pow_add];congr 1;omega
  have hp2:=Nat.two_pow_pos (n-64)
  rw[hd,Nat.mod_mul]at hh
  have hL0:L=0:=by omega
  subst hL0
  have hHm:H % 2 ^ (n-64)=0:=by
   have:(H*18446744073709551616+0) / 18446744073709551616=H:=by omega
   rw[this]at hh
   omega
  obtain⟨o1,o2⟩:=or_mask (show n-64≤64 by omega) hHm hH
  rw[hd]
  have e1:(18446744073709551616*2 ^ (n-64)-1) / 18446744073709551616=2 ^ (n-64)-1:=by omega
  have e2:(18446744073709551616*2 ^ (n-64)-1) % 18446744073709551616=18446744073709551615:=by omega
  rw[e1,e2,o1,Nat.zero_or]
  constructor<;>congr 1<;>omega
theorem both_spec (a b:Addr4):FSpec Tryz.prog 235 [a.av,b.av] [] (.agg [.int .u64 (or64 a.hi b.hi),.int .u64 (or64 a.lo b.lo)]) []:=by
 refine FSpec.of_flat (q:=[]) Tryz.func235 (by kernel_rfl) rfl Tryz.ntmps235 Tryz.results235 hP (by kernel_rfl) (by simp) (by first|rfl|simp) ?_
 simp -implicitDefEqProofs
theorem lastP_walk (p:Pfx) (Hh R:Addr4) (h1:FSpec Tryz.prog 234 [p.av] [] (.int .i64 0) []) (h2:FSpec Tryz.prog 236 [p.av] [] Hh.av []) (h3:FSpec Tryz.prog 235 [p.addr.av,Hh.av] [] R.av []):
  FSpec Tryz.prog 175 [p.av] [] (.tup [R.av,.int .i64 0]) []:=by
 refine FSpec.of_flat (q:=[(4,.n 4)]) Tryz.func175 (by kernel_rfl) rfl Tryz.ntmps175 Tryz.results175 hP (by kernel_rfl) (by simp) (by first|rfl|simp) ?_
 simp -implicitDefEqProofs
 first|refine CallK.same (h1) rfl rfl ?_|refine CallQ.same (h1) rfl rfl ?_|refine CallQG.same _ (h1) rfl ?_|refine CallG.same _ (h1) rfl ?_|refine CallK.pv (h1) rfl rfl ?_
 simp -implicitDefEqProofs
 first|refine CallK.same (h2) rfl rfl ?_|refine CallQ.same (h2) rfl rfl ?_|refine CallQG.same _ (h2) rfl ?_|refine CallG.same _ (h2) rfl ?_|refine CallK.pv (h2) rfl rfl ?_
 simp -implicitDefEqProofs
 first|refine CallK.same (h3) rfl rfl ?_|refine CallQ.same (h3) rfl rfl ?_|refine CallQG.same _ (h3) rfl ?_|refine CallG.same _ (h3) rfl ?_|refine CallK.pv (h3) rfl rfl ?_
 simp -implicitDefEqProofs
theorem lastP_bad (p:Pfx) (h1:FSpec Tryz.prog 234 [p.av] [] (.int .i64 2) []):FSpec Tryz.prog 175 [p.av] [] (.tup [zeroA.av,.int .i64 2]) []:=by
 refine FSpec.of_flat (q:=[(4,.n 4)]) Tryz.func175 (by kernel_rfl) rfl Tryz.ntmps175 Tryz.results175 hP (by kernel_rfl) (by simp) (by first|rfl|simp) ?_
 simp -implicitDefEqProofs
 first|refine CallK.same (h1) rfl rfl ?_|refine CallQ.same (h1) rfl rfl ?_|refine CallQG.same _ (h1) rfl ?_|refine CallG.same _ (h1) rfl ?_|refine CallK.pv (h1) rfl rfl ?_
 simp -implicitDefEqProofs [zeroA]
theorem last_spec (p:Pfx) (hw:p.addr.wf):FSpec Tryz.prog 175 [p.av] [] (.tup [(lastF p).1.av,.int .i64 (lastF p).2]) []:=by
 have h1:=checkP_spec p
 unfold lastF
 by_cases hc:checkP p=0
 ·obtain⟨l0,l1,l2⟩:=checkP_len hc
  rw[←wide_N]at l1
  have h3:=both_spec p.addr (host p)
  obtain⟨o1,o2⟩:=last_or hw hc
  rw[o1,o2]at h3
  rw[if_pos hc]
  rw[hc]at h1
  exact lastP_walk p _ _ h1 (host_spec p l1 l0) h3
 ·rw[if_neg hc]
  rw[checkP_two hc]at h1
  exact lastP_bad p h1
theorem add64_ext (x:Int) (h0:0≤x):ExtV Tryz.prog 240 [.int .u64 x,.int .u64 1,.int .u64 0] (.tuple #[.int .u64 ((x+1) % 18446744073709551616),.int .u64 ((x+1) / 18446744073709551616)]):=fun w=>by
 have:=run_add64 (P:=Tryz.prog) x 1 0 h0 (by decide) (by decide) (by decide) w
 rw[Int.add_zero]at this
 rw[run_callFunc_extern (e:=add64Entry) Tryz.func240 (by kernel_rfl) (by kernel_rfl) (by kernel_rfl) (by kernel_rfl)]
 show((add64Entry #[.int .u64 x,.int .u64 1,.int .u64 0]).run Tryz.prog w).andThen _=_
 rw[this]
 rfl
end Go.Am
namespace Go.Am
open Go.Proofs
theorem vrep_tup2 (x y:Value) (m:Nm) (c:Go.Addr→Value→Prop):VRep m c (.tup [.im (.sc x),.im (.sc y)]) (.tuple #[x,y]):=by
 refine .tup rfl fun j z u h1 h2=>?_
 match j with
 |0=>simp at h1 h2;subst h1 h2;exact .im .sc
 |1=>simp at h1 h2;subst h1 h2;exact .im .sc
 |j+2=>simp at h1
set_option maxRecDepth 8000 in
theorem nextP_walk (six:Bool) (a B:Addr4) (hw:a.wf) (hr:rightA six a=true) (hB:FSpec Tryz.prog 238 [.int .i64 (wide six)] [] B.av []):
  FSpec Tryz.prog 177 [.bool six,a.av] [] (.tup [(if a=B then zeroA else⟨IntKind.u64.wrap (a.hi+(a.lo+1) / 18446744073709551616),(a.lo+1) % 18446744073709551616⟩:Addr4).av,.int .i64 (if a=B then 3 else 0)]) []:=by
 have h1:=rightA_spec six a
 rw[hr]at h1
 have h2:=wide_spec six
 refine FSpec.of_flat (q:=[(3,.n 4)]) Tryz.func177 (by kernel_rfl) rfl Tryz.ntmps177 Tryz.results177 hP (by kernel_rfl) (by simp) (by first|rfl|simp) ?_
 simp -implicitDefEqProofs
 first|refine CallK.same (h1) rfl rfl ?_|refine CallQ.same (h1) rfl rfl ?_|refine CallQG.same _ (h1) rfl ?_|refine CallG.same _ (h1) rfl ?_|refine CallK.pv (h1) rfl rfl ?_
 simp -implicitDefEqProofs
 first|refine CallK.same (h2) rfl rfl ?_|refine CallQ.same (h2) rfl rfl ?_|refine CallQG.same _ (h2) rfl ?_|refine CallG.same _ (h2) rfl ?_|refine CallK.pv (h2) rfl rfl ?_
 simp -implicitDefEqProofs
 first|refine CallK.same (hB) rfl rfl ?_|refine CallQ.same (hB) rfl rfl ?_|refine CallQG.same _ (hB) rfl ?_|refine CallG.same _ (hB) rfl ?_|refine CallK.pv (hB) rfl rfl ?_
 simp -implicitDefEqProofs
 have he:=Addr4.eq_iff a B
 refine⟨fun h1 h2=>?_,fun h=>?_⟩
 ·have hab:=he.2 ⟨h1,h2⟩
  simp[zeroA,hab]
 ·have hne:¬a=B:=fun e=>h (he.1 e).1 (he.1 e).2
  refine CallX.ext (add64_ext a.lo hw.2.2.1) (vrep_tup2 _ _) rfl ?_
  simp -implicitDefEqProofs [hne]
theorem nextP_bad (six:Bool) (a:Addr4) (hr:rightA six a=false):FSpec Tryz.prog 177 [.bool six,a.av] [] (.tup [zeroA.av,.int .i64 2]) []:=by
 have h1:=rightA_spec six a
 rw[hr]at h1
 refine FSpec.of_flat (q:=[(3,.n 4)]) Tryz.func177 (by kernel_rfl) rfl Tryz.ntmps177 Tryz.results177 hP (by kernel_rfl) (by simp) (by first|rfl|simp) ?_
 simp -implicitDefEqProofs
 first|refine CallK.same (h1) rfl rfl ?_|refine CallQ.same (h1) rfl rfl ?_|refine CallQG.same _ (h1) rfl ?_|refine CallG.same _ (h1) rfl ?_|refine CallK.pv (h1) rfl rfl ?_
 simp -implicitDefEqProofs [zeroA]
theorem below_max (six:Bool) {a:Addr4} (hw:a.wf):a=below (wide six)↔a.num=maxN six:=by
 have hW:wideN six≤128:=by cases six<;>decide
 rw[wide_N,below_ofN hW]
 have hlt:=maxN_lt six
 constructor
 ·intro h
  rw[h]
  exact num_ofN hlt
 ·intro h
  rw[←ofN_num hw,h]
  rfl
theorem inc_ofN {a:Addr4} (hw:a.wf) (hlt:a.num+1<340282366920938463463374607431768211456):(⟨IntKind.u64.wrap (a.hi+(a.lo+1) / 18446744073709551616),(a.lo+1) % 18446744073709551616⟩:Addr4)=ofN (a.num+1):=by
 obtain⟨h1,h2,h3,h4⟩:=hw
 unfold ofN
 unfold Addr4.num at hlt⊢
 rw[wrapU (by omega) (by omega)]
 refine(Addr4.eq_iff _ _).2 ⟨?_,?_⟩
 ·show a.hi+(a.lo+1) / 18446744073709551616=_
  simp only
  omega
 ·show(a.lo+1) % 18446744073709551616=_
  simp only
  omega
theorem next_spec (six:Bool) (a:Addr4) (hw:a.wf):FSpec Tryz.prog 177 [.bool six,a.av] [] (.tup [(nextF six a).1.av,.int .i64 (nextF six a).2]) []:=by
 unfold nextF
 cases hr:rightA six a with
 |false=>exact nextP_bad six a hr
 |true=>
  have h:=nextP_walk six a _ hw hr (below_spec (wide six) (wide_le six).1)
  have hm:=below_max six hw
  have hlt:=maxN_lt six
  have hle:=maxN_all hw hr
  rw[if_neg (by decide)]
  by_cases hn:a.num=maxN six
  ·simp only[if_pos (hm.2 hn)]at h
   rw[if_pos hn]
   exact h
  ·simp only[if_neg (fun e=>hn (hm.1 e)),inc_ofN hw (show a.num+1<340282366920938463463374607431768211456 by omega)]at h
   rw[if_neg hn]
   exact h
end Go.Am
namespace Go.Am
open Go.Proofs
def aheadA (pv:Option Addr4) (a:Addr4):Bool:=match pv with|none=>true|some p=>decide (cmpA p a<0)
def checkAL (six:Bool):List Addr4→Option Addr4→Int
 |[],_=>0
 |a::t,pv=>if !rightA six a||!aheadA pv a then 2 else checkAL six t (some a)
def prevA (l:List Addr4) (k:Nat):Option Addr4:=if k=0 then none else l[k-1]?
def checkC (six:Bool) (l:List Addr4):Int:=if l.length=0∨4096<l.length∨¬l.head? =some zeroA then 2 else checkAL six l none
set_option maxRecDepth 4000 in
set_option maxHeartbeats 1000000 in
theorem checkC_loop (six:Bool) (l:List Addr4) (hwf:wfL l) (hl:0<l.length∧l.length≤4096) (hz:l.head? =some zeroA):FSpec Tryz.prog 94 [.bool six,.im (.sl 2 (l.map Addr4.iv))] [] (.int .i64 (checkAL six l none)) []:=by
 obtain⟨c,t,hct⟩:∃c t,l=c::t:=by cases l with|nil=>cases hz|cons c t=>exact⟨c,t,rfl⟩
 have hc0:c=zeroA:=by rw[hct]at hz;simpa using hz
 have hg0:(l.map Addr4.iv)[0]? =some [.sc (.int .u64 0),.sc (.int .u64 0)]:=by rw[hct,hc0];rfl
 have q1:¬(l.length:Int)=0:=by omega
 have q2:¬(4096:Int)<l.length:=by omega
 have q3:¬(l.length:Int)<1:=by omega
 have q4:decide ((4096:Int)<l.length)=false:=by simp;omega
 have q5:decide ((l.length:Int)<1)=false:=by simp;omega
 have q6:((l.length:Int)==0)=false:=beq_eq_false_iff_ne.2 q1
 refine FSpec.of_flat (q:=[(2,.n 13),(7,.n 14)]) Tryz.func94 (by kernel_rfl) rfl Tryz.ntmps94 Tryz.results94 hP (by kernel_rfl) (by simp) (by first|rfl|simp) ?_
 simp -implicitDefEqProofs [q1,q2,q3,q4,q5,q6,hg0]
 refine⟨hl.1,?_⟩
 refine LoopK.os (fun k:Nat=>[(0,.bool six),(1,.im (.sl 2 (l.map Addr4.iv))),(24,.im (.sl 2 (l.map Addr4.iv))),(25,.int .i64 l.length),(26,.int .i64 k)])
  (fun _=>[]) (fun k=>k≤l.length∧checkAL six (l.drop k) (prevA l k)=checkAL six l none)
  (fun k=>l.length-k) 0 [] ⟨Nat.zero_le _,by simp[prevA]⟩ (by simp) ?_
 rintro k ⟨hk,hR⟩
 by_cases hlt:k<l.length
 ·have hw:IntKind.i64.wrap (k+1)=(k+1:Nat):=wrap64 (by omega) (by omega)
  have hw1:IntKind.i64.wrap (k-1)=(k:Int)-1:=wrap64 (by omega) (by omega)
  rw[List.drop_eq_getElem_cons hlt,checkAL]at hR
  obtain⟨a,ha⟩:∃a,l[k]=a:=⟨_,rfl⟩
  rw[ha]at hR
  have haw:a.wf:=ha▸hwf _ (List.getElem_mem hlt)
  obtain⟨y,hy,hyw,hp⟩:∃y,l[k-1]? =some y∧y.wf∧(0<k→prevA l k=some y):=by
   refine⟨l[k-1]'(by omega),List.getElem?_eq_getElem (by omega),hwf _ (List.getElem_mem _),fun h=>?_⟩
   simp[prevA,show k≠0 by omega,List.getElem?_eq_getElem (show k-1<l.length by omega)]
  have hp0:k=0→prevA l k=none:=by intro h;simp[prevA,h]
  have hah:aheadA (prevA l k) a=(decide (k=0)||decide (cmpA y a<0)):=by
   rcases Nat.eq_zero_or_pos k with e|e
   ·rw[hp0 e];simp[aheadA,e]
   ·rw[hp e];simp[aheadA,show k≠0 by omega]
  have hnx:prevA l (k+1)=some a:=by simp[prevA,hlt,ha]
  have hgy:(l.map Addr4.iv)[k-1]? =some y.iv:=by rw[List.getElem?_map,hy];rfl
  have h1:=rightA_spec six a
  have h2:=cmpA_spec y a
  simp -implicitDefEqProofs [hlt,ha]
  first|refine CallK.same (h1) rfl rfl ?_|refine CallQ.same (h1) rfl rfl ?_|refine CallQG.same _ (h1) rfl ?_|refine CallG.same _ (h1) rfl ?_|refine CallK.pv (h1) rfl rfl ?_
  cases hra:rightA six a with
  |false=>
   simp[hra]at hR
   simp -implicitDefEqProofs [hw1,hw,hgy,←hR]
   first|refine CallG.off (.bool true) ?_|(refine CallG.on ?_;(first|refine CallK.same (h2) rfl rfl ?_|refine CallQ.same (h2) rfl rfl ?_|refine CallQG.same _ (h2) rfl ?_|refine CallG.same _ (h2) rfl ?_|refine CallK.pv (h2) rfl rfl ?_))
   simp -implicitDefEqProofs
  |true=>
   rcases Nat.eq_zero_or_pos k with e|e
   ·subst e
    have em:IntKind.i64.wrap (-1)= -1:=by decide
    have hy0:l[0]? =some y:=hy
    simp -implicitDefEqProofs [em,hy0]
    first|refine CallG.off (.bool true) ?_|(refine CallG.on ?_;(first|refine CallK.same (h2) rfl rfl ?_|refine CallQ.same (h2) rfl rfl ?_|refine CallQG.same _ (h2) rfl ?_|refine CallG.same _ (h2) rfl ?_|refine CallK.pv (h2) rfl rfl ?_))
    simp -implicitDefEqProofs [hw1,hw,hgy]
    refine Again.os 1 [] ⟨by omega,?_⟩ (by omega) ?_
    ·rw[hah]at hR
     rw[if_neg (by simp[hra])]at hR
     rw[show(1:Nat)=0+1 from rfl,hnx]
     exact hR
    ·simp
     decide
   ·have e0:decide (0<k)=true:=by simpa using e
    have e2:((k:Int)-1).toNat=k-1:=by omega
    simp -implicitDefEqProofs [hw1,hw,hgy,e0,e2,hy]
    refine⟨⟨by omega,by omega⟩,?_⟩
    first|refine CallG.off (.bool true) ?_|(refine CallG.on ?_;(first|refine CallK.same (h2) rfl rfl ?_|refine CallQ.same (h2) rfl rfl ?_|refine CallQG.same _ (h2) rfl ?_|refine CallG.same _ (h2) rfl ?_|refine CallK.pv (h2) rfl rfl ?_))
    simp -implicitDefEqProofs [hw1,hw,hgy]
    have e3:¬k=0:=by omega
    refine⟨fun h=>?_,fun h=>?_⟩
    ·rw[hah]at hR
     rw[if_pos (by simp[hra,e3];omega)]at hR
     exact hR
    ·rw[hah]at hR
     rw[if_neg (by simp[hra,e3];omega)]at hR
     refine Again.os (k+1) [] ⟨hlt,?_⟩ (by omega) ?_
     ·rw[hnx];exact hR
     ·simp[hw]
 ·have:k=l.length:=by omega
  subst this
  simp[checkAL]at hR
  simp[←hR]
set_option maxRecDepth 4000 in
set_option maxHeartbeats 1000000 in
theorem checkC_spec (six:Bool) (l:List Addr4) (hwf:wfL l):FSpec Tryz.prog 94 [.bool six,.im (.sl 2 (l.map Addr4.iv))] [] (.int .i64 (checkC six l)) []:=by
 refine FSpec.bd (enters_of Tryz.func94 (by kernel_rfl) rfl) fun hbd=>?_
 have hlb:l.length≤9223372036854775807:=by simp[maxLen]at hbd;exact hbd
 unfold checkC
 cases l with
 |nil=>
  rw[if_pos (.inl rfl)]
  refine FSpec.of_flat (q:=[(2,.n 13),(7,.n 14)]) Tryz.func94 (by kernel_rfl) rfl Tryz.ntmps94 Tryz.results94 hP (by kernel_rfl) (by simp) (by first|rfl|simp) ?_
  simp -implicitDefEqProofs
 |cons c t=>
  by_cases h1:4096<(c::t).length
  ·rw[if_pos (.inr (.inl h1))]
   have q1:(4096:Int)<(c::t).length:=by omega
   have q4:decide ((4096:Int)<(c::t).length)=true:=by simpa using q1
   have hg0:((c::t).map Addr4.iv)[0]? =some c.iv:=rfl
   have q3:¬((c::t).length:Int)<1:=by omega
   have q5:decide (((c::t).length:Int)<1)=false:=by simpa using q3
   have q6:(((c::t).length:Int)==0)=false:=beq_eq_false_iff_ne.2 (by omega)
   generalize c::t=l at*
   refine FSpec.of_flat (q:=[(2,.n 13),(7,.n 14)]) Tryz.func94 (by kernel_rfl) rfl Tryz.ntmps94 Tryz.results94 hP (by kernel_rfl) (by simp) (by first|rfl|simp) ?_
   simp -implicitDefEqProofs [q1,q3,q4,q5,q6,hg0]
  ·by_cases h2:c=zeroA
   ·rw[if_neg (by rintro(h|h|h);cases h;exact h1 h;exact h (by rw[h2];rfl))]
    exact checkC_loop six (c::t) hwf ⟨Nat.succ_pos _,by omega⟩ (by rw[h2];rfl)
   ·rw[if_pos (.inr (.inr (fun h=>h2 (by simpa using h))))]
    have q1:¬(4096:Int)<(c::t).length:=by omega
    have q4:decide ((4096:Int)<(c::t).length)=false:=by simpa using q1
    have hg0:((c::t).map Addr4.iv)[0]? =some c.iv:=rfl
    have q3:¬((c::t).length:Int)<1:=by have:=(c::t).length;simp;omega
    have q5:decide (((c::t).length:Int)<1)=false:=by simpa using q3
    have q6:(((c::t).length:Int)==0)=false:=beq_eq_false_iff_ne.2 (by simp;omega)
    have q0:0<(c::t).length:=Nat.succ_pos _
    have h3:¬(c.hi=0∧c.lo=0):=fun h=>h2 ((Addr4.eq_iff c zeroA).2 h)
    generalize c::t=l at*
    refine FSpec.of_flat (q:=[(2,.n 13),(7,.n 14)]) Tryz.func94 (by kernel_rfl) rfl Tryz.ntmps94 Tryz.results94 hP (by kernel_rfl) (by simp) (by first|rfl|simp) ?_
    simp -implicitDefEqProofs [q1,q3,q4,q5,q6,hg0]
    exact⟨q0,fun a b=>absurd ⟨a,b⟩ h3⟩
end Go.Am
namespace Go.Am
open Go.Proofs
theorem right_lt {six:Bool} {v:Nat} (h:v<2 ^ wideN six):rightA six (ofN v)=true:=by
 cases six with
 |true=>rfl
 |false=>
  have h:v<4294967296:=h
  unfold rightA ofN
  simp only[Bool.false_or,Bool.and_eq_true,beq_iff_eq]
  constructor
  ·omega
  ·rw[Int.fdiv_eq_ediv_of_nonneg _ (by omega)]
   show((v % 18446744073709551616:Nat):Int) / 4294967296=0
   omega
theorem last_lt {p:Pfx} (hw:p.addr.wf) (h:checkP p=0):p.addr.num≤lastN p∧lastN p<2 ^ wideN p.six:=by
 obtain⟨l0,l1,l2⟩:=checkP_len h
 have hh:=checkP_host hw h
 have hlt:=Addr4.num_lt hw l2
 unfold lastN
 generalize hn:wideN p.six-p.len.toNat=n at*
 have hp:=Nat.two_pow_pos n
 refine⟨by omega,?_⟩
 obtain⟨q,hq⟩:=Nat.dvd_of_mod_eq_zero hh
 have hW:(2:Nat) ^ wideN p.six=2 ^ n*2 ^ (wideN p.six-n):=by rw[←Nat.pow_add];congr 1;omega
 rw[hq,hW]at hlt⊢
 have h3:q<2 ^ (wideN p.six-n):=Nat.lt_of_mul_lt_mul_left hlt
 have h4:2 ^ n*(q+1)≤2 ^ n*2 ^ (wideN p.six-n):=Nat.mul_le_mul_left _ h3
 rw[Nat.mul_add,Nat.mul_one]at h4
 omega
theorem pow_le (six:Bool):2 ^ wideN six≤340282366920938463463374607431768211456:=by cases six<;>decide
def ofA (p:Pfx):List Addr4:=if lastN p=maxN p.six then[p.addr]else[p.addr,ofN (lastN p+1)]
theorem ofA_wf {p:Pfx} (hw:p.addr.wf) (h:checkP p=0):wfL (ofA p):=by
 have h1:=last_lt hw h
 have h2:=pow_le p.six
 unfold ofA
 split
 ·intro x hx
  rw[List.mem_singleton]at hx
  rw[hx];exact hw
 ·rename_i hne
  intro x hx
  simp only[List.mem_cons,List.not_mem_nil,or_false]at hx
  rcases hx with rfl|rfl
  ·exact hw
  ·refine ofN_wf ?_
   unfold maxN at hne
   omega
theorem ofA_len (p:Pfx):(ofA p).length≤2:=by unfold ofA;split<;>simp
theorem next_last {p:Pfx} (hw:p.addr.wf) (h:checkP p=0):nextF p.six (ofN (lastN p))=if lastN p=maxN p.six then(⟨0,0⟩,3)else(ofN (lastN p+1),0):=by
 have h1:=last_lt hw h
 have h2:=pow_le p.six
 unfold nextF
 rw[right_lt h1.2,if_neg (by decide),num_ofN (by omega)]
set_option maxRecDepth 8000 in
theorem sortedA_spec (l:List Addr4) (hw:wfL l) (hne:l≠[]) (hl:l.length≤100000000):FSpec Tryz.prog 171 [.row 0] [.row 31 2 (l.map Addr4.iv)] (.im (.sl 2 ((sortA l).map Addr4.iv))) [.gone]:=by
 have h1:=sortFA_spec l hw hne (by omega)
 have h2:=compactA_spec (msA l) (by rw[(msA_perm l).length_eq];omega)
 rw[dedupA_sort hw]at h2
 generalize msA l=M at*
 generalize sortA l=S at*
 refine FSpec.of_o (q:=[]) Tryz.func171 (by kernel_rfl) rfl Tryz.ntmps171 Tryz.results171 hP (by kernel_rfl) (by simp) (by first|rfl|simp) ?_
 simp -implicitDefEqProofs
 refine CallO.mk [] [0] h1 (by simp) rfl (by simp) (by simp) (by simp) ?_
 simp -implicitDefEqProofs
 refine CallO.mk [] [0] h2 (by simp) rfl (by simp) (by simp) (by simp) ?_
 simp -implicitDefEqProofs
 refine EndO.ret [] [0] (.im (.sl 2 (S.map Addr4.iv))) (by simp) ?_
 simp -implicitDefEqProofs
end Go.Am
namespace Go.Am
open Go.Proofs
def rtC (six:Bool) (l:List Route):List Addr4:=l.flatMap fun x=>if x.pfx.six=six then ofA x.pfx else[]
def roC (six:Bool) (rs:List Router):List Addr4:=rs.flatMap fun r=>rtC six r.routes
def evC (six:Bool) (es:List Ev):List Addr4:=es.flatMap fun e=>if e.kind=3∧e.pfx.six=six then ofA e.pfx else[]
def rawC (p:Past) (six:Bool):List Addr4:=zeroA::(roC six p.base.routers++evC six p.evs)
theorem flatMap_take {α β:Type} (f:α→List β) {l:List α} {k:Nat} (h:k<l.length):(l.take (k+1)).flatMap f=(l.take k).flatMap f++f l[k]:=by
 rw[List.take_add_one,List.getElem?_eq_getElem h,List.flatMap_append]
 simp
theorem flatA_len {α β:Type} (f:α→List β) (m:Nat):∀l:List α,(∀x∈l,(f x).length≤m)→(l.flatMap f).length≤l.length*m
 |[],_=>by simp
 |x::l,h=>by
  have h1:=flatA_len f m l fun y hy=>h y (List.mem_cons_of_mem _ hy)
  have h2:=h x List.mem_cons_self
  rw[List.flatMap_cons,List.length_append,List.length_cons,Nat.add_mul]
  omega
theorem rtC_len (six:Bool) (l:List Route):(rtC six l).length≤l.length*2:=flatA_len _ 2 l fun x _=>by
 split
 ·exact ofA_len _
 ·simp
theorem roC_len (six:Bool) (rs:List Router) (h:∀r∈rs,r.routes.length≤256):(roC six rs).length≤rs.length*512:=flatA_len _ 512 rs fun r hr=>by
 have:=rtC_len six r.routes
 have:=h r hr
 omega
theorem evC_len (six:Bool) (es:List Ev):(evC six es).length≤es.length*2:=flatA_len _ 2 es fun x _=>by
 split
 ·exact ofA_len _
 ·simp
theorem allGo_ev {hz:Int}:∀(l:List Ev) (n:Net) (i:Int),(allGo hz l n i).2.2=0→∀e∈l,evOk e=true
 |[],_,_,_,e,he=>by cases he
 |x::l,n,i,h,e,he=>by
  obtain⟨h1,h2⟩:=allGo_step h
  rw[h2]at h
  rcases List.mem_cons.1 he with rfl|he
  ·obtain⟨q1,_,_⟩:=happensF_zero h1
   exact(mayS_zero q1).2.1
  ·exact allGo_ev l _ _ h e he
theorem okP_ev {p:Past} (h:okP p=true):∀e∈p.evs,e.kind=3→checkP e.pfx=0:=by
 intro e he hk
 have:=allGo_ev _ _ _ (okP_all h) e he
 unfold evOk at this
 simp only[Bool.and_eq_true]at this
 have:=this.2
 unfold tailOk at this
 simp[hk]at this
 exact this.1.1.1
theorem okP_rt {p:Past} (h:okP p=true):∀r∈p.base.routers,r.routes.length≤256∧∀x∈r.routes,checkP x.pfx=0:=by
 intro r hr
 have h1:=(netOk_routers (okP_base h)).2 r hr
 refine⟨(routerOk_len h1).1,fun x hx=>?_⟩
 unfold routerOk at h1
 simp only[Bool.and_eq_true,beq_iff_eq]at h1
 have:=checkR_mem h1.1.2 x hx
 unfold routeOk at this
 simp only[Bool.and_eq_true,beq_iff_eq]at this
 exact this.2
theorem rawC_wf {p:Past} (hw:p.wf) (h:okP p=true) (six:Bool):wfL (rawC p six):=by
 intro a ha
 rcases List.mem_cons.1 ha with rfl|ha
 ·unfold zeroA Addr4.wf;decide
 rcases List.mem_append.1 ha with ha|ha
 ·unfold roC rtC at ha
  simp only[List.mem_flatMap]at ha
  obtain⟨r,hr,x,hx,hm⟩:=ha
  split at hm
  ·exact ofA_wf (hw.1 r hr x hx) ((okP_rt h r hr).2 x hx) a hm
  ·cases hm
 ·unfold evC at ha
  simp only[List.mem_flatMap]at ha
  obtain⟨e,he,hm⟩:=ha
  split at hm
  ·rename_i hk
   exact ofA_wf (hw.2 e he).2 (okP_ev h e he hk.1) a hm
  ·cases hm
theorem rawC_len {p:Past} (h:okP p=true) (six:Bool):(rawC p six).length≤1000000:=by
 have h1:=roC_len six p.base.routers fun r hr=>(okP_rt h r hr).1
 have h2:=evC_len six p.evs
 have h3:=netOk_len (okP_base h)
 have h4:=okP_len h
 unfold rawC
 rw[List.length_cons,List.length_append]
 omega
def cutsF (p:Past) (six:Bool):List Addr4:=sortA (rawC p six)
end Go.Am
namespace Go.Am
open Go.Proofs
theorem ofo_spec (p:Pfx):FSpec Tryz.prog 170 [p.av] [] (.fn 230 [.ptr 0 0]) [.box 74 [.bool p.six,.int .u64 p.addr.hi,.int .u64 p.addr.lo,.int .i64 p.len]]:=by
 refine FSpec.of_o (q:=[]) Tryz.func170 (by kernel_rfl) rfl Tryz.ntmps170 Tryz.results170 hP (by kernel_rfl) (by simp) (by first|rfl|simp) ?_
 simp -implicitDefEqProofs
 refine EndO.ret [] [0] (.fn 230 [.ptr 0 0]) (by simp) ?_
 simp -implicitDefEqProofs
theorem checkC_len {six:Bool} {l:List Addr4} (h:checkC six l=0):0<l.length∧l.length≤4096:=by
 unfold checkC at h
 split at h
 ·cases h
 ·omega
theorem ofA_next {p:Pfx} (hw:p.addr.wf) (h:checkP p=0):∃(N:Addr4) (w:Int),nextF p.six (ofN (lastN p))=(N,w)∧(w=0∨w=3)∧ofA p=if w=0 then[p.addr,N]else[p.addr]:=by
 rw[next_last hw h]
 unfold ofA
 by_cases hm:lastN p=maxN p.six
 ·rw[if_pos hm,if_pos hm]
  exact⟨_,_,rfl,.inr rfl,rfl⟩
 ·rw[if_neg hm,if_neg hm]
  exact⟨_,_,rfl,.inl rfl,rfl⟩
theorem of_parts {p:Pfx} (hw:p.addr.wf) (h:checkP p=0):∃(L N:Addr4) (w:Int),FSpec Tryz.prog 175 [p.av] [] (.tup [L.av,.int .i64 0]) []∧FSpec Tryz.prog 177 [.bool p.six,L.av] [] (.tup [N.av,.int .i64 w]) []∧(w=0∨w=3)∧ofA p=if w=0 then[p.addr,N]else[p.addr]:=by
 have h1:=last_spec p hw
 unfold lastF at h1
 rw[if_pos h]at h1
 have hl:=last_lt hw h
 have hp:=pow_le p.six
 have h2:=next_spec p.six (ofN (lastN p)) (ofN_wf (by omega))
 obtain⟨N,w,e1,e2,e3⟩:=ofA_next hw h
 rw[e1]at h2
 exact⟨_,N,w,h1,h2,e2,e3⟩
end Go.Am
namespace Go.Am
open Go.Proofs
end Go.Am
namespace Go.Am
open Go.Proofs
theorem checkAL_ok (six:Bool):∀{l:List Addr4} {pv:Option Addr4},wfL l→(∀p,pv=some p→p.wf)→checkAL six l pv=0→(∀a∈l,rightA six a=true)∧(∀p,pv=some p→∀a∈l,p.num<a.num)∧SA l
 |[],pv,_,_,_=>⟨fun a h=>(by cases h),fun p _ a h=>(by cases h),List.Pairwise.nil⟩
 |a::t,pv,hw,hp,h=>by
  rw[checkAL]at h
  split at h
  ·cases h
  rename_i hc
  simp only[Bool.or_eq_true,Bool.not_eq_true',not_or,Bool.not_eq_false]at hc
  have haw:=hw a List.mem_cons_self
  have hwt:wfL t:=fun x hx=>hw x (List.mem_cons_of_mem _ hx)
  obtain⟨h1,h2,h3⟩:=checkAL_ok six hwt (fun p e=>by cases e;exact haw) h
  have hh:=h2 a rfl
  refine⟨fun x hx=>?_,fun p e x hx=>?_,List.pairwise_cons.2 ⟨hh,h3⟩⟩
  ·rcases List.mem_cons.1 hx with rfl|hx
   ·exact hc.1
   ·exact h1 x hx
  ·subst e
   have hpa:p.num<a.num:=by
    have:=hc.2
    unfold aheadA at this
    exact(cmpA_lt (hp p rfl) haw).1 (by simpa using this)
   rcases List.mem_cons.1 hx with rfl|hx
   ·exact hpa
   ·have:=hh x hx;omega
theorem checkC_ok {six:Bool} {l:List Addr4} (hw:wfL l) (h:checkC six l=0):(∀a∈l,rightA six a=true)∧SA l∧l.head? =some zeroA:=by
 unfold checkC at h
 split at h
 ·cases h
 rename_i hc
 obtain⟨h1,_,h3⟩:=checkAL_ok six hw (fun p e=>by cases e) h
 exact⟨h1,h3,Classical.byContradiction fun hn=>hc (.inr (.inr hn))⟩
def cmpB (n a:Addr4):Int:=cmpA a n
theorem bsA_spec (l:List Addr4) (n:Addr4) (hst:strictC (cmpB n) l):
  FSpec Tryz.prog 95 [.im (.sl 2 (l.map Addr4.iv)),n.av,.fn 96 []] [] (.tup [.int .i64 (bsI (cmpB n) l),.bool (bsF (cmpB n) l)]) []:=by
 have hs:=fun(i j:Nat) (x y:Addr4)=>@strict_up Addr4 (cmpB n) l hst i j x y
 refine FSpec.bd (enters_of Tryz.func95 (by kernel_rfl) rfl) fun hbd=>?_
 have hl:l.length≤9223372036854775807:=by simp[maxLen]at hbd;omega
 refine FSpec.of_flat (q:=[(5,.n 6),(8,.n 15)]) Tryz.func95 (by kernel_rfl) rfl Tryz.ntmps95 Tryz.results95 hP (by kernel_rfl) (by simp) (by first|rfl|simp) ?_
 simp
 refine LoopK.os (fun g:Nat×Nat=>[(0,.im (.sl 2 (l.map Addr4.iv))),(2,.fn 96 []),(4,.ptr 0 0),(8,.int .i64 l.length),(9,.int .i64 g.1),(10,.int .i64 g.2)])
  (fun _=>[.box 31 [.int .u64 n.hi,.int .u64 n.lo]])
  (fun g=>g.1≤g.2∧g.2≤l.length∧(∀i x,i<g.1→l[i]? =some x→cmpB n x<0)∧(∀i x,g.2≤i→l[i]? =some x→0≤cmpB n x)) (fun g=>g.2-g.1) (0,l.length) [0] ?_ ?_ ?_
 ·exact⟨Nat.zero_le _,Nat.le_refl _,fun i x hi=>by omega,fun i x hi hx=>by rw[List.getElem?_eq_none hi]at hx;cases hx⟩
 ·simp
 rintro⟨lo,hi⟩ ⟨h1,h2,h3,h4⟩
 simp only at h1 h2 h3 h4
 by_cases hlt:lo<hi
 ·have hm:=half_eq lo hi (by omega) (by omega)
  have hml:(lo+hi) / 2<l.length:=by omega
  obtain⟨m,hmm⟩:∃m,m=(lo+hi) / 2:=⟨_,rfl⟩
  rw[←hmm]at hm hml
  have hg:=List.getElem?_eq_getElem hml
  have hw1:IntKind.i64.wrap (m+1)=(m+1:Nat):=wrap64 (by omega) (by omega)
  simp[hlt,hm,hml,hg]
  generalize l[m]=x at*
  first|refine CallK.same (cmpA_spec x n) rfl rfl ?_|refine CallQ.same (cmpA_spec x n) rfl rfl ?_|refine CallQG.same _ (cmpA_spec x n) rfl ?_|refine CallG.same _ (cmpA_spec x n) rfl ?_|refine CallK.pv (cmpA_spec x n) rfl rfl ?_
  rw[show cmpA x n=cmpB n x from rfl]at*
  simp[hw1]
  refine⟨fun hc=>?_,fun hc=>?_⟩
  ·refine Again.os (m+1,hi) [0] ⟨by omega,h2,fun i y hi' hy=>?_,h4⟩ (by simp only;omega) (by simp)
   exact hs i m y x (by omega) hy hg hc
  ·refine Again.os (lo,m) [0] ⟨by omega,by omega,h3,fun i y hi' hy=>?_⟩ (by simp only;omega) (by simp)
   apply Classical.byContradiction
   intro hc'
   have:=hs m i x y hi' hg hy (by omega)
   omega
 ·have:lo=hi:=by omega
  subst this
  have hb:=bsI_eq (cmpB n) l lo h2 h3 (fun i x h5 h6=>by have:=h4 i x h5 h6;omega)
  by_cases hll:lo<l.length
  ·have hg:=List.getElem?_eq_getElem hll
   simp[hll]
   generalize l[lo]=x at*
   first|refine CallK.same (cmpA_spec x n) rfl rfl ?_|refine CallQ.same (cmpA_spec x n) rfl rfl ?_|refine CallQG.same _ (cmpA_spec x n) rfl ?_|refine CallG.same _ (cmpA_spec x n) rfl ?_|refine CallK.pv (cmpA_spec x n) rfl rfl ?_
   simp[bsF,hb,hg]
   rfl
  ·simp[hll,List.getElem?_eq_none (show l.length≤lo by omega)]
   refine CallQG.off (.int .i64 0) ?_
   simp[bsF,hb,List.getElem?_eq_none (show l.length≤lo by omega)]
theorem strictA {l:List Addr4} {n:Addr4} (hw:wfL l) (hn:n.wf) (h:SA l):strictC (cmpB n) l:=by
 refine List.Pairwise.imp_of_mem ?_ h
 intro x y hx hy hxy h0
 have h1:=cmpA_lt (hw x hx) hn
 have h2:=cmpA_gt (hw y hy) hn
 unfold cmpB at*
 omega
def whereN (n:Addr4) (l:List Addr4):Nat:=l.countP (fun c=>decide (c.num≤n.num))-1
theorem count_lt {l:List Addr4} {n:Addr4} (hw:wfL l) (hn:n.wf):(l.filter fun x=>decide (cmpB n x<0)).countP (fun c=>decide (c.num≤n.num))=(l.filter fun x=>decide (cmpB n x<0)).length:=by
 rw[List.countP_eq_length]
 intro x hx
 obtain⟨h1,h2⟩:=List.mem_filter.1 hx
 have:=(cmpA_lt (hw x h1) hn).1 (of_decide_eq_true h2)
 simp;omega
theorem count_gt {l:List Addr4} {n:Addr4} (hw:wfL l) (hn:n.wf):(l.filter fun x=>decide (0<cmpB n x)).countP (fun c=>decide (c.num≤n.num))=0:=by
 rw[List.countP_eq_zero]
 intro x hx
 obtain⟨h1,h2⟩:=List.mem_filter.1 hx
 have:=(cmpA_gt (hw x h1) hn).1 (of_decide_eq_true h2)
 simp;omega
theorem bsA_where {l:List Addr4} {n:Addr4} (hw:wfL l) (hn:n.wf) (h:SA l):l.countP (fun c=>decide (c.num≤n.num))=if bsF (cmpB n) l then bsI (cmpB n) l+1 else bsI (cmpB n) l:=by
 have hs:=strictA hw hn h
 have hlt:=bs_lt hs
 have hle:=bsI_le (cmpB n) l
 have hlen:(l.filter fun x=>decide (cmpB n x<0)).length=bsI (cmpB n) l:=by
  rw[←hlt,List.length_take];omega
 cases hf:bsF (cmpB n) l with
 |true=>
  have hi:=bsF_ltn hf
  have:=bs_set hs (l[bsI (cmpB n) l]) hf
  rw[List.set_getElem_self]at this
  have hc:cmpB n l[bsI (cmpB n) l]=0:=by
   unfold bsF at hf
   rw[List.getElem?_eq_getElem hi]at hf
   simpa using hf
  have heq:=(cmpA_eq (hw _ (List.getElem_mem hi)) hn).1 hc
  rw[if_pos rfl]
  conv=>lhs;rw[this]
  rw[List.countP_append,List.countP_append,count_lt hw hn,count_gt hw hn,hlen,heq]
  simp
 |false=>
  have:=bs_none hs hf
  rw[if_neg (by decide)]
  conv=>lhs;rw[this]
  rw[List.countP_append,count_lt hw hn,count_gt hw hn,hlen]
  rfl
theorem count_pos {six:Bool} {l:List Addr4} {n:Addr4} (hw:wfL l) (h:checkC six l=0):0<l.countP (fun c=>decide (c.num≤n.num)):=by
 obtain⟨_,_,h3⟩:=checkC_ok hw h
 rw[List.countP_pos_iff]
 refine⟨zeroA,List.mem_of_mem_head? h3,?_⟩
 simp[zeroA,Addr4.num]
def whereF (six:Bool) (l:List Addr4) (a:Addr4):Nat×Int:=if ¬checkC six l=0∨rightA six a=false then(0,2)else(whereN a l,0)
set_option maxRecDepth 8000 in
theorem where_spec (six:Bool) (l:List Addr4) (a:Addr4) (hw:wfL l) (ha:a.wf):FSpec Tryz.prog 36 [.bool six,.im (.sl 2 (l.map Addr4.iv)),a.av] [] (.tup [.int .i64 (whereF six l a).1,.int .i64 (whereF six l a).2]) []:=by
 unfold whereF
 have g1:=checkC_spec six l hw
 have g2:=rightA_spec six a
 by_cases hbad:¬checkC six l=0∨rightA six a=false
 ·rw[if_pos hbad]
  generalize checkC six l=C at*
  generalize rightA six a=V at*
  refine FSpec.of_flat (q:=[]) Tryz.func36 (by kernel_rfl) rfl Tryz.ntmps36 Tryz.results36 hP (by kernel_rfl) (by simp) (by first|rfl|simp) ?_
  simp -implicitDefEqProofs
  first|refine CallK.same (g1) rfl rfl ?_|refine CallQ.same (g1) rfl rfl ?_|refine CallQG.same _ (g1) rfl ?_|refine CallG.same _ (g1) rfl ?_|refine CallK.pv (g1) rfl rfl ?_
  simp -implicitDefEqProofs
  first|refine CallK.same (g2) rfl rfl ?_|refine CallQ.same (g2) rfl rfl ?_|refine CallQG.same _ (g2) rfl ?_|refine CallG.same _ (g2) rfl ?_|refine CallK.pv (g2) rfl rfl ?_
  simp -implicitDefEqProofs
  intro b1 b2
  rcases hbad with h|h
  ·exact absurd b1 h
  ·rw[b2]at h;cases h
 ·rw[if_neg hbad]
  have h1:checkC six l=0:=Classical.byContradiction fun h=>hbad (.inl h)
  have h2:rightA six a=true:=by cases h:rightA six a with|true=>rfl|false=>exact absurd (.inr h) hbad
  obtain⟨_,hs,_⟩:=checkC_ok hw h1
  have hb:=bsA_spec l a (strictA hw ha hs)
  have hx:=bsA_where hw ha hs
  have hp:=count_pos (n:=a) hw h1
  have hle:=bsI_le (cmpB a) l
  have hl:=(checkC_len h1).2
  have hwn:whereN a l=l.countP (fun c=>decide (c.num≤a.num))-1:=rfl
  rw[h1]at g1
  rw[h2]at g2
  generalize bsI (cmpB a) l=I at*
  generalize bsF (cmpB a) l=B at*
  generalize whereN a l=W at*
  generalize l.countP (fun c=>decide (c.num≤a.num))=K at*
  refine FSpec.of_flat (q:=[]) Tryz.func36 (by kernel_rfl) rfl Tryz.ntmps36 Tryz.results36 hP (by kernel_rfl) (by simp) (by first|rfl|simp) ?_
  simp -implicitDefEqProofs
  first|refine CallK.same (g1) rfl rfl ?_|refine CallQ.same (g1) rfl rfl ?_|refine CallQG.same _ (g1) rfl ?_|refine CallG.same _ (g1) rfl ?_|refine CallK.pv (g1) rfl rfl ?_
  simp -implicitDefEqProofs
  first|refine CallG.off (.bool true) ?_|(refine CallG.on ?_;(first|refine CallK.same (g2) rfl rfl ?_|refine CallQ.same (g2) rfl rfl ?_|refine CallQG.same _ (g2) rfl ?_|refine CallG.same _ (g2) rfl ?_|refine CallK.pv (g2) rfl rfl ?_))
  simp -implicitDefEqProofs
  first|refine CallK.same (hb) rfl rfl ?_|refine CallQ.same (hb) rfl rfl ?_|refine CallQG.same _ (hb) rfl ?_|refine CallG.same _ (hb) rfl ?_|refine CallK.pv (hb) rfl rfl ?_
  cases B with
  |true=>
   simp -implicitDefEqProofs
   rw[if_pos rfl]at hx
   omega
  |false=>
   simp -implicitDefEqProofs
   rw[if_neg (by decide)]at hx
   rw[wrap64 (by omega) (by omega)]
   omega
end Go.Am
namespace Go.Am
open Go.Proofs
end Go.Am
namespace Go.Am
open Go.Proofs
end Go.Am
namespace Go.Am
open Go.Proofs
end Go.Am
namespace Go.Am
open Go.Proofs
theorem prefixesO_spec (p:Past) (six:Bool):FSpec Tryz.prog 169 [p.av,.bool six] [] (.fn 229 [.ptr 0 0,.ptr 1 0]) [pastO p,.box 4 [.bool six]]:=by
 refine FSpec.of_o (q:=[]) Tryz.func169 (by kernel_rfl) rfl Tryz.ntmps169 Tryz.results169 hP (by kernel_rfl) (by simp) (by first|rfl|simp) ?_
 simp -implicitDefEqProofs
 refine EndO.ret [] [0,1] (.fn 229 [.ptr 0 0,.ptr 1 0]) (by simp) ?_
 simp -implicitDefEqProofs
set_option maxRecDepth 8000 in
set_option maxHeartbeats 4000000 in
theorem ofP_spec (p:Past) (six:Bool) (hw:p.wf) (h:okP p=true):FSpec Tryz.prog 93 [p.av,.bool six] [] (.im (.sl 2 ((cutsF p six).map Addr4.iv))) []:=by
 have hraw:=rawC_wf hw h six
 have hlen:=rawC_len h six
 have hsr:=sortedA_spec (rawC p six) hraw (by unfold rawC;simp) (by omega)
 have hrt:=okP_rt h
 have hev:=okP_ev h
 have hcut:rawC p six=zeroA::(roC six p.base.routers++evC six p.evs):=rfl
 have hro:=roC_len six p.base.routers fun r hr=>(okP_rt h r hr).1
 have hrl:=netOk_len (okP_base h)
 have hel:=okP_len h
 have hcf:cutsF p six=sortA (rawC p six):=rfl
 rw[←hcf]at hsr
 generalize cutsF p six=D at*
 refine FSpec.of_z (q:=[]) Tryz.func93 (by kernel_rfl) rfl Tryz.ntmps93 Tryz.results93 hP (by kernel_rfl) (by simp) (by first|rfl|simp) ?_
 simp -implicitDefEqProofs
 refine CallK.outs [] (prefixesO_spec p six) rfl (by simp) (by simp[AV.flat]) ?_
 simp -implicitDefEqProofs [rangeK]
 intro a0 b rr
 refine⟨_,_,_,[],Tryz.func229,(by kernel_rfl),rfl,Tryz.ntmps229,Tryz.results229,(by kernel_rfl),(by simp),?_⟩
 simp -implicitDefEqProofs
 refine LoopK.os (fun k:Nat=>[(0,.yld 5),(1,.ptr 2 0),(2,.ptr 3 0),(12,.im (.sl 4 (p.base.routers.map Router.iv))),(13,.int .i64 p.base.routers.length),(14,.int .i64 k)])
  (fun k=>[.row 31 2 ((zeroA::roC six (p.base.routers.take k)).map Addr4.iv),.box 80 [.row 0],pastO p,.box 4 [.bool six],.sv a0 [(5,.ptr 1 0)],.lp b rr .ready none])
  (fun k=>k≤p.base.routers.length) (fun k=>p.base.routers.length-k) 0 [1,2,3,4,5,6] (Nat.zero_le _) (by simp[roC,zeroA,renM]) ?_
 intro k hk
 by_cases hlt:k<p.base.routers.length
 ·have e1:IntKind.i64.wrap (k+1)=(k+1:Nat):=wrap64 (by omega) (by omega)
  have ht:roC six (p.base.routers.take (k+1))=roC six (p.base.routers.take k)++rtC six p.base.routers[k].routes:=flatMap_take _ hlt
  have hrk:=hrt p.base.routers[k] (List.getElem_mem _)
  have hwk:=hw.1 p.base.routers[k] (List.getElem_mem _)
  have hrok:=roC_len six (p.base.routers.take k) fun r hr=>(hrt r (List.mem_of_mem_take hr)).1
  rw[List.length_take]at hrok
  obtain⟨r,hr⟩:∃r,p.base.routers[k]=r:=⟨_,rfl⟩
  rw[hr]at ht hrk hwk
  generalize roC six (p.base.routers.take k)=A at*
  simp -implicitDefEqProofs [hlt,hr]
  refine LoopK.os (fun j:Nat=>[(0,.yld 5),(1,.ptr 2 0),(2,.ptr 3 0),(12,.im (.sl 4 (p.base.routers.map Router.iv))),(13,.int .i64 p.base.routers.length),(14,.int .i64 k),(19,.im (.sl 6 (r.routes.map Route.iv))),(20,.int .i64 r.routes.length),(21,.int .i64 j)])
   (fun j=>[.row 31 2 ((zeroA::(A++rtC six (r.routes.take j))).map Addr4.iv),.box 80 [.row 0],pastO p,.box 4 [.bool six],.sv a0 [(5,.ptr 1 0)],.lp b rr .ready none])
   (fun j=>j≤r.routes.length) (fun j=>r.routes.length-j) 0 [0,1,2,3,4,5] (Nat.zero_le _) (by simp[rtC,zeroA,renM]) ?_
  intro j hj
  by_cases hjl:j<r.routes.length
  ·have e2:IntKind.i64.wrap (j+1)=(j+1:Nat):=wrap64 (by omega) (by omega)
   have htj:rtC six (r.routes.take (j+1))=rtC six (r.routes.take j)++(if r.routes[j].pfx.six=six then ofA r.routes[j].pfx else[]):=flatMap_take _ hjl
   have hxl:=rtC_len six (r.routes.take j)
   rw[List.length_take]at hxl
   obtain⟨L,N,w,h1,h2,hwv,hO⟩:=of_parts (hwk _ (List.getElem_mem hjl)) (hrk.2 _ (List.getElem_mem hjl))
   obtain⟨x,hx⟩:∃x,r.routes[j]=x:=⟨_,rfl⟩
   rw[hx]at htj h1 h2 hO
   generalize rtC six (r.routes.take j)=B at*
   simp -implicitDefEqProofs [hjl,hx]
   refine⟨fun h=>?_,fun h=>?_⟩
   ·rw[if_pos h]at htj
    refine⟨4,_,rfl,rfl,rfl,fun aI=>?_⟩
    simp -implicitDefEqProofs [putL,asgK]
    refine⟨5,by simp,?_⟩
    simp -implicitDefEqProofs
    refine CallK.outs [] (ofo_spec x.pfx) rfl (by simp) (by simp[AV.flat]) ?_
    simp -implicitDefEqProofs [rangeI,rangeK]
    refine⟨⟨5,_,_,_,rfl⟩,fun a1 b1 r1=>?_⟩
    refine⟨_,_,_,[],Tryz.func230,(by kernel_rfl),rfl,Tryz.ntmps230,Tryz.results230,(by kernel_rfl),(by simp),?_⟩
    simp -implicitDefEqProofs
    first|refine CallK.same (h1) rfl rfl ?_|refine CallQ.same (h1) rfl rfl ?_|refine CallQG.same _ (h1) rfl ?_|refine CallG.same _ (h1) rfl ?_|refine CallK.pv (h1) rfl rfl ?_
    simp -implicitDefEqProofs
    first|refine CallK.same (h2) rfl rfl ?_|refine CallQ.same (h2) rfl rfl ?_|refine CallQG.same _ (h2) rfl ?_|refine CallG.same _ (h2) rfl ?_|refine CallK.pv (h2) rfl rfl ?_
    simp -implicitDefEqProofs
    refine⟨10,_,rfl,rfl,rfl,fun aJ=>?_⟩
    simp -implicitDefEqProofs [putL,asgK]
    refine⟨11,by simp,?_⟩
    simp -implicitDefEqProofs
    refine⟨⟨by omega,by unfold maxLen;omega⟩,?_⟩
    refine endRd_normal 14 11 (by simp;rfl) (by simp) ?_
    rcases hwv with rfl|rfl
    ·simp -implicitDefEqProofs
     refine⟨10,_,rfl,rfl,rfl,fun aK=>?_⟩
     simp -implicitDefEqProofs [putL,asgK]
     refine⟨11,by simp,?_⟩
     simp -implicitDefEqProofs
     refine⟨⟨by omega,by unfold maxLen;omega⟩,?_⟩
     refine endRd_normal 18 11 (by simp;rfl) (by simp) ?_
     simp -implicitDefEqProofs
     refine⟨10,_,11,.ready,none,rfl,rfl,.inl rfl,?_⟩
     simp -implicitDefEqProofs [pendK]
     refine endRd_normal 7 5 (by simp;rfl) (by simp) ?_
     simp -implicitDefEqProofs [h]
     rw[if_pos rfl]at hO
     refine Again.os (j+1) [21,1,2,3,4,5] hjl (by omega) ?_
     simp -implicitDefEqProofs [e2,htj,hO,renM]
    ·simp -implicitDefEqProofs
     refine⟨10,_,11,.ready,none,rfl,rfl,.inl rfl,?_⟩
     simp -implicitDefEqProofs [pendK]
     refine endRd_normal 7 5 (by simp;rfl) (by simp) ?_
     simp -implicitDefEqProofs [h]
     rw[if_neg (by decide)]at hO
     refine Again.os (j+1) [17,1,2,3,4,5] hjl (by omega) ?_
     simp -implicitDefEqProofs [e2,htj,hO,renM]
   ·rw[if_neg h,List.append_nil]at htj
    refine⟨fun hh=>absurd hh h,fun _=>?_⟩
    refine Again.os (j+1) [0,1,2,3,4,5] hjl (by omega) ?_
    simp -implicitDefEqProofs [e2,htj,renM]
  ·have hjj:j=r.routes.length:=by omega
   subst hjj
   rw[List.take_length]
   simp -implicitDefEqProofs
   refine Again.os (k+1) [0,1,2,3,4,5] hlt (by omega) ?_
   simp -implicitDefEqProofs [e1,ht,renM]
 ·have hkk:k=p.base.routers.length:=by omega
  subst hkk
  rw[List.take_length]
  simp -implicitDefEqProofs
  generalize roC six p.base.routers=A at*
  refine LoopK.os (fun k:Nat=>[(0,.yld 5),(1,.ptr 2 0),(2,.ptr 3 0),(40,.im (.sl 12 (p.evs.map Ev.iv))),(41,.int .i64 p.evs.length),(42,.int .i64 k)])
   (fun k=>[.row 31 2 ((zeroA::(A++evC six (p.evs.take k))).map Addr4.iv),.box 80 [.row 0],pastO p,.box 4 [.bool six],.sv a0 [(5,.ptr 1 0)],.lp b rr .ready none])
   (fun k=>k≤p.evs.length) (fun k=>p.evs.length-k) 0 [0,1,2,3,4,5] (Nat.zero_le _) (by simp[evC,renM]) ?_
  intro k hk
  by_cases hlt:k<p.evs.length
  ·have e1:IntKind.i64.wrap (k+1)=(k+1:Nat):=wrap64 (by omega) (by omega)
   have ht:evC six (p.evs.take (k+1))=evC six (p.evs.take k)++(if p.evs[k].kind=3∧p.evs[k].pfx.six=six then ofA p.evs[k].pfx else[]):=flatMap_take _ hlt
   have hxl:=evC_len six (p.evs.take k)
   rw[List.length_take]at hxl
   have hxm:p.evs[k]∈p.evs:=List.getElem_mem hlt
   obtain⟨x,hx⟩:∃x,p.evs[k]=x:=⟨_,rfl⟩
   rw[hx]at ht hxm
   generalize evC six (p.evs.take k)=B at*
   simp -implicitDefEqProofs [hlt,hx]
   refine⟨fun hk3 h=>?_,fun h=>⟨fun hk3 h2=>absurd h2 (h hk3),fun _=>?_⟩⟩
   ·rw[if_pos ⟨hk3,h⟩]at ht
    obtain⟨L,N,w,h1,h2,hwv,hO⟩:=of_parts (hw.2 x hxm).2 (hev x hxm hk3)
    refine⟨4,_,rfl,rfl,rfl,fun aI=>?_⟩
    simp -implicitDefEqProofs [putL,asgK]
    refine⟨5,by simp,?_⟩
    simp -implicitDefEqProofs
    refine CallK.outs [] (ofo_spec x.pfx) rfl (by simp) (by simp[AV.flat]) ?_
    simp -implicitDefEqProofs [rangeI,rangeK]
    refine⟨⟨5,_,_,_,rfl⟩,fun a1 b1 r1=>?_⟩
    refine⟨_,_,_,[],Tryz.func230,(by kernel_rfl),rfl,Tryz.ntmps230,Tryz.results230,(by kernel_rfl),(by simp),?_⟩
    simp -implicitDefEqProofs
    first|refine CallK.same (h1) rfl rfl ?_|refine CallQ.same (h1) rfl rfl ?_|refine CallQG.same _ (h1) rfl ?_|refine CallG.same _ (h1) rfl ?_|refine CallK.pv (h1) rfl rfl ?_
    simp -implicitDefEqProofs
    first|refine CallK.same (h2) rfl rfl ?_|refine CallQ.same (h2) rfl rfl ?_|refine CallQG.same _ (h2) rfl ?_|refine CallG.same _ (h2) rfl ?_|refine CallK.pv (h2) rfl rfl ?_
    simp -implicitDefEqProofs
    refine⟨10,_,rfl,rfl,rfl,fun aJ=>?_⟩
    simp -implicitDefEqProofs [putL,asgK]
    refine⟨11,by simp,?_⟩
    simp -implicitDefEqProofs
    refine⟨⟨by omega,by unfold maxLen;omega⟩,?_⟩
    refine endRd_normal 14 11 (by simp;rfl) (by simp) ?_
    rcases hwv with rfl|rfl
    ·simp -implicitDefEqProofs
     refine⟨10,_,rfl,rfl,rfl,fun aK=>?_⟩
     simp -implicitDefEqProofs [putL,asgK]
     refine⟨11,by simp,?_⟩
     simp -implicitDefEqProofs
     refine⟨⟨by omega,by unfold maxLen;omega⟩,?_⟩
     refine endRd_normal 18 11 (by simp;rfl) (by simp) ?_
     simp -implicitDefEqProofs
     refine⟨10,_,11,.ready,none,rfl,rfl,.inl rfl,?_⟩
     simp -implicitDefEqProofs [pendK]
     refine endRd_normal 7 5 (by simp;rfl) (by simp) ?_
     simp -implicitDefEqProofs [hk3,h]
     rw[if_pos rfl]at hO
     refine Again.os (k+1) [21,1,2,3,4,5] hlt (by omega) ?_
     simp -implicitDefEqProofs [e1,ht,hO,renM]
    ·simp -implicitDefEqProofs
     refine⟨10,_,11,.ready,none,rfl,rfl,.inl rfl,?_⟩
     simp -implicitDefEqProofs [pendK]
     refine endRd_normal 7 5 (by simp;rfl) (by simp) ?_
     simp -implicitDefEqProofs [hk3,h]
     rw[if_neg (by decide)]at hO
     refine Again.os (k+1) [17,1,2,3,4,5] hlt (by omega) ?_
     simp -implicitDefEqProofs [e1,ht,hO,renM]
   ·rw[if_neg (fun hh=>h hh.1 hh.2),List.append_nil]at ht
    refine Again.os (k+1) [0,1,2,3,4,5] hlt (by omega) ?_
    simp -implicitDefEqProofs [e1,ht,renM]
  ·have hkk:k=p.evs.length:=by omega
   subst hkk
   rw[List.take_length,←hcut]
   generalize rawC p six=R at*
   simp -implicitDefEqProofs
   refine⟨4,_,5,.ready,none,rfl,rfl,.inl rfl,?_⟩
   simp -implicitDefEqProofs [pendK]
   refine CallO.mk [] [0] hsr (by simp) rfl (by simp) (by simp) (by simp) ?_
   simp -implicitDefEqProofs
   refine EndZ.ret [] (.im (.sl 2 (D.map Addr4.iv))) (by simp) ?_
   simp -implicitDefEqProofs
theorem cuts_spec (p:Past) (six:Bool) (hw:p.wf):FSpec Tryz.prog 35 [p.av,.bool six] [] (.tup [.im (.sl 2 ((if okP p then cutsF p six else[]).map Addr4.iv)),.int .i64 (if okP p then 0 else 2)]) []:=by
 have h1:=checkP_spec_ p fun e he=>(hw.2 e he).1
 cases h:okP p with
 |true=>
  rw[h]at h1
  have h2:=ofP_spec p six hw h
  generalize cutsF p six=D at*
  refine FSpec.of_z (q:=[]) Tryz.func35 (by kernel_rfl) rfl Tryz.ntmps35 Tryz.results35 hP (by kernel_rfl) (by simp) (by first|rfl|simp) ?_
  simp -implicitDefEqProofs
  first|refine CallK.same (h1) rfl rfl ?_|refine CallQ.same (h1) rfl rfl ?_|refine CallQG.same _ (h1) rfl ?_|refine CallG.same _ (h1) rfl ?_|refine CallK.pv (h1) rfl rfl ?_
  simp -implicitDefEqProofs
  first|refine CallK.same (h2) rfl rfl ?_|refine CallQ.same (h2) rfl rfl ?_|refine CallQG.same _ (h2) rfl ?_|refine CallG.same _ (h2) rfl ?_|refine CallK.pv (h2) rfl rfl ?_
  simp -implicitDefEqProofs
  refine EndZ.ret [] (.tup [.im (.sl 2 (D.map Addr4.iv)),.int .i64 0]) (by simp) ?_
  simp -implicitDefEqProofs
 |false=>
  rw[h]at h1
  refine FSpec.of_z (q:=[]) Tryz.func35 (by kernel_rfl) rfl Tryz.ntmps35 Tryz.results35 hP (by kernel_rfl) (by simp) (by first|rfl|simp) ?_
  simp -implicitDefEqProofs
  first|refine CallK.same (h1) rfl rfl ?_|refine CallQ.same (h1) rfl rfl ?_|refine CallQG.same _ (h1) rfl ?_|refine CallG.same _ (h1) rfl ?_|refine CallK.pv (h1) rfl rfl ?_
  simp -implicitDefEqProofs
  refine EndZ.ret [] (.tup [.im (.sc (.slice none 0 0)),.int .i64 2]) (by simp) ?_
  simp
end Go.Am
namespace Go.Am
open Go.Proofs
end Go.Am
namespace Go.Am
open Go.Proofs
end Go.Am
namespace Go.Am
open Go.Proofs
end Go.Am
namespace Go.Am
open Go.Proofs
def hasN (p:Pfx) (six:Bool) (a:Addr4):Bool:=decide (checkP p=0∧p.six=six∧rightA six a=true∧p.addr.num≤a.num∧a.num≤lastN p)
end Go.Am
namespace Go.Am
open Go.Proofs
theorem countP_split {α:Type} (P Q:α→Bool) (l:List α) (h:∀x∈l,P x=true→Q x=true) (he:l.countP P=l.countP Q):∀x∈l,P x=Q x:=by
 induction l with
 |nil=>intro x hx;cases hx
 |cons y l ih=>
  have hle:=List.countP_mono_left (l:=l) fun x hx=>h x (List.mem_cons_of_mem _ hx)
  have hy:=h y List.mem_cons_self
  rw[List.countP_cons,List.countP_cons]at he
  have hyq:P y=Q y:=by
   cases hp:P y with
   |true=>rw[hy hp]
   |false=>
    cases hq:Q y with
    |false=>rfl
    |true=>simp[hp,hq]at he;omega
  rw[hyq]at he
  intro x hx
  rcases List.mem_cons.1 hx with rfl|hx
  ·exact hyq
  ·exact ih (fun x hx=>h x (List.mem_cons_of_mem _ hx)) (by omega) x hx
theorem where_eq {six:Bool} {l:List Addr4} (hw:wfL l) (hc:checkC six l=0) {a b:Addr4} (h:whereN a l=whereN b l):∀c∈l,(c.num≤a.num↔c.num≤b.num):=by
 have h1:=count_pos (n:=a) hw hc
 have h2:=count_pos (n:=b) hw hc
 unfold whereN at h
 have he:l.countP (fun c=>decide (c.num≤a.num))=l.countP (fun c=>decide (c.num≤b.num)):=by omega
 intro c hcm
 rcases Nat.le_total a.num b.num with hab|hab
 ·have:=countP_split _ _ l (fun x _ hx=>by simp at hx⊢;omega) he c hcm
  simpa using this
 ·have:=countP_split _ _ l (fun x _ hx=>by simp at hx⊢;omega) he.symm c hcm
  simp at this
  exact this.symm
theorem hasN_eq {p:Pfx} {six:Bool} {a b:Addr4} (hw:p.addr.wf) (h3:checkP p=0) (h2:p.six=six) (haw:a.wf) (hbw:b.wf) (ha:rightA six a=true) (hb:rightA six b=true) (h:∀c∈ofA p,(c.num≤a.num↔c.num≤b.num)):hasN p six a=hasN p six b:=by
 obtain⟨l1,l2⟩:=last_lt hw h3
 have hp:=pow_le p.six
 have m1:=maxN_all haw ha
 have m2:=maxN_all hbw hb
 unfold ofA at h
 unfold hasN
 rw[Bool.eq_iff_iff,decide_eq_true_eq,decide_eq_true_eq]
 subst h2
 split at h
 ·rename_i hm
  have h1:=h p.addr (by simp)
  constructor
  ·rintro⟨q1,q2,q3,q4,q5⟩
   exact⟨q1,q2,hb,h1.1 q4,by omega⟩
  ·rintro⟨q1,q2,q3,q4,q5⟩
   exact⟨q1,q2,ha,h1.2 q4,by omega⟩
 ·rename_i hm
  have h1:=h p.addr (by simp)
  have h4:=h (ofN (lastN p+1)) (by simp)
  rw[num_ofN (by unfold maxN at hm;omega)]at h4
  constructor
  ·rintro⟨q1,q2,q3,q4,q5⟩
   exact⟨q1,q2,hb,h1.1 q4,by omega⟩
  ·rintro⟨q1,q2,q3,q4,q5⟩
   exact⟨q1,q2,ha,h1.2 q4,by omega⟩
end Go.Am
namespace Go.Am
open Go.Proofs
theorem bits_div (W x y:Nat) (hx:x<2 ^ W) (hy:y<2 ^ W):∀n,n≤W→((∀i,i<n→x / 2 ^ (W-1-i) % 2=y / 2 ^ (W-1-i) % 2)↔x / 2 ^ (W-n)=y / 2 ^ (W-n))
 |0,_=>by
  rw[Nat.sub_zero,Nat.div_eq_of_lt hx,Nat.div_eq_of_lt hy]
  simp
 |n+1,h=>by
  have ih:=bits_div W x y hx hy n (by omega)
  have e:2 ^ (W-n)=2 ^ (W-(n+1))*2:=by rw[←Nat.pow_succ];congr 1;omega
  rw[e,←Nat.div_div_eq_div_mul,←Nat.div_div_eq_div_mul]at ih
  have e2:W-1-n=W-(n+1):=by omega
  constructor
  ·intro hh
   have h1:=ih.1 fun i hi=>hh i (by omega)
   have h2:=hh n (by omega)
   rw[e2]at h2
   omega
  ·intro hh i hi
   by_cases hin:i<n
   ·exact ih.2 (by rw[hh]) i hin
   ·have:i=n:=by omega
    subst this
    rw[e2,hh]
theorem sameBits_div {six:Bool} {a b:Addr4} {n:Nat} (ha:a.num<2 ^ wideN six) (hb:b.num<2 ^ wideN six) (hn:n≤wideN six):sameBits six a b n=true↔a.num / 2 ^ (wideN six-n)=b.num / 2 ^ (wideN six-n):=by
 rw[←bits_div _ _ _ ha hb n hn]
 unfold sameBits bitAt
 rw[List.all_eq_true]
 constructor
 ·intro h i hi
  have:=h i (List.mem_range.2 hi)
  rw[beq_iff_eq]at this
  exact Int.ofNat.inj this
 ·intro h i hi
  rw[beq_iff_eq,h i (List.mem_range.1 hi)]
theorem hasP_hasN {p:Pfx} {six:Bool} {a:Addr4} (hw:p.addr.wf) (ha:a.wf):hasP p six a=hasN p six a:=by
 unfold hasP hasN
 by_cases h1:checkP p=0
 ·by_cases h2:p.six=six
  ·cases h3:rightA six a with
   |false=>simp
   |true=>
    subst h2
    obtain⟨l0,l1,l2⟩:=checkP_len h1
    have hh:=checkP_host hw h1
    have hlt:=Addr4.num_lt hw l2
    have hat:=Addr4.num_lt ha h3
    have hs:=sameBits_div (n:=p.len.toNat) hlt hat (by omega)
    rw[Bool.eq_iff_iff]
    simp only[h1,beq_self_eq_true,Bool.true_and,decide_eq_true_eq,true_and]
    rw[hs]
    unfold lastN
    generalize hn:wideN p.six-p.len.toNat=n at*
    have hp:=Nat.two_pow_pos n
    obtain⟨q,hq⟩:=Nat.dvd_of_mod_eq_zero hh
    rw[hq,Nat.mul_div_cancel_left _ hp]
    constructor
    ·intro e
     have h5:=Nat.div_add_mod a.num (2 ^ n)
     have h6:=Nat.mod_lt a.num hp
     rw[←e]at h5
     omega
    ·rintro⟨h5,h6⟩
     refine(Nat.div_eq_of_lt_le ?_ ?_).symm
     ·rw[Nat.mul_comm];exact h5
     ·rw[Nat.add_mul,Nat.mul_comm q];omega
  ·simp[h1,h2]
 ·simp[h1]
theorem bestF_eq {six:Bool} {a b:Addr4}:∀(l:List Route) (x:Option Route),(∀r∈l,hasP r.pfx six a=hasP r.pfx six b)→bestF six a l x=bestF six b l x
 |[],_,_=>rfl
 |r::l,x,h=>by
  rw[bestF,bestF,h r List.mem_cons_self]
  exact bestF_eq l _ fun y hy=>h y (List.mem_cons_of_mem _ hy)
theorem putRt_all {S:Route→Prop} {l:List Route} {x:Route} (hl:∀r∈l,S r) (hx:S x):∀r∈(putRt l x).1,S r:=by
 unfold putRt
 intro r hr
 split at hr
 ·cases hr
 ·split at hr
  ·exact hl r hr
  ·simp only[List.mem_append,List.mem_singleton,ltR,gtR,woR,List.mem_filter]at hr
   rcases hr with(hr|rfl)|hr
   ·exact hl r hr.1.1
   ·exact hx
   ·exact hl r hr.1.1
theorem delRt_all {S:Route→Prop} {l:List Route} {p:Pfx} (hl:∀r∈l,S r):∀r∈(delRt l p).1,S r:=by
 unfold delRt
 intro r hr
 split at hr
 ·cases hr
 ·simp only[woR,List.mem_filter]at hr
  exact hl r hr.1
theorem applyR_all {S:Route→Prop} {r:Router} {e:Ev} (hw:∀x∈r.routes,S x) (he:e.kind=3→S ⟨e.pfx,e.act⟩):∀x∈(applyR r e).1.routes,S x:=by
 unfold applyR
 repeat' split
 all_goals first
  |exact hw
  |(intro x hx;cases hx;done)
  |(rename_i h3 _;exact putRt_all hw (he h3))
  |exact delRt_all hw
theorem happensF_all {S:Route→Prop} {n:Net} {e:Ev} {hz:Int} (hw:∀r∈n.routers,∀x∈r.routes,S x) (he:e.kind=3→S ⟨e.pfx,e.act⟩):∀r∈(happensF n e hz).1.routers,∀x∈r.routes,S x:=by
 unfold happensF
 repeat' split
 all_goals first
  |exact hw
  |skip
 intro r hr
 simp only[netAfter,List.mem_map]at hr
 obtain⟨s,_,rfl⟩:=hr
 unfold afterN
 split
 ·refine applyR_all ?_ he
  unfold mineN
  split
  ·rename_i r h;exact hw r (List.mem_of_find?_eq_some h)
  ·intro x hx;cases hx
 ·cases h:routerF n.routers s.router with
  |none=>intro x hx;cases hx
  |some r=>exact hw r (List.mem_of_find?_eq_some h)
theorem allGo_all {S:Route→Prop} {hz:Int}:∀(l:List Ev) (n:Net) (i:Int),(∀r∈n.routers,∀x∈r.routes,S x)→(∀e∈l,e.kind=3→S ⟨e.pfx,e.act⟩)→∀r∈(allGo hz l n i).1.routers,∀x∈r.routes,S x
 |[],n,i,h,_=>h
 |e::l,n,i,h,hl=>by
  rw[allGo]
  split
  ·exact allGo_all l _ _ (happensF_all h (hl e List.mem_cons_self)) fun x hx=>hl x (List.mem_cons_of_mem _ hx)
  ·exact h
theorem hopF_eq {r:Router} {six:Bool} {a b:Addr4} (h:∀x∈r.routes,hasP x.pfx six a=hasP x.pfx six b):hopF r six a=hopF r six b:=by
 unfold hopF
 rw[bestF_eq r.routes none h]
theorem doesF_eq {n:Net} {x:Int} {six:Bool} {a b:Addr4} (h:∀r∈n.routers,∀x∈r.routes,hasP x.pfx six a=hasP x.pfx six b):doesF n x six a=doesF n x six b:=by
 unfold doesF
 cases e:routerF n.routers x with
 |none=>rfl
 |some r=>exact hopF_eq (h r (List.mem_of_find?_eq_some e))
def cutBy (p:Past) (six:Bool) (x:Route):Prop:=x.pfx.addr.wf∧(x.pfx.six=six→checkP x.pfx=0→∀c∈ofA x.pfx,c∈cutsF p six)
theorem then_cut {p:Past} (hw:p.wf) (hok:okP p=true) (six:Bool) (t:Int):∀r∈(thenF p t).routers,∀x∈r.routes,cutBy p six x:=by
 have hs:=(sortA_all (rawC_wf hw hok six)).2.2
 rw[thenF_go hok]
 refine allGo_all _ _ _ ?_ ?_
 ·intro r hr x hx
  refine⟨hw.1 r hr x hx,fun h6 _ c hc=>(hs c).2 ?_⟩
  unfold rawC roC rtC
  refine List.mem_cons_of_mem _ (List.mem_append_left _ ?_)
  simp only[List.mem_flatMap]
  exact⟨r,hr,x,hx,by rw[if_pos h6];exact hc⟩
 ·intro e he hk
  have hm:e∈p.evs:=(List.mem_filter.1 he).1
  refine⟨(hw.2 e hm).2,fun h6 _ c hc=>(hs c).2 ?_⟩
  unfold rawC evC
  refine List.mem_cons_of_mem _ (List.mem_append_right _ ?_)
  simp only[List.mem_flatMap]
  exact⟨e,hm,by rw[if_pos ⟨hk,h6⟩];exact hc⟩
theorem does_same {p:Past} (hw:p.wf) (hok:okP p=true) {six:Bool} (t:Int) {a b:Addr4} (ha:a.wf) (hb:b.wf) (ra:rightA six a=true) (rb:rightA six b=true) (h:∀c∈cutsF p six,(c.num≤a.num↔c.num≤b.num)) (x:Int):doesF (thenF p t) x six a=doesF (thenF p t) x six b:=by
 refine doesF_eq fun r hr x hx=>?_
 obtain⟨k1,k2⟩:=then_cut hw hok six t r hr x hx
 rw[hasP_hasN k1 ha,hasP_hasN k1 hb]
 by_cases h1:checkP x.pfx=0
 ·by_cases h2:x.pfx.six=six
  ·exact hasN_eq k1 h1 h2 ha hb ra rb fun c hc=>h c (k2 h2 h1 c hc)
  ·unfold hasN;simp[h2]
 ·unfold hasN;simp[h1]
end Go.Am
namespace Go.Am
theorem Goes.sub {H:Int→Hop}:∀{W:List Int} {r:Int} {res:List Int×Verd},Goes H W r res→∀x∈W,x∈res.1
 |_,_,_,.ends h,x,hx=>hx
 |_,_,_,.again h hp,x,hx=>List.mem_append.2 (.inl hx)
 |_,_,_,.step h hp hs,x,hx=>Goes.sub hs x (List.mem_append.2 (.inl hx))
theorem moves_eq {H K:Int→Hop} {r:Int} (h:H r=K r):moves H r↔moves K r:=by unfold moves;rw[h]
theorem Goes.congr {H K:Int→Hop} {W:List Int} {r:Int} {res:List Int×Verd} (h:Goes H W r res):r∈W→(∀x∈res.1,H x=K x)→Goes K W r res:=by
 induction h with
 |@ends W r h=>
  intro hr he
  have:=he r hr
  rw[this]
  exact .ends (fun hm=>h ((moves_eq this).2 hm))
 |@again W r h hp=>
  intro hr he
  have:=he r (List.mem_append.2 (.inl hr))
  rw[this]at hp⊢
  exact .again ((moves_eq this).1 h) hp
 |@step W r res h hp hs ih=>
  intro hr he
  have:=he r (Goes.sub hs r (List.mem_append.2 (.inl hr)))
  have ih:=ih (by simp) he
  rw[this]at hp ih
  exact .step ((moves_eq this).1 h) hp ih
theorem way_agree {n m:Net} {six:Bool} {a b:Addr4} {r:Int} (h:∀x∈(wayN n six a r).1,doesF n x six a=doesF m x six b):wayN m six b r=wayN n six a r:=
 ((wayN_goes m six b r).det ((wayN_goes n six a r).congr (by simp) h))
theorem verd_same {p:Past} (hw:p.wf) {six:Bool} {x y:Addr4} (hx:x.wf) (hy:y.wf) (rx:rightA six x=true) (ry:rightA six y=true) (h:∀c∈cutsF p six,(c.num≤x.num↔c.num≤y.num)) (r a b:Int):
  verdE p r six x a b=verdE p r six y a b∧verdL p r six x a b=verdL p r six y a b:=by
 have hA:askV p r six x a b=askV p r six y a b:=by unfold askV;rw[rx,ry]
 by_cases h0:askV p r six x a b=0
 ·have hok:=(askV_zero h0).1
  have hl:lineP p (fun n=>(wayN n six x r).2) a b=lineP p (fun n=>(wayN n six y r).2) a b:=by
   unfold lineP
   congr 1
   funext t
   exact congrArg Prod.snd (way_agree fun z _=>does_same hw hok t hy hx ry rx (fun c hc=>(h c hc).symm) z)
  have hE:verdE p r six x a b=verdE p r six y a b:=by unfold verdE;rw[←hA,hl]
  exact⟨hE,by unfold verdL;rw[hE,hl]⟩
 ·have hE:verdE p r six x a b=verdE p r six y a b:=by unfold verdE;rw[←hA,if_neg h0,if_neg h0]
  refine⟨hE,?_⟩
  have h1:¬verdE p r six x a b=0:=by unfold verdE;rw[if_neg h0];exact h0
  unfold verdL
  rw[←hE,if_neg h1,if_neg h1]
theorem agree_r {hz t u r:Int}:∀(l:List Ev) (n m:Net) (i j:Int),netOk n=true→netOk m=true→(allGo hz (upto t l) n i).2.2=0→(allGo hz (upto u l) m j).2.2=0→routerF n.routers r=routerF m.routers r→
  (∀e∈l,e.router=r→(e.time≤t↔e.time≤u))→routerF (allGo hz (upto t l) n i).1.routers r=routerF (allGo hz (upto u l) m j).1.routers r
 |[],n,m,i,j,_,_,_,_,h,_=>h
 |e::l,n,m,i,j,hn,hm,h1,h2,h,he=>by
  have hl:∀e∈l,e.router=r→(e.time≤t↔e.time≤u):=fun x hx=>he x (List.mem_cons_of_mem _ hx)
  have hu:∀v,upto v (e::l)=if e.time≤v then e::upto v l else upto v l:=fun v=>by
   unfold upto
   rw[List.filter_cons]
   by_cases h:e.time≤v<;>simp[h]
  rw[hu]at h1 h2⊢
  rw[hu]
  by_cases ht:e.time≤t<;>by_cases hv:e.time≤u
  ·rw[if_pos ht]at h1⊢
   rw[if_pos hv]at h2⊢
   obtain⟨a1,a2⟩:=allGo_step h1
   obtain⟨b1,b2⟩:=allGo_step h2
   rw[a2]at h1⊢
   rw[b2]at h2⊢
   have a3:=happensF_ok (e:=e) (hz:=hz) hn
   obtain⟨_,a4⟩:=happensF_get hn a1
   have b3:=happensF_ok (e:=e) (hz:=hz) hm
   obtain⟨_,b4⟩:=happensF_get hm b1
   refine agree_r l _ _ _ _ a3 b3 h1 h2 ?_ hl
   rw[a4,b4]
   by_cases hr:r=e.router
   ·rw[if_pos hr,if_pos hr]
    have:mineN n e=mineN m e:=by unfold mineN;rw[←hr,h]
    rw[this]
   ·rw[if_neg hr,if_neg hr,h]
  ·rw[if_pos ht]at h1⊢
   rw[if_neg hv]at h2⊢
   obtain⟨a1,a2⟩:=allGo_step h1
   rw[a2]at h1⊢
   have a3:=happensF_ok (e:=e) (hz:=hz) hn
   obtain⟨_,a4⟩:=happensF_get hn a1
   refine agree_r l _ _ _ _ a3 hm h1 h2 ?_ hl
   rw[a4,if_neg,h]
   intro hr
   have:=he e (by simp) hr.symm
   omega
  ·rw[if_neg ht]at h1⊢
   rw[if_pos hv]at h2⊢
   obtain⟨b1,b2⟩:=allGo_step h2
   rw[b2]at h2⊢
   have b3:=happensF_ok (e:=e) (hz:=hz) hm
   obtain⟨_,b4⟩:=happensF_get hm b1
   refine agree_r l _ _ _ _ hn b3 h1 h2 ?_ hl
   rw[b4,if_neg,h]
   intro hr
   have:=he e (by simp) hr.symm
   omega
  ·rw[if_neg ht]at h1⊢
   rw[if_neg hv]at h2⊢
   exact agree_r l _ _ _ _ hn hm h1 h2 h hl
theorem then_agree {p:Past} (hok:okP p=true) {t u r:Int} (he:∀e∈p.evs,e.router=r→(e.time≤t↔e.time≤u)) (six:Bool) (a:Addr4):doesF (thenF p t) r six a=doesF (thenF p u) r six a:=by
 have hb:=okP_base hok
 have h1:=thenW_ok hok t
 have h2:=thenW_ok hok u
 have key:routerF (thenF p t).routers r=routerF (thenF p u).routers r:=by
  unfold thenW at h1 h2
  unfold thenF
  unfold allN at h1 h2⊢
  rw[if_neg (by simp[hb])]at h1 h2
  rw[if_neg (by simp[hb]),if_neg (by simp[hb])]
  exact agree_r p.evs p.base p.base 0 0 hb hb h1 h2 rfl he
 unfold doesF
 rw[key]
end Go.Am
namespace Go.Am
open Go.Proofs
def rightV (v:Verd):Bool:=decide (0<v.kind)&&decide (v.kind<5)&&decide (0≤v.at_)&&decide (v.at_≤1048576)
theorem tile_at {T:Type} [DecidableEq T]:∀{l:List (Pc T)} {n:Int} {pv:Option T} {e:Int},Tile n pv l e→∀(k:Nat) (hk:k<l.length),l[k].a≤l[k].b∧n≤l[k].a∧l[k].b<e∧
  (k=0→l[k].a=n)∧(k+1=l.length→l[k].b+1=e)∧(∀(j:Nat) (hj:j<l.length),k=j+1→l[k].a=l[j].b+1∧l[k].v≠l[j].v)
 |[],n,pv,e,h,k,hk=>by simp at hk
 |x::l,n,pv,e,h,k,hk=>by
  obtain⟨h1,h2,h3,h4⟩:=h
  have hle:=Tile.le h4
  cases k with
  |zero=>
   refine⟨h2,by show n≤x.a;omega,by show x.b<e;omega,fun _=>h1,fun hl=>?_,fun j hj hh=>by omega⟩
   have:l=[]:=List.length_eq_zero_iff.1 (by simp at hl;exact hl.symm▸rfl)
   subst this
   exact h4
  |succ k=>
   have hk':k<l.length:=by simpa using hk
   obtain⟨g1,g2,g3,g4,g5,g6⟩:=tile_at h4 k hk'
   refine⟨g1,by show n≤l[k].a;omega,g3,fun h=>by omega,fun hl=>g5 (by simp at hl;omega),fun j hj hh=>?_⟩
   cases j with
   |zero=>
    have hk0:k=0:=by omega
    subst hk0
    refine⟨g4 rfl,?_⟩
    show l[0].v≠x.v
    match l,hk',h4 with
    |y::l',_,h4=>intro he;exact h4.2.2.1 (congrArg some he.symm)
   |succ j=>
    exact g6 j (by simpa using hj) (by omega)
end Go.Am
namespace Go.Am
open Go.Proofs
@[simp] def markIv (F:Int→Verd) (t:Int):List IV:=[.sc (.int .i64 t),.sc (.int .u8 (F t).kind),.sc (.int .i64 (F t).at_)]
theorem one20_spec (v:Verd):FSpec Tryz.prog 152 [v.av] [] (.bool (rightV v)) []:=by
 refine FSpec.of_flat (q:=[]) Tryz.func152 (by kernel_rfl) rfl Tryz.ntmps152 Tryz.results152 hP (by kernel_rfl) (by simp) (by first|rfl|simp) ?_
 simp -implicitDefEqProofs [rightV]
theorem mark_get (F:Int→Verd) {ts:List Int} {k:Nat} (h:k<ts.length):(ts.map (markIv F))[k]? =some (markIv F ts[k]):=by simp[h]
set_option maxRecDepth 8000 in
set_option maxHeartbeats 4000000 in
theorem make20_spec (ts:List Int) (F:Int→Verd) (a b:Int) (ho:oneI a b=true) (hh:ts.head? =some a) (hp:ts.Pairwise (·<·)) (hb:∀t∈ts,a≤t∧t≤b) (hl:ts.length≤2000) (hv:∀t∈ts,rightV (F t)=true):
  FSpec Tryz.prog 78 [.agg [.int .i64 a,.int .i64 b],.im (.sl 3 (ts.map (markIv F)))] []
   (.tup [.im (.sl 4 ((if 1024<(accE F b ts ts.length).length then[]else accE F b ts ts.length).map Pc.ivVd)),.int .i64 (if 1024<(accE F b ts ts.length).length then 11 else 0)]) []:=by
 have h1:=one_spec a b
 rw[show(decide (0≤a)&&decide (a≤b)&&decide (b≤1099511627776))=oneI a b from rfl,ho]at h1
 have hne:0<ts.length:=by cases ts with|nil=>simp at hh|cons x l=>simp
 have hne':ts≠[]:=by intro h;rw[h]at hne;simp at hne
 have h0:ts[0]=a:=by cases ts with|nil=>simp at hh|cons x l=>simpa using hh
 have hlt2:∀(i j:Nat) (hi:i<ts.length) (hj:j<ts.length),i<j→ts[i]<ts[j]:=fun i j hi hj hij=>List.pairwise_iff_getElem.1 hp i j hi hj hij
 obtain⟨o1,o2,o3⟩:=oneI_le ho
 refine FSpec.of_z (q:=[(6,.n 33),(17,.n 11)]) Tryz.func78 (by kernel_rfl) rfl Tryz.ntmps78 Tryz.results78 hP (by kernel_rfl) (by simp) (by first|rfl|simp) ?_
 simp -implicitDefEqProofs
 first|refine CallK.same (h1) rfl rfl ?_|refine CallQ.same (h1) rfl rfl ?_|refine CallQG.same _ (h1) rfl ?_|refine CallG.same _ (h1) rfl ?_|refine CallK.pv (h1) rfl rfl ?_
 simp -implicitDefEqProofs [hne']
 refine LoopK.os (fun k:Nat=>[(1,.im (.sl 3 (ts.map (markIv F)))),(2,.ptr 0 0),(21,.im (.sl 3 (ts.map (markIv F)))),(22,.int .i64 ts.length),(23,.int .i64 k)])
  (fun k=>[.box 43 [.int .i64 a,.int .i64 b]])
  (fun k=>k≤ts.length) (fun k=>ts.length-k) 0 [0] (Nat.zero_le _) (by simp) ?_
 intro k hk
 by_cases hlt:k<ts.length
 ·have e1:IntKind.i64.wrap (k+1)=(k+1:Nat):=wrap64 (by omega) (by omega)
  have hg:=mark_get F hlt
  have hb1:=hb ts[k] (List.getElem_mem hlt)
  have h2:=one20_spec (F ts[k])
  rw[hv ts[k] (List.getElem_mem hlt)]at h2
  obtain⟨t,ht⟩:∃t,ts[k]=t:=⟨_,rfl⟩
  rw[ht]at hg hb1 h2
  have em:IntKind.i64.wrap (-1)= -1:=by decide
  cases k with
  |zero=>
   have hta:t=a:=by rw[←ht];exact h0
   subst hta
   have hg0:ts[0]? =some t:=by rw[List.getElem?_eq_getElem hlt,ht]
   simp -implicitDefEqProofs [hlt,hg,ht,em,hne,hg0]
   first|refine CallK.same (h2) rfl rfl ?_|refine CallQ.same (h2) rfl rfl ?_|refine CallQG.same _ (h2) rfl ?_|refine CallG.same _ (h2) rfl ?_|refine CallK.pv (h2) rfl rfl ?_
   simp -implicitDefEqProofs [em,hg0]
   refine Again.os 1 [0] hlt (by omega) ?_
   simp -implicitDefEqProofs [show IntKind.i64.wrap 1=1 by decide]
  |succ j=>
   have hj:j<ts.length:=by omega
   have ej:IntKind.i64.wrap (j:Int)=(j:Int):=wrap64 (by omega) (by omega)
   have hlt3:=hlt2 j (j+1) hj hlt (by omega)
   have hgj:=mark_get F hj
   obtain⟨u,hu⟩:∃u,ts[j]=u:=⟨_,rfl⟩
   rw[hu]at hgj hlt3
   rw[ht]at hlt3
   have q1:¬t≤u:=by omega
   have q2:¬b<t:=by omega
   have q3:((j:Int)+1=0)=False:=by simp;omega
   have hgj':ts[j]? =some u:=by rw[List.getElem?_eq_getElem hj,hu]
   have hi:(j:Int)+1<ts.length:=by omega
   have hi0:(0:Int)≤(j:Int)+1:=by omega
   simp -implicitDefEqProofs [hlt,hg,ht,ej,hgj,hj,hu,q1,q2,q3,hgj',hi,hi0]
   first|refine CallK.same (h2) rfl rfl ?_|refine CallQ.same (h2) rfl rfl ?_|refine CallQG.same _ (h2) rfl ?_|refine CallG.same _ (h2) rfl ?_|refine CallK.pv (h2) rfl rfl ?_
   have q1':¬t≤ts[j]:=by rw[hu];exact q1
   have q3':((j:Int)+1==0)=false:=by simp;omega
   simp -implicitDefEqProofs [ej,hgj',q1',q2,q3,q3',hj,impB]
   refine Again.os (j+1+1) [0] hlt (by omega) ?_
   simp -implicitDefEqProofs at e1
   simp -implicitDefEqProofs [e1]
 ·have hkk:k=ts.length:=by omega
  subst hkk
  simp -implicitDefEqProofs
  refine LoopK.nil (.sl 8 71 4) ?_
  simp -implicitDefEqProofs
  refine LoopK.os (fun k:Nat=>[(1,.im (.sl 3 (ts.map (markIv F)))),(2,.ptr 0 0),(8,.row 1),(66,.im (.sl 3 (ts.map (markIv F)))),(67,.int .i64 ts.length),(68,.int .i64 k)])
   (fun k=>[.box 43 [.int .i64 a,.int .i64 b],.row 71 4 ((accE F b ts k).map Pc.ivVd)])
   (fun k=>k≤ts.length) (fun k=>ts.length-k) 0 [0,1] (Nat.zero_le _) (by simp[accE]) ?_
  intro k hk
  by_cases hlt:k<ts.length
  ·have e1:IntKind.i64.wrap (k+1)=(k+1:Nat):=wrap64 (by omega) (by omega)
   have hg:=mark_get F hlt
   have hacc:accE F b ts (k+1)=addPc (accE F b ts k) ts[k] (endT b ts k) (F ts[k]):=by
    rw[accE,List.getD_eq_getElem?_getD,List.getElem?_eq_getElem hlt];rfl
   have hal:=accE_len F b ts k
   have hend:(k+1<ts.length→∃v,ts[k+1]? =some v∧IntKind.i64.wrap (v-1)=endT b ts k)∧(¬k+1<ts.length→endT b ts k=b):=by
    refine⟨fun h=>⟨ts[k+1],List.getElem?_eq_getElem h,?_⟩,fun h=>by unfold endT;rw[if_neg h]⟩
    have:=hb ts[k+1] (List.getElem_mem h)
    rw[wrap64 (by omega) (by omega)]
    unfold endT
    rw[if_pos h,List.getD_eq_getElem?_getD,List.getElem?_eq_getElem h]
    rfl
   generalize accE F b ts k=L at*
   generalize endT b ts k=E at*
   obtain⟨t,ht⟩:∃t,ts[k]=t:=⟨_,rfl⟩
   rw[ht]at hg hacc
   have hi0:(0:Int)≤(k:Int)+1:=by omega
   by_cases hn:k+1<ts.length
   ·obtain⟨v,hv1,hv2⟩:=hend.1 hn
    have hi:(k:Int)+1<ts.length:=by omega
    rcases List.eq_nil_or_concat L with rfl|⟨L',y,rfl⟩
    ·simp -implicitDefEqProofs [hlt,hg,ht,e1,hi,hi0,hv1,hv2]
     refine⟨by unfold maxLen;omega,?_⟩
     refine Again.os (k+1) [0,4] hlt (by omega) ?_
     simp -implicitDefEqProofs [e1,hacc,addPc]
    ·rw[List.concat_eq_append]at hacc hal⊢
     rw[List.length_append,List.length_singleton]at hal
     have e2:IntKind.i64.wrap (L'.length:Int)=(L'.length:Int):=wrap64 (by omega) (by omega)
     have hg2:=get_end Pc.ivVd L' (Pc.ivVd y)
     have hm:=fun g=>mod_end g (Pc.ivVd y) (L'.map Pc.ivVd)
     simp at hg2 hm
     simp -implicitDefEqProofs [hlt,hg,ht,e1,hi,hi0,hv1,hv2,e2,hg2,hm]
     refine⟨by omega,fun h1 h2=>⟨by omega,?_⟩,fun hne=>⟨⟨by omega,by unfold maxLen;omega⟩,?_⟩⟩
     ·have hv:y.v=F t:=by
       obtain⟨c,d,⟨u,w⟩⟩:=y
       generalize F t=H at*
       obtain⟨u',w'⟩:=H
       simp only at h1 h2
       rw[h1,h2]
      rw[←hv,addPc_ext]at hacc
      refine Again.os (k+1) [0,1] hlt (by omega) ?_
      simp -implicitDefEqProofs [e1,hacc]
     ·have hv:y.v≠F t:=fun e=>by rw[e]at hne;exact hne rfl rfl
      rw[addPc_new _ _ _ _ (fun z hz=>by simp at hz;rw[←hz];exact hv)]at hacc
      refine Again.os (k+1) [0,4] hlt (by omega) ?_
      simp -implicitDefEqProofs [e1,hacc]
   ·have hE:=hend.2 hn
    rw[hE]at hacc
    have hi:¬(k:Int)+1<ts.length:=by omega
    rcases List.eq_nil_or_concat L with rfl|⟨L',y,rfl⟩
    ·simp -implicitDefEqProofs [hlt,hg,ht,e1,hi,hi0]
     refine⟨by unfold maxLen;omega,?_⟩
     refine Again.os (k+1) [0,4] hlt (by omega) ?_
     simp -implicitDefEqProofs [e1,hacc,addPc]
    ·rw[List.concat_eq_append]at hacc hal⊢
     rw[List.length_append,List.length_singleton]at hal
     have e2:IntKind.i64.wrap (L'.length:Int)=(L'.length:Int):=wrap64 (by omega) (by omega)
     have hg2:=get_end Pc.ivVd L' (Pc.ivVd y)
     have hm:=fun g=>mod_end g (Pc.ivVd y) (L'.map Pc.ivVd)
     simp at hg2 hm
     simp -implicitDefEqProofs [hlt,hg,ht,e1,hi,hi0,e2,hg2,hm]
     refine⟨by omega,fun h1 h2=>⟨by omega,?_⟩,fun hne=>⟨⟨by omega,by unfold maxLen;omega⟩,?_⟩⟩
     ·have hv:y.v=F t:=by
       obtain⟨c,d,⟨u,w⟩⟩:=y
       generalize F t=H at*
       obtain⟨u',w'⟩:=H
       simp only at h1 h2
       rw[h1,h2]
      rw[←hv,addPc_ext]at hacc
      refine Again.os (k+1) [0,1] hlt (by omega) ?_
      simp -implicitDefEqProofs [e1,hacc]
     ·have hv:y.v≠F t:=fun e=>by rw[e]at hne;exact hne rfl rfl
      rw[addPc_new _ _ _ _ (fun z hz=>by simp at hz;rw[←hz];exact hv)]at hacc
      refine Again.os (k+1) [0,4] hlt (by omega) ?_
      simp -implicitDefEqProofs [e1,hacc]
  ·have hkk:k=ts.length:=by omega
   subst hkk
   have hfl:=accE_len F b ts ts.length
   generalize accE F b ts ts.length=L at*
   simp -implicitDefEqProofs
   refine⟨fun h=>?_,fun h=>?_⟩
   ·have hb:1024<L.length:=by omega
    refine EndZ.ret [] (.tup [.im (.sc (.slice none 0 0)),.int .i64 11]) (by simp) (by simp[hb])
   ·have hb:¬1024<L.length:=by omega
    refine EndZ.ret [1] (.tup [.row 1,.int .i64 0]) (by simp) (by simp[hb])
end Go.Am
namespace Go.Am
open Go.Proofs
set_option maxRecDepth 8000 in
set_option maxHeartbeats 4000000 in
theorem verdictsD_spec (p:Past) (r:Int) (six:Bool) (x:Addr4) (a b:Int) (hw:p.wf) (hx:x.wf):
  FSpec Tryz.prog 26 [p.av,.int .i64 r,.bool six,x.av,.agg [.int .i64 a,.int .i64 b]] []
   (.tup [.im (.sl 4 ((verdL p r six x a b).map Pc.ivVd)),.int .i64 (verdE p r six x a b)]) []:=by
 have h1:=askedVr_spec p r six x a b hw hx
 refine FSpec.of_z (q:=[(8,.m [.p [] [],.p [] [],.e [36,37],.p [0] [],.p [0] [],.p [0] [],.e [38,39,40,41],.p [] [],.p [] [],.p [] [],.a 0 2,.p [] []])]) Tryz.func26 (by kernel_rfl) rfl Tryz.ntmps26 Tryz.results26 hP (by kernel_rfl) (by simp) (by first|rfl|simp) ?_
 simp -implicitDefEqProofs
 first|refine CallK.same (h1) rfl rfl ?_|refine CallQ.same (h1) rfl rfl ?_|refine CallQG.same _ (h1) rfl ?_|refine CallG.same _ (h1) rfl ?_|refine CallK.pv (h1) rfl rfl ?_
 simp -implicitDefEqProofs
 refine⟨fun h=>?_,fun h=>?_⟩
 ·refine EndZ.ret [] (.tup [.im (.sc (.slice none 0 0)),.int .i64 (askV p r six x a b)]) (by simp) (by simp[verdL,verdE,h])
 obtain⟨hok,hr,ho,h3,h4,h5⟩:=askV_zero h
 have htm:=timesD_spec p a b hw (ask_timesW h) hok
 have hbd:∀t∈a::timesF p.evs a b,a≤t∧t≤b:=fun t ht=>by
  rcases List.mem_cons.1 ht with rfl|ht
  ·have:=oneI_le ho;omega
  ·have:=timesF_in ht;omega
 have hl:=okP_len hok
 have hl2:=timesF_len p.evs a b
 have hE:verdE p r six x a b=if 1024<(lineP p (fun n=>(wayN n six x r).2) a b).length then 11 else 0:=by unfold verdE;rw[if_pos h]
 have hL:verdL p r six x a b=if 1024<(lineP p (fun n=>(wayN n six x r).2) a b).length then[]else lineP p (fun n=>(wayN n six x r).2) a b:=by
  unfold verdL;rw[hE];split<;>simp
 have hlen:(a::timesF p.evs a b).length≤2000:=by simp;omega
 have hmk:=make20_spec (a::timesF p.evs a b) (fun t=>(wayN (thenF p t) six x r).2) a b ho rfl (times_pw _ a b) hbd hlen (fun t _=>by
  obtain⟨k1,k2,k3,k4⟩:=way_right (six:=six) (a:=x) (thenF_all hok t).2.2 h3 h4
  simp only[rightV,Bool.and_eq_true,decide_eq_true_eq]
  omega)
 rw[accE_p p (fun n=>(wayN n six x r).2) a b,←hE,←hL]at hmk
 generalize verdE p r six x a b=W at*
 generalize verdL p r six x a b=L at*
 clear hE hL
 generalize a::timesF p.evs a b=ts at*
 first|refine CallK.same (htm) rfl rfl ?_|refine CallQ.same (htm) rfl rfl ?_|refine CallQG.same _ (htm) rfl ?_|refine CallG.same _ (htm) rfl ?_|refine CallK.pv (htm) rfl rfl ?_
 simp -implicitDefEqProofs
 refine LoopK.nil (.sl 13 145 3) ?_
 simp -implicitDefEqProofs
 refine LoopK.os (fun k:Nat=>[(1,.int .i64 r),(2,.bool six),(5,.ptr 0 0),(8,.ptr 1 0),(9,.ptr 2 0),(13,.row 3),(29,.im (.sl 1 (rowN ts))),(30,.int .i64 ts.length),(31,.int .i64 k)])
  (fun k=>[pastO p,.box 31 [.int .u64 x.hi,.int .u64 x.lo],.box 43 [.int .i64 a,.int .i64 b],.row 145 3 ((ts.take k).map (markIv fun t=>(wayN (thenF p t) six x r).2))])
  (fun k=>k≤ts.length) (fun k=>ts.length-k) 0 [0,1,2,3] (Nat.zero_le _) (by simp) ?_
 intro k hk
 by_cases hlt:k<ts.length
 ·have e1:IntKind.i64.wrap (k+1)=(k+1:Nat):=wrap64 (by omega) (by omega)
  have hg:=rowN_get hlt
  have htk:ts.take (k+1)=ts.take k++[ts[k]]:=by rw[List.take_add_one,List.getElem?_eq_getElem hlt];rfl
  obtain⟨t,ht⟩:∃t,ts[k]=t:=⟨_,rfl⟩
  rw[ht]at hg htk
  have htk2:=congrArg (List.map (markIv fun t=>(wayN (thenF p t) six x r).2)) htk
  simp at htk2
  have g1:=thenr_spec p t hw.1 (fun e he=>(hw.2 e he).2) (by omega)
  have g2:FSpec Tryz.prog 61 [(thenF p t).av,.int .i64 r,.bool six,x.av] [] (.tup [.im (.sl 1 (rowI (wayN (thenF p t) six x r).1)),(wayN (thenF p t) six x r).2.av]) []:=way_spec (thenF p t) r six x (thenF_all hok t).2.2 (then_wf hw t) hx
  generalize hH:wayN (thenF p t) six x r=H at*
  generalize thenF p t=N at*
  simp -implicitDefEqProofs [hlt,hg,ht]
  first|refine CallK.same (g1) rfl rfl ?_|refine CallQ.same (g1) rfl rfl ?_|refine CallQG.same _ (g1) rfl ?_|refine CallG.same _ (g1) rfl ?_|refine CallK.pv (g1) rfl rfl ?_
  simp -implicitDefEqProofs
  first|refine CallK.same (g2) rfl rfl ?_|refine CallQ.same (g2) rfl rfl ?_|refine CallQG.same _ (g2) rfl ?_|refine CallG.same _ (g2) rfl ?_|refine CallK.pv (g2) rfl rfl ?_
  simp -implicitDefEqProofs
  refine⟨⟨by omega,by unfold maxLen;omega⟩,?_⟩
  refine Again.os (k+1) [0,1,2,6] hlt (by omega) ?_
  simp -implicitDefEqProofs [e1,htk2]
 ·have hkk:k=ts.length:=by omega
  subst hkk
  simp -implicitDefEqProofs
  refine CallK.outs [3] hmk rfl (by simp) (by simp[AV.flat]) ?_
  simp -implicitDefEqProofs
  refine EndZ.ret [] (.tup [.im (.sl 4 (L.map Pc.ivVd)),.int .i64 W]) (by simp) (by simp)
end Go.Am
namespace Go.Am
open Go.Proofs
attribute [local simp] kindsO
@[simp] def pkC (r:Int) (six:Bool) (x:Addr4):List AV:=[.int .i64 r,.bool six,.int .u64 x.hi,.int .u64 x.lo]
@[simp] def pkO (r:Int) (six:Bool) (x:Addr4):AObj:=.box 160 (pkC r six x)
def turnPk (m n:Net) (r:Int) (six:Bool) (x:Addr4):List Int:=(wayN m six x r).1.filter fun y=>decide (doesF m y six x≠doesF n y six x)
theorem turnPk_len (m n:Net) (r:Int) (six:Bool) (x:Addr4) (l:List Int):(l.filter fun y=>decide (doesF m y six x≠doesF n y six x)).length≤l.length:=List.length_filter_le _ _
set_option maxRecDepth 8000 in
set_option maxHeartbeats 4000000 in
theorem turnPk_spec (m n:Net) (r:Int) (six:Bool) (x:Addr4) (hm:netOk m=true) (hn:netOk n=true) (hmw:m.wf) (hnw:n.wf) (hx:x.wf) (hr:rightA six x=true) (hl:(wayN m six x r).1.length≤100000):
  FSpec Tryz.prog 163 [.agg (pkC r six x),m.av,n.av] [kindsO] (.im (.sl 1 (rowI (turnPk m n r six x)))) [kindsO]:=by
 have h1:=wayW_spec m six x r hmw hx (rightN_of hm hr)
 have g1:=fun y=>doesN_spec m y six x hm hmw hx hr
 have g2:=fun y=>doesN_spec n y six x hn hnw hx hr
 unfold turnPk
 generalize wayN m six x r=W at*
 obtain⟨W,v⟩:=W
 simp only at h1 hl
 refine FSpec.of_o (q:=[(6,.n 13)]) Tryz.func163 (by kernel_rfl) rfl Tryz.ntmps163 Tryz.results163 hP (by kernel_rfl) (by simp) (by first|rfl|simp) ?_
 simp -implicitDefEqProofs
 refine CallO.mk [] [0] h1 (by simp) rfl (by simp) (by simp) (by simp) ?_
 simp -implicitDefEqProofs
 refine LoopK.nil (.sl 9 3 1) ?_
 simp -implicitDefEqProofs
 refine LoopK.os (fun k:Nat=>[(3,.ptr 1 0),(4,.ptr 2 0),(5,.ptr 3 0),(9,.row 4),(23,.im (.sl 1 (rowI W))),(24,.int .i64 W.length),(25,.int .i64 k)])
  (fun k=>[kindsO,pkO r six x,.box 25 [.im (.sl 4 (m.seats.map Seat.iv)),.im (.sl 4 (m.routers.map Router.iv))],.box 25 [.im (.sl 4 (n.seats.map Seat.iv)),.im (.sl 4 (n.routers.map Router.iv))],
   .row 3 1 (rowI ((W.take k).filter fun y=>decide (doesF m y six x≠doesF n y six x)))])
  (fun k=>k≤W.length) (fun k=>W.length-k) 0 [0,1,2,3,5] (Nat.zero_le _) (by simp[rowI]) ?_
 intro k hk
 by_cases hlt:k<W.length
 ·have e1:IntKind.i64.wrap (k+1)=(k+1:Nat):=wrap64 (by omega) (by omega)
  have ht:W.take (k+1)=W.take k++[W[k]]:=by rw[List.take_add_one,List.getElem?_eq_getElem hlt];rfl
  obtain⟨y,hy⟩:∃y,W[k]=y:=⟨_,rfl⟩
  have hg:(rowI W)[k]? =some [.sc (.int .i64 y)]:=by simp[rowI,hlt,hy]
  rw[hy]at ht
  have hfl:=turnPk_len m n r six x (W.take k)
  rw[List.length_take]at hfl
  have ht2:((W.take (k+1)).filter fun y=>decide (doesF m y six x≠doesF n y six x))=((W.take k).filter fun y=>decide (doesF m y six x≠doesF n y six x))++(if doesF m y six x=doesF n y six x then[]else[y]):=by
   rw[ht,List.filter_append,List.filter_cons]
   by_cases h:doesF m y six x=doesF n y six x<;>simp[h]
  generalize ((W.take k).filter fun y=>decide (doesF m y six x≠doesF n y six x))=out at*
  have g1:=g1 y
  have g2:=g2 y
  generalize doesF m y six x=A at*
  generalize doesF n y six x=B at*
  simp -implicitDefEqProofs [hlt,hg,hy]
  first|refine CallK.same (g1) rfl rfl ?_|refine CallQ.same (g1) rfl rfl ?_|refine CallQG.same _ (g1) rfl ?_|refine CallG.same _ (g1) rfl ?_|refine CallK.pv (g1) rfl rfl ?_
  simp -implicitDefEqProofs
  first|refine CallK.same (g2) rfl rfl ?_|refine CallQ.same (g2) rfl rfl ?_|refine CallQG.same _ (g2) rfl ?_|refine CallG.same _ (g2) rfl ?_|refine CallK.pv (g2) rfl rfl ?_
  simp -implicitDefEqProofs
  refine⟨fun h=>⟨⟨by omega,by unfold maxLen;omega⟩,?_⟩,fun h1 h2=>?_⟩
  ·rw[if_neg (fun e=>by rw[e]at h;simp at h)]at ht2
   refine Again.os (k+1) [0,1,2,3,6] hlt (by omega) ?_
   simp -implicitDefEqProofs at ht2
   simp -implicitDefEqProofs [e1,ht2,rowI]
  ·rw[if_pos (Hop_ext h1 h2),List.append_nil]at ht2
   refine Again.os (k+1) [0,1,2,3,4] hlt (by omega) ?_
   simp -implicitDefEqProofs at ht2
   simp -implicitDefEqProofs [e1,ht2]
 ·have hkk:k=W.length:=by omega
  subst hkk
  simp -implicitDefEqProofs
  refine EndO.ret [4] [0] (.row 4) (by simp) ?_
  simp -implicitDefEqProofs
set_option maxRecDepth 8000 in
theorem verdPk1_spec (n:Net) (r:Int) (six:Bool) (x:Addr4) (hw:n.wf) (hok:netOk n=true) (hx:x.wf) (hr:rightA six x=true):
  FSpec Tryz.prog 164 [n.av,.ptr 1 0] [kindsO,pkO r six x] (wayN n six x r).2.av [kindsO,pkO r six x]:=by
 have h2:=wayW_spec n six x r hw hx (rightN_of hok hr)
 refine FSpec.of_o (q:=[]) Tryz.func164 (by kernel_rfl) rfl Tryz.ntmps164 Tryz.results164 hP (by kernel_rfl) (by simp) (by first|rfl|simp) ?_
 simp -implicitDefEqProofs
 refine CallO.mk [] [0] h2 (by simp) rfl (by simp) (by simp) (by simp) ?_
 simp -implicitDefEqProofs
 refine EndO.ret [] [0,1] (wayN n six x r).2.av (by simp) ?_
 simp
set_option maxRecDepth 8000 in
theorem verdPk_spec (p:Past) (r:Int) (six:Bool) (x:Addr4) (a b:Int) (hw:p.wf) (hx:x.wf) (ha:askV p r six x a b=0):
  FSpec Tryz.prog 88 [.agg (pkC r six x),p.av,.agg [.int .i64 a,.int .i64 b]] [kindsO] (.ptr 1 0) [kindsO,lineVd 2,rowVd (lineP p (fun n=>(wayN n six x r).2) a b)]:=by
 obtain⟨hok,hr,ho,h3,h4,h5⟩:=askV_zero ha
 have hl:=linePk_spec p a b 164 (fun n=>(wayN n six x r).2) r six x hok (fun e he=>(hw.2 e he).1) hw (fun n h1 h2=>verdPk1_spec n r six x h1 h2 hx hr) (fun t ht=>timesF_bd ho ht) (askV_T ha)
 generalize lineP p (fun n=>(wayN n six x r).2) a b=L at*
 refine FSpec.of_o (q:=[]) Tryz.func88 (by kernel_rfl) rfl Tryz.ntmps88 Tryz.results88 hP (by kernel_rfl) (by simp) (by first|rfl|simp) ?_
 simp -implicitDefEqProofs
 refine CallO.mk [] [0,1] hl (by simp) rfl (by simp) (by simp) (by simp) ?_
 simp -implicitDefEqProofs
 refine EndO.ret [] [0,4,5] (.ptr 4 0) (by simp) ?_
 simp -implicitDefEqProofs
end Go.Am
namespace Go.Am
open Go.Proofs
attribute [local simp] kindsO
@[simp] def stepIv (s:Int×List Int):List IV:=[.sc (.int .i64 s.1),.sl 1 (rowI s.2)]
def stepsPk (p:Past) (r:Int) (six:Bool) (x:Addr4) (L:List (Pc Verd)):List (Int×List Int):=L.tail.map fun y=>(y.a,turnPk (thenF p (y.a-1)) (thenF p y.a) r six x)
theorem wayN_len (n:Net) (six:Bool) (x:Addr4) (r:Int) (hn:netOk n=true):(wayN n six x r).1.length≤100000:=by
 have h1:=wayF_len (fun x_1=>doesF n x_1 six x) (2*n.routers.length+2) [r] r
 have h2:=netOk_len hn
 unfold wayN
 simp only[List.length_singleton]at h1
 omega
set_option maxRecDepth 8000 in
set_option maxHeartbeats 4000000 in
theorem stepsPk_spec (p:Past) (r:Int) (six:Bool) (x:Addr4) (L:List (Pc Verd)) (a b:Int) (hw:p.wf) (hx:x.wf) (ha:askV p r six x a b=0) (ht:Tile a none L (b+1)) (hl:L.length≤2000):
  FSpec Tryz.prog 87 [.agg (pkC r six x),p.av,.ptr 1 0] [kindsO,lineVd 2,rowVd L] (.im (.sl 2 ((stepsPk p r six x L).map stepIv))) [kindsO,lineVd 2,rowVd L]:=by
 obtain⟨hok,hr,ho,h3,h4,h5⟩:=askV_zero ha
 have hab:=oneI_le ho
 have hi:=tile_at ht
 refine FSpec.of_o (q:=[]) Tryz.func87 (by kernel_rfl) rfl Tryz.ntmps87 Tryz.results87 hP (by kernel_rfl) (by simp) (by first|rfl|simp) ?_
 simp -implicitDefEqProofs
 refine LoopK.nil (.sl 7 166 2) ?_
 simp -implicitDefEqProofs
 refine LoopK.os (fun k:Nat=>[(3,.ptr 3 0),(4,.ptr 4 0),(7,.row 5),(18,.row 2),(19,.int .i64 L.length),(20,.int .i64 k)])
  (fun k=>[kindsO,lineVd 2,rowVd L,pkO r six x,pastO p,.row 166 2 ((stepsPk p r six x (L.take k)).map stepIv)])
  (fun k=>k≤L.length) (fun k=>L.length-k) 0 [0,1,2,3,4,5] (Nat.zero_le _) (by simp[stepsPk]) ?_
 intro k hk
 by_cases hlt:k<L.length
 ·have e1:IntKind.i64.wrap (k+1)=(k+1:Nat):=wrap64 (by omega) (by omega)
  obtain⟨i1,i2,i3,_⟩:=hi k hlt
  have htk:L.take (k+1)=L.take k++[L[k]]:=by rw[List.take_add_one,List.getElem?_eq_getElem hlt];rfl
  obtain⟨y,hy⟩:∃y,L[k]=y:=⟨_,rfl⟩
  rw[hy]at htk i1 i2 i3
  cases k with
  |zero=>
   simp -implicitDefEqProofs [hlt,hy]
   refine Again.os 1 [0,1,2,3,4,5] hlt (by omega) ?_
   simp -implicitDefEqProofs [show IntKind.i64.wrap 1=1 by decide,stepsPk,htk]
  |succ j=>
   have hst:stepsPk p r six x (L.take (j+1+1))=stepsPk p r six x (L.take (j+1))++[(y.a,turnPk (thenF p (y.a-1)) (thenF p y.a) r six x)]:=by
    unfold stepsPk
    rw[htk]
    cases L with
    |nil=>simp at hlt
    |cons z L=>simp
   have hsl:(stepsPk p r six x (L.take (j+1))).length≤2000:=by
    unfold stepsPk
    simp
    omega
   obtain⟨_,_,_,_,_,i6⟩:=hi (j+1) hlt
   obtain⟨i7,_⟩:=i6 j (by omega) rfl
   obtain⟨z1,z2,_⟩:=hi j (by omega)
   rw[hy]at i7
   have hya:a<y.a:=by omega
   have e3:IntKind.i64.wrap (y.a-1)=y.a-1:=wrap64 (by omega) (by omega)
   have hT:∀t,a≤t→t≤b→askT p t=0:=fun t h1 h2=>by unfold askT;rw[if_neg (by omega),if_neg (by omega)]
   have hA:∀t,a≤t→t≤b→FSpec Tryz.prog 30 [p.av,.int .i64 t] [] (.tup [(thenF p t).av,.int .i64 0]) []:=fun t h1 h2=>by
    have h6:=atO_spec p t (fun e he=>(hw.2 e he).1)
    rw[if_pos hok,if_pos ⟨hok,hT t h1 h2⟩,hT t h1 h2]at h6
    exact h6
   have g1:=hA (y.a-1) (by omega) (by omega)
   have g2:=hA y.a (by omega) (by omega)
   have g3:=turnPk_spec (thenF p (y.a-1)) (thenF p y.a) r six x (thenF_all hok _).2.2 (thenF_all hok _).2.2 (then_wf hw _) (then_wf hw _) hx hr (wayN_len _ six x r (thenF_all hok _).2.2)
   generalize turnPk (thenF p (y.a-1)) (thenF p y.a) r six x=U at*
   generalize thenF p (y.a-1)=M at*
   generalize thenF p y.a=N at*
   generalize stepsPk p r six x (L.take (j+1))=out at*
   have hi1:(j:Int)+1<L.length:=by omega
   have hi0:¬(j:Int)+1=0:=by omega
   have hi0':0≤(j:Int)+1:=by omega
   simp -implicitDefEqProofs [hlt,hy,e3,hi1,hi0]
   refine⟨hi0',?_⟩
   refine CallK.v0 g1 rfl (by simp) rfl ?_
   simp -implicitDefEqProofs
   refine CallK.v0 g2 rfl (by simp) rfl ?_
   simp -implicitDefEqProofs
   refine CallO.mk [] [0] g3 (by simp) rfl (by simp) (by simp) (by simp) ?_
   simp -implicitDefEqProofs
   refine⟨⟨by omega,by unfold maxLen;omega⟩,?_⟩
   refine Again.os (j+1+1) [0,1,2,3,4,10] hlt (by omega) ?_
   simp -implicitDefEqProofs at e1
   simp -implicitDefEqProofs [e1,hst]
 ·have hkk:k=L.length:=by omega
  subst hkk
  simp -implicitDefEqProofs
  refine EndO.ret [5] [0,1,2] (.row 5) (by simp) ?_
  simp -implicitDefEqProofs
end Go.Am
