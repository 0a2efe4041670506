import Derived.Test.YtcognmloglhpcaaGreatDoorWC3
import Derived.Test.YtcognmloglhpcaaGreatDoorWC4
import Derived.Test.YtcognmloglhpcaaGreatDoorWC6
import Derived.Test.YtcognmloglhpcaaGreatDoorWC7
set_option linter.unusedVariables false
set_option linter.unusedSimpArgs false
set_option linter.unusedSectionVars false
namespace Go.Am
open Go.Proofs
@[simp] theorem kmap_nil {β:Type} (f:β→AV):kmap f []=[]:=rfl
@[simp] theorem renM_nil (ρ:Nat→Nat):renM ρ ([]:List (Int×AV))=[]:=rfl
def idsN (n:Net):List Int:=n.routers.map Router.id
def hopN (n:Net) (six:Bool) (a:Addr4):Int→Hop:=fun x=>doesF n x six a
theorem hopN_out {n:Net} {six:Bool} {a:Addr4} {x:Int} (h:x∉idsN n):hopN n six a x=⟨0,0⟩:=by
 unfold hopN doesF
 cases hr:routerF n.routers x with
 |none=>rfl
 |some r=>
  exfalso
  have hm:=List.mem_of_find?_eq_some hr
  have hp:=List.find?_some hr
  simp at hp
  exact h (List.mem_map.2 ⟨r,hm,hp⟩)
theorem hopN_moves (n:Net) (six:Bool) (a:Addr4) (x:Int) (h:moves (hopN n six a) x):x∈idsN n:=by
 apply Classical.byContradiction
 intro hx
 rw[moves,hopN_out hx]at h
 exact h.1 rfl
theorem hopF_kind (r:Router) (six:Bool) (a:Addr4):(hopF r six a).kind=0∨(hopF r six a).kind=1∨(hopF r six a).kind=2∨(hopF r six a).kind=3:=by
 unfold hopF
 repeat' split
 all_goals simp
theorem hopN_kind (n:Net) (six:Bool) (a:Addr4) (x:Int):(hopN n six a x).kind=0∨(hopN n six a x).kind=1∨(hopN n six a x).kind=2∨(hopN n six a x).kind=3:=by
 unfold hopN doesF
 split
 ·simp
 ·exact hopF_kind _ _ _
end Go.Am
namespace Go.Am
open Go.Proofs
theorem wayN_goes (n:Net) (six:Bool) (a:Addr4) (r:Int):Goes (hopN n six a) [r] r (wayN n six a r):=by
 have h1:roundsI (idsN n) [r]≤(idsN n).length:=List.countP_le_length
 have h2:(idsN n).length=n.routers.length:=by simp[idsN]
 exact wayF_goes (hopN_moves n six a) _ _ _ (by simp) (by omega)
end Go.Am
namespace Go.Am
open Go.Proofs
end Go.Am
namespace Go.Proofs
end Go.Proofs
namespace Go.Am
open Go.Proofs
end Go.Am
namespace Go.Am
open Go.Proofs
end Go.Am
namespace Go.Am
open Go.Proofs
end Go.Am
namespace Go.Proofs
end Go.Proofs
namespace Go.Am
open Go.Proofs
end Go.Am
namespace Go.Am
open Go.Proofs
end Go.Am
namespace Go.Am
open Go.Proofs
end Go.Am
namespace Go.Am
open Go.Proofs
end Go.Am
namespace Go.Am
open Go.Proofs
theorem rows_of {α:Type} {f:α→List IV} {Q:α→Prop} {l:List Sh} (h:∀y,Sh.hasL l y→∃a,Q a∧y=f a):∀xs:List (List IV),(∀y∈xs,Sh.hasL l y)→∃zs:List α,xs=zs.map f∧∀a∈zs,Q a
 |[],_=>⟨[],rfl,fun a ha=>by cases ha⟩
 |x::xs,hx=>by
  obtain⟨a,h1,h2⟩:=h x (hx x List.mem_cons_self)
  obtain⟨zs,h3,h4⟩:=rows_of h xs fun y hy=>hx y (List.mem_cons_of_mem _ hy)
  exact⟨a::zs,by rw[h2,h3];rfl,fun b hb=>by
   rcases List.mem_cons.1 hb with rfl|hb
   ·exact h1
   ·exact h4 b hb⟩
theorem hasL_cons {s:Sh} {l:List Sh} {xs:List IV} (h:Sh.hasL (s::l) xs):∃y ys,xs=y::ys∧s.has y∧Sh.hasL l ys:=by simpa only[Sh.hasL]using h
theorem hasL_nil {xs:List IV} (h:Sh.hasL [] xs):xs=[]:=by simpa only[Sh.hasL]using h
theorem has_int {q:IntKind} {x:IV} (h:(Sh.int q).has x):∃n:Int,x=.sc (.int q n)∧(Lit.int q n).wf=true:=by simpa only[Sh.has]using h
theorem has_bool {x:IV} (h:Sh.bool.has x):∃b:Bool,x=.sc (.bool b):=by simpa only[Sh.has]using h
theorem has_sl {l:List Sh} {x:IV} (h:(Sh.sl l).has x):∃xs:List (List IV),x=.sl l.length xs∧∀y∈xs,Sh.hasL l y:=by simpa only[Sh.has]using h
theorem u64_wf {n:Int} (h:(Lit.int .u64 n).wf=true):0≤n∧n<18446744073709551616:=by
 simp[Lit.wf,IntKind.min,IntKind.max,IntKind.signed,IntKind.bits]at h
 omega
def seatSh:List Sh:=[.int .i64,.int .u64,.int .i64,.bool]
def routeSh:List Sh:=[.bool,.int .u64,.int .u64,.int .i64,.int .u8,.int .i64]
def linkSh:List Sh:=[.int .i64,.int .i64]
def routerSh:List Sh:=[.int .i64,.bool,.sl routeSh,.sl linkSh]
def addrSh:List Sh:=[.int .u64,.int .u64]
theorem seat_of (y:List IV) (h:Sh.hasL seatSh y):∃s:Seat,True∧y=s.iv:=by
 obtain⟨a,_,rfl,ha,h⟩:=hasL_cons h
 obtain⟨b,_,rfl,hb,h⟩:=hasL_cons h
 obtain⟨c,_,rfl,hc,h⟩:=hasL_cons h
 obtain⟨d,_,rfl,hd,h⟩:=hasL_cons h
 cases hasL_nil h
 obtain⟨a,rfl,_⟩:=has_int ha
 obtain⟨b,rfl,_⟩:=has_int hb
 obtain⟨c,rfl,_⟩:=has_int hc
 obtain⟨d,rfl⟩:=has_bool hd
 exact⟨⟨a,b,c,d⟩,trivial,rfl⟩
theorem link_of (y:List IV) (h:Sh.hasL linkSh y):∃s:Link,True∧y=s.iv:=by
 obtain⟨a,_,rfl,ha,h⟩:=hasL_cons h
 obtain⟨b,_,rfl,hb,h⟩:=hasL_cons h
 cases hasL_nil h
 obtain⟨a,rfl,_⟩:=has_int ha
 obtain⟨b,rfl,_⟩:=has_int hb
 exact⟨⟨a,b⟩,trivial,rfl⟩
theorem route_of (y:List IV) (h:Sh.hasL routeSh y):∃s:Route,s.pfx.addr.wf∧y=s.iv:=by
 obtain⟨a,_,rfl,ha,h⟩:=hasL_cons h
 obtain⟨b,_,rfl,hb,h⟩:=hasL_cons h
 obtain⟨c,_,rfl,hc,h⟩:=hasL_cons h
 obtain⟨d,_,rfl,hd,h⟩:=hasL_cons h
 obtain⟨e,_,rfl,he,h⟩:=hasL_cons h
 obtain⟨f,_,rfl,hf,h⟩:=hasL_cons h
 cases hasL_nil h
 obtain⟨a,rfl⟩:=has_bool ha
 obtain⟨b,rfl,wb⟩:=has_int hb
 obtain⟨c,rfl,wc⟩:=has_int hc
 obtain⟨d,rfl,_⟩:=has_int hd
 obtain⟨e,rfl,_⟩:=has_int he
 obtain⟨f,rfl,_⟩:=has_int hf
 exact⟨⟨⟨a,⟨b,c⟩,d⟩,⟨e,f⟩⟩,⟨(u64_wf wb).1,(u64_wf wb).2,u64_wf wc⟩,rfl⟩
theorem router_of (y:List IV) (h:Sh.hasL routerSh y):∃s:Router,s.wf∧y=s.iv:=by
 obtain⟨a,_,rfl,ha,h⟩:=hasL_cons h
 obtain⟨b,_,rfl,hb,h⟩:=hasL_cons h
 obtain⟨c,_,rfl,hc,h⟩:=hasL_cons h
 obtain⟨d,_,rfl,hd,h⟩:=hasL_cons h
 cases hasL_nil h
 obtain⟨a,rfl,_⟩:=has_int ha
 obtain⟨b,rfl⟩:=has_bool hb
 obtain⟨c,rfl,wc⟩:=has_sl hc
 obtain⟨d,rfl,wd⟩:=has_sl hd
 obtain⟨rs,rfl,hr⟩:=rows_of route_of c wc
 obtain⟨ls,rfl,_⟩:=rows_of link_of d wd
 exact⟨⟨a,b,rs,ls⟩,hr,rfl⟩
theorem addr_of (y:List IV) (h:Sh.hasL addrSh y):∃a:Addr4,a.wf∧y.map AV.im=[.int .u64 a.hi,.int .u64 a.lo]:=by
 obtain⟨a,_,rfl,ha,h⟩:=hasL_cons h
 obtain⟨b,_,rfl,hb,h⟩:=hasL_cons h
 cases hasL_nil h
 obtain⟨a,rfl,wa⟩:=has_int ha
 obtain⟨b,rfl,wb⟩:=has_int hb
 exact⟨⟨a,b⟩,⟨(u64_wf wa).1,(u64_wf wa).2,u64_wf wb⟩,rfl⟩
theorem hasArgs_cons {s:List Sh} {l:List (List Sh)} {xs:List (List IV)} (h:hasArgs (s::l) xs):∃y ys,xs=y::ys∧Sh.hasL s y∧hasArgs l ys:=h
end Go.Am
namespace Go.Am
open Go.Proofs
end Go.Am
namespace Go.Am
open Go.Proofs
end Go.Am
namespace Go.Am
open Go.Proofs
end Go.Am
namespace Go.Am
open Go.Proofs
theorem Goes.kind {H:Int→Hop} {W:List Int} {r:Int} {res:List Int×Verd} (h:Goes H W r res):res.2.kind=1∨res.2.kind=2∨res.2.kind=3∨res.2.kind=4:=by
 induction h with
 |ends h=>
  simp only[endsF]
  repeat' split
  all_goals simp
 |again h hp=>simp
 |step _ _ _ ih=>exact ih
end Go.Am
namespace Go.Am
open Go.Proofs
end Go.Am
namespace Go.Am
open Go.Proofs
structure WInv (H:Int→Hop) (ids:List Int) (res:List Int×Verd) (l:List Int) (r:Int):Prop where
 mv:∀x∈l,moves H x
 len:l.length+roundsI ids l≤ids.length
 go:(r∉l∧Goes H (l++[r]) r res)∨(r∈l∧res=(l++[r],⟨4,r⟩))
theorem WInv.start {H:Int→Hop} {ids:List Int} {res:List Int×Verd} {r:Int} (h:Goes H [r] r res):WInv H ids res [] r where
 mv:=fun x hx=>(by cases hx)
 len:=by have:roundsI ids []≤ids.length:=List.countP_le_length;simpa using this
 go:=.inl ⟨by simp,h⟩
theorem WInv.seen {H:Int→Hop} {ids:List Int} {res:List Int×Verd} {l:List Int} {r:Int} (h:WInv H ids res l r) (hr:r∈l):res=(l++[r],⟨4,r⟩)∧moves H r:=by
 rcases h.go with⟨h1,_⟩|⟨_,h2⟩
 ·exact absurd hr h1
 ·exact⟨h2,h.mv r hr⟩
theorem WInv.stop {H:Int→Hop} {ids:List Int} {res:List Int×Verd} {l:List Int} {r:Int} (h:WInv H ids res l r) (hr:r∉l) (hm:¬moves H r):res=(l++[r],endsF (H r) r):=by
 rcases h.go with⟨_,h1⟩|⟨h1,_⟩
 ·exact h1.det (.ends hm)
 ·exact absurd h1 hr
theorem WInv.next {H:Int→Hop} {ids:List Int} {res:List Int×Verd} {l:List Int} {r:Int} (h:WInv H ids res l r) (hl:∀x,moves H x→x∈ids) (hr:r∉l) (hm:moves H r):
  WInv H ids res (l++[r]) (H r).peer∧roundsI ids (l++[r])<roundsI ids l:=by
 have hst:=roundsI_step (hl r hm) hr
 refine⟨{mv:=fun x hx=>?_,len:=?_,go:=?_},hst⟩
 ·rcases List.mem_append.1 hx with hx|hx
  ·exact h.mv x hx
  ·rw[List.mem_singleton]at hx;subst hx;exact hm
 ·have:=h.len;simp;omega
 ·rcases h.go with⟨_,h1⟩|⟨h1,_⟩
  ·generalize hW:l++[r]=W at h1
   cases h1 with
   |ends h'=>exact absurd hm h'
   |again _ hp=>right;subst hW;exact⟨hp,rfl⟩
   |step _ hp hs=>left;subst hW;exact⟨hp,hs⟩
  ·exact absurd h1 hr
def kindsIV:List IV:=[.sc (.int .u8 3),.sc (.int .u8 4),.sc (.int .u8 1),.sc (.int .u8 2)]
def kindsO:AObj:=.gl [(0,kindsIV)]
def tripC (n:Net) (six:Bool) (a:Addr4):List AV:=[.im (.sl 4 (n.seats.map Seat.iv)),.im (.sl 4 (n.routers.map Router.iv)),.bool six,.int .u64 a.hi,.int .u64 a.lo]
theorem steps_spec (n:Net) (six:Bool) (a:Addr4) (r:Int):FSpec Tryz.prog 162 [.ptr 0 0,.int .i64 r] [.box 238 (tripC n six a)] (.fn 227 [.ptr 1 0,.ptr 2 0])
  [.box 238 (tripC n six a),.box 155 [.ptr 0 0],.box 3 [.int .i64 r]]:=by
 refine FSpec.of_o (q:=[]) Tryz.func162 (by kernel_rfl) rfl Tryz.ntmps162 Tryz.results162 hP (by kernel_rfl) (by simp) (by first|rfl|simp) ?_
 simp
 refine EndO.ret [] [0,1,2] _ rfl ?_
 simp[tripC]
theorem start_spec (n:Net) (six:Bool) (a:Addr4) (r:Int) (ha:a.wf) (h1:rightN n six a=true) (h2:0≤r∧r≤1048576):
  FSpec Tryz.prog 85 [n.av,.int .i64 r,.bool six,a.av] [] (.tup [.ptr 0 0,.int .i64 0]) [.box 238 (tripC n six a)]:=by
 have e1:netOk n=true:=by unfold rightN at h1;simp at h1;exact h1.1
 have e2:rightA six a=true:=by unfold rightN at h1;simp at h1;exact h1.2
 refine FSpec.of_o (q:=[]) Tryz.func85 (by kernel_rfl) rfl Tryz.ntmps85 Tryz.results85 hP (by kernel_rfl) (by simp) (by first|rfl|simp) ?_
 simp
 first|refine CallK.same (checkN_spec n) rfl rfl ?_|refine CallQ.same (checkN_spec n) rfl rfl ?_|refine CallQG.same _ (checkN_spec n) rfl ?_|refine CallG.same _ (checkN_spec n) rfl ?_|refine CallK.pv (checkN_spec n) rfl rfl ?_
 simp[e1]
 first|refine CallK.same (rightA_spec six a) rfl rfl ?_|refine CallQ.same (rightA_spec six a) rfl rfl ?_|refine CallQG.same _ (rightA_spec six a) rfl ?_|refine CallG.same _ (rightA_spec six a) rfl ?_|refine CallK.pv (rightA_spec six a) rfl rfl ?_
 simp[e2,show ¬r<0 by omega,show ¬r>1048576 by omega]
 refine EndO.ret [] [2] _ rfl ?_
 simp[tripC]
end Go.Am
namespace Go.Am
open Go.Proofs
def seenK (l:List Int):List (Int×Bool):=l.foldl (fun K x=>kput K x true) []
theorem seenK_snoc (l:List Int) (x:Int):seenK (l++[x])=kput (seenK l) x true:=by simp[seenK]
theorem kget_seen (l:List Int) (y:Int):kget (seenK l) y=if y∈l then some true else none:=by
 have key:∀(l:List Int) (K:List (Int×Bool)),kget (l.foldl (fun K x=>kput K x true) K) y=if y∈l then some true else kget K y:=by
  intro l
  induction l with
  |nil=>intro K;simp
  |cons x l ih=>
   intro K
   rw[List.foldl_cons,ih,kget_put]
   by_cases h1:y∈l
   ·simp[h1]
   ·by_cases h2:y=x<;>simp[h1,h2]
 exact key l []
def bAV (b:Bool):AV:=.bool b
theorem ren_bmap (ρ:Nat→Nat):∀K:List (Int×Bool),renM ρ (kmap bAV K)=kmap bAV K
 |[]=>rfl
 |(k,b)::K=>by
  have ih:=ren_bmap ρ K
  simp only[kmap,List.map_cons,renM]at ih⊢
  rw[ih];rfl
theorem rowI_snoc (l:List Int) (x:Int):rowI (l++[x])=rowI l++[[.sc (.int .i64 x)]]:=by simp[rowI]
theorem endRd_exit {a:Go.Act} {b:Nat} {r:Loop} {szI:Nat} {k:Bool→St→Prop} {f:List (Nat×AV)} {o:List (Nat×AObj)} {n sz:Nat} {g:Option Bool} {frI:List (Nat×AV)} (i n3 n2:Nat) (h3:look o n3=some (.sv a frI)) (h2:look o n2=some (.lp b r .busy none))
  (h:k false ⟨frI,(n2,.lp b r .done (some (.exit i)))::o,n,szI,g⟩):endRd a b r szI k (.exit i) ⟨f,o,n,sz,g⟩:=⟨n3,frI,n2,h3,h2,h⟩
set_option maxRecDepth 8000 in
set_option maxHeartbeats 4000000 in
theorem way1_spec (n:Net) (six:Bool) (a:Addr4) (r:Int) (hw:n.wf) (ha:a.wf) (h1:rightN n six a=true):
  FSpec Tryz.prog 86 [.ptr 1 0,.int .i64 r] [kindsO,.box 238 (tripC n six a)] (.tup [.im (.sl 1 (rowI (wayN n six a r).1)),(wayN n six a r).2.av]) [kindsO,.box 238 (tripC n six a)]:=by
 have g1:netOk n=true:=by unfold rightN at h1;simp at h1;exact h1.1
 have g2:rightA six a=true:=by unfold rightN at h1;simp at h1;exact h1.2
 have hlen:=netOk_len g1
 have hids:(idsN n).length=n.routers.length:=by simp[idsN]
 refine FSpec.of_o (q:=[(7,.m [.p [1] [],.p [] [],.e [19],.e [18,20],.p [0,1,3] [],.e [6,21]]),(10,.n 13)]) Tryz.func86 (by kernel_rfl) rfl Tryz.ntmps86 Tryz.results86 hP (by kernel_rfl) (by simp) (by first|rfl|simp) ?_
 simp[tripC,kindsO]
 refine CallO.mk [] [1] (steps_spec n six a r) (by simp) rfl (by simp[tripC]) (by simp[tripC]) (by simp[tripC]) ?_
 simp[tripC]
 simp[rangeK]
 intro a0 b rr
 refine⟨_,_,_,[(0,.m [.p [] [],.p [] [],.p [] [],.p [] [],.p [] [],.p [] [],.p [] [],.p [] [],.p [] [],.p [] [],.p [] [],.p [] [],.p [] [],.e [8,9,13,17],.a 0 1])],Tryz.func227,(by kernel_rfl),rfl,Tryz.ntmps227,Tryz.results227,(by kernel_rfl),(by simp),?_⟩
 simp
 refine LoopK.nil (.cl 3 0 3 1) ?_
 simp
 refine LoopK.os (fun g:List Int×Int=>[(0,.yld 11),(1,.ptr 8 0),(2,.ptr 9 0)])
  (fun g=>[.gl [(0,kindsIV)],.box 238 (tripC n six a),.box 35 [.int .u8 0,.int .i64 0],.box 32 [.row 4],.row 3 1 (rowI g.1),.mp .i64 (kmap bAV (seenK g.1)),.box 223 [.map 5],.box 171 [.undef,.undef],.box 155 [.ptr 1 0],.box 3 [.int .i64 g.2],.sv a0 [(8,.ptr 7 0),(7,.ptr 6 0),(6,.ptr 3 0),(5,.ptr 2 0)],.lp b rr .ready none])
  (fun g=>WInv (hopN n six a) (idsN n) (wayN n six a r) g.1 g.2) (fun g=>roundsI (idsN n) g.1) ([],r) [0,1,2,3,11,4,5,6,7,8,9,10] (WInv.start (wayN_goes n six a r)) (by simp[rowI,seenK,kmap,renM,tripC];rintro _ _ (⟨rfl,rfl⟩|⟨rfl,rfl⟩|⟨rfl,rfl⟩|⟨rfl,rfl⟩)<;>rfl) ?_
 rintro⟨l,p⟩ hI
 simp only at hI
 have hll:=hI.len
 simp[tripC]
 first|refine CallK.same (doesN_spec n p six a g1 hw ha g2) rfl rfl ?_|refine CallQ.same (doesN_spec n p six a g1 hw ha g2) rfl rfl ?_|refine CallQG.same _ (doesN_spec n p six a g1 hw ha g2) rfl ?_|refine CallG.same _ (doesN_spec n p six a g1 hw ha g2) rfl ?_|refine CallK.pv (doesN_spec n p six a g1 hw ha g2) rfl rfl ?_
 have hkind:=hopN_kind n six a p
 have hseen:=kget_seen l p
 have hmg:=mget_kmap bAV (seenK l) p
 have hput:=mput_kmap bAV (seenK l) p true
 have hs1:=hI.seen
 have hs2:=hI.stop
 have hs3:=hI.next (hopN_moves n six a)
 unfold hopN at hkind hs1 hs2 hs3
 try simp only at hs1 hs2 hs3
 try simp only at hkind
 have hmv:∀x,moves (fun x=>doesF n x six a) x↔¬(doesF n x six a).kind=0∧¬(doesF n x six a).kind=2∧¬(doesF n x six a).kind=3:=fun x=>Iff.rfl
 rw[hmv]at hs1 hs2 hs3
 generalize wayN n six a r=W at*
 generalize doesF n p six a=h at*
 simp
 refine⟨10,_,rfl,rfl,rfl,fun aI=>?_⟩
 simp[putL,asgK]
 refine⟨11,by simp,?_⟩
 simp
 refine⟨⟨by omega,by unfold maxLen;omega⟩,?_⟩
 have e1:IntKind.i64.wrap (l.length:Int)=(l.length:Int):=wrap64 (by omega) (by omega)
 have hgl:(rowI l++[[IV.sc (Value.int .i64 p)]])[l.length]? =some [.sc (.int .i64 p)]:=by
  rw[List.getElem?_append_right (by simp[rowI])];simp[rowI]
 have hlt:(l.length:Int)<(l.length:Int)+1:=by omega
 by_cases hp:p∈l
 ·rw[if_pos hp]at hseen
  rw[hseen]at hmg
  obtain⟨hW,hk0,hk2,hk3⟩:=hs1 hp
  have hk1:h.kind=1:=by omega
  simp[hmg,bAV]
  refine endRd_exit 0 13 11 (by simp;rfl) (by simp) ?_
  simp
  refine⟨10,_,11,.done,some (.exit 0),rfl,rfl,.inr rfl,?_⟩
  simp[pendK,hk1,kindsIV,e1,hgl,hlt]
  refine EndO.ret [16] [0,1] (.tup [.row 16,.agg [.int .u8 4,.int .i64 p]]) (by simp) ?_
  simp[hW,rowI_snoc,kindsIV,tripC]
 ·rw[if_neg hp]at hseen
  rw[hseen]at hmg
  simp only[bAV]at hput
  simp[hmg,hput]
  refine endRd_normal 13 11 (by simp;rfl) (by simp) ?_
  simp
  refine⟨fun hk1=>?_,fun hk1=>?_⟩
  ·have hW:=hs2 hp (by omega)
   refine⟨10,_,11,.ready,none,rfl,rfl,.inl rfl,?_⟩
   rcases hkind with hk|hk|hk|hk
   ·simp[pendK,hk,kindsIV,e1,hgl,hlt]
    refine EndO.ret [16] [0,1] (.tup [.row 16,.agg [.int .u8 3,.int .i64 p]]) (by simp) ?_
    simp[hW,rowI_snoc,kindsIV,tripC,endsF,hk]
   ·exact absurd hk hk1
   ·simp[pendK,hk,kindsIV,e1,hgl,hlt]
    refine EndO.ret [16] [0,1] (.tup [.row 16,.agg [.int .u8 1,.int .i64 p]]) (by simp) ?_
    simp[hW,rowI_snoc,kindsIV,tripC,endsF,hk]
   ·simp[pendK,hk,kindsIV,e1,hgl,hlt]
    refine EndO.ret [16] [0,1] (.tup [.row 16,.agg [.int .u8 2,.int .i64 p]]) (by simp) ?_
    simp[hW,rowI_snoc,kindsIV,tripC,endsF,hk]
  ·obtain⟨hI',hst⟩:=hs3 hp (by omega)
   refine Again.os (l++[p],h.peer) [0,1,2,3,16,5,6,7,8,9,10,11] hI' hst ?_
   simp[rowI_snoc,seenK_snoc,renM,tripC]
   refine⟨(ren_bmap _ _).symm,?_⟩
   rintro _ _ (⟨rfl,rfl⟩|⟨rfl,rfl⟩|⟨rfl,rfl⟩|⟨rfl,rfl⟩)<;>rfl
theorem walk_spec (n:Net) (six:Bool) (a:Addr4) (r:Int) (hw:n.wf) (ha:a.wf) (h1:rightN n six a=true) (h2:0≤r∧r≤1048576):
  FSpec Tryz.prog 31 [n.av,.int .i64 r,.bool six,a.av] [kindsO] (.tup [.im (.sl 1 (rowI (wayN n six a r).1)),(wayN n six a r).2.av,.int .i64 0]) [kindsO]:=by
 refine FSpec.of_o (q:=[(5,.n 3)]) Tryz.func31 (by kernel_rfl) rfl Tryz.ntmps31 Tryz.results31 hP (by kernel_rfl) (by simp) (by first|rfl|simp) ?_
 simp[kindsO]
 refine CallK.outs [] (start_spec n six a r ha h1 h2) rfl ?_ ?_ ?_
 ·simp
 ·simp[AV.flat]
 simp[tripC]
 refine CallO.mk [] [0,4] (way1_spec n six a r hw ha h1) (by simp) rfl (by simp[kindsO,tripC]) (by simp[kindsO,tripC]) (by simp[kindsO,tripC]) ?_
 simp[kindsO,tripC]
 refine EndO.ret [] [0] (.tup [.im (.sl 1 (rowI (wayN n six a r).1)),(wayN n six a r).2.av,.int .i64 0]) (by simp) ?_
 simp
end Go.Am
namespace Go.Am
open Go.Proofs
def Past.wf (p:Past):Prop:=p.base.wf∧∀e∈p.evs,0≤e.seq∧e.pfx.addr.wf
def earlyP (p:Past):Bool:=decide (p.hz< -1)||decide (1099511627776<p.hz)||!netOk p.base||decide (1024<p.evs.length)
def lateP (p:Past):Bool:=p.base.seats.any fun s=>decide (p.hz<s.time)
def nowD (p:Past):Net:=if earlyP p||lateP p then net0 else nowP p
theorem allN_ok {n:Net} {l:List Ev} {hz:Int} (h:(allN n l hz).2.2=0):netOk n=true:=by
 cases hn:netOk n with
 |true=>rfl
 |false=>unfold allN at h;rw[if_pos hn]at h;cases h
theorem okP_eq (p:Past):okP p=(!earlyP p&&!lateP p&&decide ((allN p.base p.evs p.hz).2.2=0)&&decide (weightF p≤1024)):=by
 unfold okP earlyP lateP
 by_cases h:(allN p.base p.evs p.hz).2.2=0
 ·rw[allN_ok h]
  by_cases h1:p.hz< -1
  ·have:¬ -1≤p.hz:=by omega
   simp[h1,this]
  ·have h1': -1≤p.hz:=by omega
   by_cases h2:1099511627776<p.hz
   ·have:¬p.hz≤1099511627776:=by omega
    simp[h2,this]
   ·have h2':p.hz≤1099511627776:=by omega
    by_cases h3:1024<p.evs.length
    ·have:¬p.evs.length≤1024:=by omega
     simp[h3,this]
    ·have h3':p.evs.length≤1024:=by omega
     simp[h1,h2,h3,h1',h2',h3',h]
 ·simp[h]
set_option maxRecDepth 8000 in
set_option maxHeartbeats 4000000 in
theorem nowr_spec (p:Past) (hw:p.wf):FSpec Tryz.prog 133 [p.av] [] (.tup [(nowD p).av,.bool (okP p)]) []:=by
 have h1:=checkNr_spec p.base hw.1
 have h2:=allNr_spec p.base p.evs p.hz hw.1 (fun e he=>(hw.2 e he).2)
 have hok:=okP_eq p
 have hN:nowD p=if earlyP p||lateP p then net0 else nowP p:=rfl
 unfold nowP at hN
 generalize nowD p=N at*
 generalize okP p=OK at*
 refine FSpec.of_z (q:=[(10,.m [.p [] [],.p [] [],.p [] [],.p [] [],.p [] [],.p [] [],.p [1] [],.p [1] [],.e [2,56]])]) Tryz.func133 (by kernel_rfl) rfl Tryz.ntmps133 Tryz.results133 hP (by kernel_rfl) (by simp) (by first|rfl|simp) ?_
 simp -implicitDefEqProofs
 first|refine CallK.same (h1) rfl rfl ?_|refine CallQ.same (h1) rfl rfl ?_|refine CallQG.same _ (h1) rfl ?_|refine CallG.same _ (h1) rfl ?_|refine CallK.pv (h1) rfl rfl ?_
 simp -implicitDefEqProofs
 refine⟨fun h=>?_,fun b1 b2 b3 b4=>?_⟩
 ·have he:earlyP p=true:=by
   unfold earlyP
   rcases h with((h|h)|h)|h
   ·simp[h]
   ·simp[h]
   ·simp[h]
   ·have:1024<p.evs.length:=by omega
    simp[this]
  rw[he]at hok hN
  simp at hok hN
  subst hok
  subst hN
  refine EndZ.ret [] (.tup [.agg [.im (.sc (.slice none 0 0)),.im (.sc (.slice none 0 0))],.bool false]) (by simp) ?_
  simp[net0]
 have he:earlyP p=false:=by
  unfold earlyP
  have e1:¬p.hz< -1:=by omega
  have e2:¬1099511627776<p.hz:=by omega
  have e3:¬1024<p.evs.length:=by omega
  simp[e1,e2,e3,b3]
 rw[he]at hok hN
 simp only[Bool.not_false,Bool.true_and,Bool.false_or]at hok hN
 have hsl:=netOk_seats b3
 have hwt:=weightr_spec p hw.1 (by omega)
 refine LoopK.os (fun k:Nat=>[(1,.ptr 0 0),(2,.ptr 1 0),(32,.im (.sl 4 (p.base.seats.map Seat.iv))),(33,.int .i64 p.base.seats.length),(34,.int .i64 k)])
  (fun _=>[pastO p,.box 25 [.im (.sc (.slice none 0 0)),.im (.sc (.slice none 0 0))]])
  (fun k=>k≤p.base.seats.length∧((p.base.seats.drop k).any fun s=>decide (p.hz<s.time))=lateP p) (fun k=>p.base.seats.length-k) 0 [0,1] ⟨Nat.zero_le _,by simp[lateP]⟩ (by simp) ?_
 rintro k ⟨hk,hR⟩
 by_cases hlt:k<p.base.seats.length
 ·have e1:IntKind.i64.wrap (k+1)=(k+1:Nat):=wrap64 (by omega) (by omega)
  obtain⟨E,hE⟩:∃E,p.base.seats[k]=E:=⟨_,rfl⟩
  rw[List.drop_eq_getElem_cons hlt,List.any_cons,hE]at hR
  simp -implicitDefEqProofs [hlt,hE]
  refine⟨fun h=>?_,fun h=>?_⟩
  ·have hl:lateP p=true:=by rw[←hR];simp[h]
   rw[hl]at hok hN
   simp at hok hN
   subst hok
   subst hN
   refine EndZ.ret [] (.tup [.agg [.im (.sc (.slice none 0 0)),.im (.sc (.slice none 0 0))],.bool false]) (by simp) ?_
   simp[net0]
  ·have hd:decide (p.hz<E.time)=false:=by simp;omega
   rw[hd,Bool.false_or]at hR
   refine Again.os (k+1) [0,1] ⟨hlt,hR⟩ (by omega) ?_
   simp -implicitDefEqProofs [e1]
 ·have hkk:k=p.base.seats.length:=by omega
  subst hkk
  have hl:lateP p=false:=by rw[←hR];simp
  rw[hl]at hok hN
  simp only[Bool.not_false,Bool.true_and,Bool.false_eq_true,if_false]at hok hN
  generalize allN p.base p.evs p.hz=RES at*
  subst hN
  simp -implicitDefEqProofs
  first|refine CallK.same (h2) rfl rfl ?_|refine CallQ.same (h2) rfl rfl ?_|refine CallQG.same _ (h2) rfl ?_|refine CallG.same _ (h2) rfl ?_|refine CallK.pv (h2) rfl rfl ?_
  simp -implicitDefEqProofs
  first|refine CallK.same (hwt) rfl rfl ?_|refine CallQ.same (hwt) rfl rfl ?_|refine CallQG.same _ (hwt) rfl ?_|refine CallG.same _ (hwt) rfl ?_|refine CallK.pv (hwt) rfl rfl ?_
  simp -implicitDefEqProofs
  have hok':OK=(RES.2.2==0&&decide (weightF p≤1024)):=hok
  subst hok'
  refine EndZ.ret [] (.tup [RES.1.av,.bool (RES.2.2==0&&decide (weightF p≤1024))]) (by simp) ?_
  simp
end Go.Am
namespace Go.Am
open Go.Proofs
theorem checkPr21_spec (p:Past) (hw:p.wf):FSpec Tryz.prog 58 [p.av] [] (.int .i64 (if okP p then 0 else 2)) []:=by
 have h1:=nowr_spec p hw
 generalize nowD p=N at*
 refine FSpec.of_z (q:=[]) Tryz.func58 (by kernel_rfl) rfl Tryz.ntmps58 Tryz.results58 hP (by kernel_rfl) (by simp) (by first|rfl|simp) ?_
 simp -implicitDefEqProofs
 first|refine CallK.same (h1) rfl rfl ?_|refine CallQ.same (h1) rfl rfl ?_|refine CallQG.same _ (h1) rfl ?_|refine CallG.same _ (h1) rfl ?_|refine CallK.pv (h1) rfl rfl ?_
 simp -implicitDefEqProofs
 cases hok:okP p with
 |true=>
  simp -implicitDefEqProofs
  refine EndZ.ret [] (.int .i64 0) (by simp) (by simp)
 |false=>
  simp -implicitDefEqProofs
  refine EndZ.ret [] (.int .i64 2) (by simp) (by simp)
theorem askT_eq (p:Past) (t:Int):(if t<0∨1099511627776<t then 1 else if t<p.hz then 15 else 0)=askT p t:=rfl
theorem atPr_spec (p:Past) (t:Int) (hw:p.wf):FSpec Tryz.prog 60 [p.av,.int .i64 t] []
  (.tup [(if okP p=true∧askT p t=0 then thenF p t else net0).av,.int .i64 (if okP p then askT p t else 2)]) []:=by
 have h1:=checkPr21_spec p hw
 have h2:=askedr_spec p t
 rw[askT_eq]at h2
 refine FSpec.of_z (q:=[]) Tryz.func60 (by kernel_rfl) rfl Tryz.ntmps60 Tryz.results60 hP (by kernel_rfl) (by simp) (by first|rfl|simp) ?_
 simp -implicitDefEqProofs
 first|refine CallK.same (h1) rfl rfl ?_|refine CallQ.same (h1) rfl rfl ?_|refine CallQG.same _ (h1) rfl ?_|refine CallG.same _ (h1) rfl ?_|refine CallK.pv (h1) rfl rfl ?_
 simp -implicitDefEqProofs
 cases hok:okP p with
 |true=>
  have h3:=thenr_spec p t hw.1 (fun e he=>(hw.2 e he).2) (by have:=okP_len hok;omega)
  generalize askT p t=W at*
  simp -implicitDefEqProofs
  first|refine CallK.same (h2) rfl rfl ?_|refine CallQ.same (h2) rfl rfl ?_|refine CallQG.same _ (h2) rfl ?_|refine CallG.same _ (h2) rfl ?_|refine CallK.pv (h2) rfl rfl ?_
  simp -implicitDefEqProofs
  refine⟨fun h=>?_,fun h=>?_⟩
  ·refine EndZ.ret [] (.tup [.agg [.im (.sc (.slice none 0 0)),.im (.sc (.slice none 0 0))],.int .i64 W]) (by simp) (by simp[net0,h])
  ·subst h
   first|refine CallK.same (h3) rfl rfl ?_|refine CallQ.same (h3) rfl rfl ?_|refine CallQG.same _ (h3) rfl ?_|refine CallG.same _ (h3) rfl ?_|refine CallK.pv (h3) rfl rfl ?_
   simp -implicitDefEqProofs
   refine EndZ.ret [] (.tup [(thenF p t).av,.int .i64 0]) (by simp) (by simp)
 |false=>
  simp -implicitDefEqProofs
  refine EndZ.ret [] (.tup [.agg [.im (.sc (.slice none 0 0)),.im (.sc (.slice none 0 0))],.int .i64 2]) (by simp) (by simp[net0])
theorem rowN_I (l:List Int):rowN l=rowI l:=rfl
theorem rowI_app (l:List Int) (x:Int):rowI (l++[x])=rowI l++[[.sc (.int .i64 x)]]:=by simp[rowI]
set_option maxRecDepth 8000 in
set_option maxHeartbeats 2000000 in
theorem timesPr_spec (p:Past) (a b:Int) (hw:p.wf):FSpec Tryz.prog 150 [p.av,.agg [.int .i64 a,.int .i64 b]] []
  (.tup [.im (.sl 1 (rowN (if timesW p a b=0 then timesF p.evs a b else[]))),.int .i64 (timesW p a b)]) []:=by
 have h1:=checkPr21_spec p hw
 have h2:=one_spec a b
 rw[show(decide (0≤a)&&decide (a≤b)&&decide (b≤1099511627776))=oneI a b from rfl]at h2
 refine FSpec.of_z (q:=[]) Tryz.func150 (by kernel_rfl) rfl Tryz.ntmps150 Tryz.results150 hP (by kernel_rfl) (by simp) (by first|rfl|simp) ?_
 simp -implicitDefEqProofs
 first|refine CallK.same (h1) rfl rfl ?_|refine CallQ.same (h1) rfl rfl ?_|refine CallQG.same _ (h1) rfl ?_|refine CallG.same _ (h1) rfl ?_|refine CallK.pv (h1) rfl rfl ?_
 simp -implicitDefEqProofs
 cases hok:okP p with
 |false=>
  have hW:timesW p a b=2:=by unfold timesW;rw[if_pos hok]
  rw[hW]
  simp -implicitDefEqProofs
  refine EndZ.ret [] (.tup [.im (.sc (.slice none 0 0)),.int .i64 2]) (by simp) (by simp[rowN])
 |true=>
  have hW:timesW p a b=winW p a b:=by unfold timesW;rw[if_neg (by simp[hok])]
  rw[hW]
  simp -implicitDefEqProofs
  first|refine CallK.same (h2) rfl rfl ?_|refine CallQ.same (h2) rfl rfl ?_|refine CallQG.same _ (h2) rfl ?_|refine CallG.same _ (h2) rfl ?_|refine CallK.pv (h2) rfl rfl ?_
  simp -implicitDefEqProofs
  cases ho:oneI a b with
  |false=>
   have hX:winW p a b=1:=by unfold winW;rw[if_pos ho]
   rw[hX]
   simp -implicitDefEqProofs
   refine EndZ.ret [] (.tup [.im (.sc (.slice none 0 0)),.int .i64 1]) (by simp) (by simp[rowN])
  |true=>
   simp -implicitDefEqProofs
   refine⟨fun h=>?_,fun h=>?_⟩
   ·have hX:winW p a b=15:=by unfold winW;rw[if_neg (by simp[ho]),if_pos h]
    rw[hX]
    refine EndZ.ret [] (.tup [.im (.sc (.slice none 0 0)),.int .i64 15]) (by simp) (by simp[rowN])
   have hX:winW p a b=0:=by unfold winW;rw[if_neg (by simp[ho]),if_neg (by omega)]
   rw[hX]
   have hl:=okP_len hok
   have hhl:=happT_len p.evs a b
   have h3:=sorted19_spec (happT p.evs a b) (by omega) (timesF p.evs a b) (timesF_sorted _ _ _) (timesF_mem _ _ _)
   simp only[if_true]
   generalize timesF p.evs a b=D at*
   refine LoopK.nil (.sl 6 2 1) ?_
   simp -implicitDefEqProofs
   refine LoopK.os (fun k:Nat=>[(3,.ptr 0 0),(6,.row 1),(21,.im (.sl 12 (p.evs.map Ev.iv))),(22,.int .i64 p.evs.length),(23,.int .i64 k)])
    (fun k=>[.box 43 [.int .i64 a,.int .i64 b],.row 2 1 (rowI (happT (p.evs.take k) a b))])
    (fun k=>k≤p.evs.length) (fun k=>p.evs.length-k) 0 [1,2] (Nat.zero_le _) (by simp[happT,rowI]) ?_
   intro k hk
   by_cases hlt:k<p.evs.length
   ·have e1:IntKind.i64.wrap (k+1)=(k+1:Nat):=wrap64 (by omega) (by omega)
    have g1:=happT_take p.evs a b k hlt
    have b1:=happT_len (p.evs.take k) a b
    rw[List.length_take]at b1
    have b2:(rowI (happT (p.evs.take k) a b)).length=(happT (p.evs.take k) a b).length:=by simp[rowI]
    obtain⟨E,hE⟩:∃E,p.evs[k]=E:=⟨_,rfl⟩
    rw[hE]at g1
    simp -implicitDefEqProofs [hlt,hE,b2]
    refine⟨fun h1 h2=>⟨⟨by omega,by unfold maxLen;omega⟩,?_⟩,fun h=>?_⟩
    ·rw[if_pos ⟨h1,h2⟩]at g1
     refine Again.os (k+1) [0,4] hlt (by omega) ?_
     simp -implicitDefEqProofs [e1,g1,rowI_app]
    ·rw[if_neg (by intro hh;have:=h hh.1;omega)]at g1
     refine Again.os (k+1) [0,1] hlt (by omega) ?_
     simp -implicitDefEqProofs [e1,g1]
   ·have hkk:k=p.evs.length:=by omega
    subst hkk
    simp -implicitDefEqProofs
    refine CallX.pre (.fz [1]) ?_
    simp -implicitDefEqProofs
    refine CallK.v0 h3 rfl (by simp) rfl ?_
    simp -implicitDefEqProofs
    refine EndZ.ret [] (.tup [.im (.sl 1 (rowI D)),.int .i64 0]) (by simp) ?_
    simp[rowN_I]
end Go.Am
namespace Go.Am
open Go.Proofs
end Go.Am
namespace Go.Am
open Go.Proofs
theorem find_put {α:Type} (key:α→Int) (l:List α) (s:α) (r:Int):
  (l.filter (fun a=>decide (key a<key s))++[s]++l.filter (fun a=>decide (key s<key a))).find? (fun a=>decide (key a=r))=if r=key s then some s else l.find? fun a=>decide (key a=r):=by
 rw[List.find?_append,List.find?_append,List.find?_filter,List.find?_filter]
 by_cases h:r=key s
 ·subst h
  have h1:(l.find? fun a=>decide (decide (key a<key s)=true∧decide (key a=key s)=true))=none:=by
   rw[List.find?_eq_none]
   intro x _
   simp
   omega
  rw[if_pos rfl,h1]
  simp
 ·rw[if_neg h]
  have hs:[s].find? (fun a=>decide (key a=r))=none:=by
   rw[List.find?_eq_none]
   intro x hx
   rw[List.mem_singleton]at hx
   subst hx
   simp
   omega
  rw[hs]
  rcases Int.lt_or_gt_of_ne h with h1|h1
  ·have e1:(l.find? fun a=>decide (decide (key a<key s)=true∧decide (key a=r)=true))=l.find? fun a=>decide (key a=r):=by
    congr
    funext a
    by_cases h2:key a=r
    ·simp[h2,h1]
    ·simp[h2]
   have e2:(l.find? fun a=>decide (decide (key s<key a)=true∧decide (key a=r)=true))=none:=by
    rw[List.find?_eq_none]
    intro x _
    simp
    omega
   rw[e1,e2]
   simp
  ·have e1:(l.find? fun a=>decide (decide (key s<key a)=true∧decide (key a=r)=true))=l.find? fun a=>decide (key a=r):=by
    congr
    funext a
    by_cases h2:key a=r
    ·simp[h2,h1]
    ·simp[h2]
   have e2:(l.find? fun a=>decide (decide (key a<key s)=true∧decide (key a=r)=true))=none:=by
    rw[List.find?_eq_none]
    intro x _
    simp
    omega
   rw[e1,e2]
   simp
theorem seatF_find:∀(l:List Seat) (r:Int),seatF l r=l.find? fun s=>decide (s.router=r)
 |[],r=>rfl
 |s::l,r=>by
  rw[seatF,List.find?_cons]
  by_cases h:s.router=r
  ·simp[h]
  ·simp[h,seatF_find l r]
theorem seatF_put (l:List Seat) (e:Ev) (r:Int):seatF (putSeat l (seatOf e)) r=if r=e.router then some (seatOf e)else seatF l r:=by
 rw[seatF_find,seatF_find]
 exact find_put Seat.router l (seatOf e) r
theorem routerF_after {n:Net} {e:Ev} {hz:Int} (hok:netOk n=true) (h:mayS n.seats e hz=0) (h2:(applyR (mineN n e) e).2=0) (r:Int):
  routerF (netAfter n e hz).routers r=if r=e.router then some (applyR (mineN n e) e).1 else routerF n.routers r:=by
 obtain⟨g1,g2,g3,g4,g5⟩:=mayS_zero h
 obtain⟨m1,m2⟩:=mineN_ok hok g2
 obtain⟨a1,a2,a3⟩:=applyR_ok m1 g2 m2 h2
 rw[netAfter_routers hok h]
 simp only[cmpT_neg,cmpT_gt]
 have:=find_put Router.id n.routers (applyR (mineN n e) e).1 r
 rw[a2]at this
 exact this
theorem happensF_get {n:Net} {e:Ev} {hz:Int} (hok:netOk n=true) (h:(happensF n e hz).2=0):
  (∀r,seatF (happensF n e hz).1.seats r=if r=e.router then some (seatOf e)else seatF n.seats r)∧∀r,routerF (happensF n e hz).1.routers r=if r=e.router then some (applyR (mineN n e) e).1 else routerF n.routers r:=by
 obtain⟨h1,h2,h3⟩:=happensF_zero h
 have hx:happensF n e hz=(netAfter n e hz,0):=by
  unfold happensF
  rw[if_neg (by omega),if_neg (by omega),if_neg h3]
 rw[hx]
 refine⟨fun r=>?_,routerF_after hok h1 h2⟩
 show seatF (nextS n.seats e hz).1 r=_
 rw[nextS_zero h1]
 exact seatF_put _ _ _
theorem putRt_sz (l:List Route) (x:Route):(putRt l x).1.length≤l.length+1:=by
 unfold putRt
 split
 ·simp
 rename_i hc
 have hR:checkR l=0:=by apply Classical.byContradiction;intro hn;exact hc (.inl hn)
 split
 ·simp
 rw[ltR_wo,gtR_wo]
 cases hf:bsF (cmpQ x.pfx) l with
 |true=>rw[←bs_set (strictR hR _) x hf];simp
 |false=>
  rw[←bs_ins (strictR hR _) x hf]
  simp only[List.length_append,List.length_cons,List.length_take,List.length_drop]
  omega
theorem delRt_sz (l:List Route) (p:Pfx):(delRt l p).1.length≤l.length:=by
 unfold delRt
 split
 ·simp
 ·exact woR_len _ _
theorem putLk_sz (l:List Link) (x:Link):(putLk l x).1.length≤l.length+1:=by
 unfold putLk
 split
 ·simp
 rename_i hc
 have hR:checkL l=0:=by apply Classical.byContradiction;intro hn;exact hc (.inl hn)
 split
 ·simp
 rw[ltL_cmp,gtL_cmp]
 cases hf:bsF (cmpL x.iface) l with
 |true=>rw[←bs_set (strictL hR _) x hf];simp
 |false=>
  rw[←bs_ins (strictL hR _) x hf]
  simp only[List.length_append,List.length_cons,List.length_take,List.length_drop]
  omega
theorem delLk_sz (l:List Link) (i:Int):(delLk l i).1.length≤l.length:=by
 unfold delLk
 split
 ·simp
 rename_i hc
 have hR:checkL l=0:=by apply Classical.byContradiction;intro hn;exact hc hn
 rw[ltL_cmp,gtL_cmp,←bs_ne (strictL hR i)]
 exact List.length_filter_le _ _
theorem applyR_sz (r:Router) (e:Ev):sz (applyR r e).1≤sz r+if growsE e then 1 else 0:=by
 have b1:=putRt_sz r.routes ⟨e.pfx,e.act⟩
 have b2:=delRt_sz r.routes e.pfx
 have b3:=putLk_sz r.links ⟨e.iface,e.peer⟩
 have b4:=delLk_sz r.links e.iface
 have hg3:e.kind=3→growsE e=true:=fun h=>by simp[growsE,h]
 have hg5:e.kind=5→growsE e=true:=fun h=>by simp[growsE,h]
 unfold applyR
 split
 ·simp[sz,router0]
 split
 ·simp
 split
 ·simp
 split
 ·simp[sz]
 split
 ·simp[sz]
 split
 ·rename_i h
  rw[hg3 h]
  split
  ·simp[sz];omega
  ·simp
 split
 ·simp[sz];omega
 split
 ·rename_i h
  rw[hg5 h]
  split
  ·simp[sz];omega
  ·simp
 ·simp[sz];omega
theorem happensF_sum {n:Net} {e:Ev} {hz:Int} (hok:netOk n=true) (h:(happensF n e hz).2=0):sumR (happensF n e hz).1.routers≤sumR n.routers+if growsE e then 1 else 0:=by
 have hok2:=happensF_ok (e:=e) (hz:=hz) hok
 obtain⟨h1,h2,h3⟩:=happensF_zero h
 have hx:happensF n e hz=(netAfter n e hz,0):=by
  unfold happensF
  rw[if_neg (by omega),if_neg (by omega),if_neg h3]
 rw[hx]at hok2⊢
 have hm:=(netOk_many hok2).1
 obtain⟨c1,c2,c3⟩:=many_after hok h1 h2
 have hs:=applyR_sz (mineN n e) e
 simp only at hm⊢
 rw[c1]at hm
 omega
end Go.Am
namespace Go.Am
open Go.Proofs
def Rel (t:Int) (N M:Net):Prop:=∀r,(seatF M.seats r=seatF N.seats r∧routerF M.routers r=routerF N.routers r)∨∃s,seatF N.seats r=some s∧t<s.time
def Sub (N M:Net):Prop:=∀r,seatF N.seats r=none→seatF M.seats r=none
theorem sorted_le:∀(b a:List Int),a.Pairwise (·<·)→b.Pairwise (·<·)→(∀x∈a,x∈b)→a.length≤b.length
 |[],a,_,_,h=>by
  cases a with
  |nil=>exact Nat.le_refl _
  |cons x a=>exact absurd (h x List.mem_cons_self) (by simp)
 |y::b,[],_,_,_=>Nat.zero_le _
 |y::b,x::a,ha,hb,h=>by
  have ha1:=List.pairwise_cons.1 ha
  have hb1:=List.pairwise_cons.1 hb
  by_cases hxy:x=y
  ·subst hxy
   have:=sorted_le b a ha1.2 hb1.2 fun z hz=>by
    have h1:=ha1.1 z hz
    rcases List.mem_cons.1 (h z (List.mem_cons_of_mem _ hz))with rfl|h2
    ·omega
    ·exact h2
   simp only[List.length_cons]
   omega
  ·have hx:x∈b:=(List.mem_cons.1 (h x List.mem_cons_self)).resolve_left hxy
   have hyx:=hb1.1 x hx
   have:=sorted_le b (x::a) ha hb1.2 fun z hz=>by
    rcases List.mem_cons.1 hz with rfl|hz'
    ·exact hx
    ·have h1:=ha1.1 z hz'
     rcases List.mem_cons.1 (h z hz)with rfl|h2
     ·omega
     ·exact h2
   simp only[List.length_cons]at*
   omega
theorem sub_len {N M:Net} (hN:netOk N=true) (hM:netOk M=true) (h:Sub N M):M.seats.length≤N.seats.length:=by
 have:=sorted_le (N.seats.map Seat.router) (M.seats.map Seat.router) (by rw[List.pairwise_map];exact checkS_sorted (netOk_checkS hM)) (by rw[List.pairwise_map];exact checkS_sorted (netOk_checkS hN)) fun x hx=>by
  obtain⟨s,hs,rfl⟩:=List.mem_map.1 hx
  apply Classical.byContradiction
  intro hn
  have h1:seatF N.seats s.router=none:=by
   rw[seatF_none]
   rintro⟨u,hu,hur⟩
   exact hn (List.mem_map.2 ⟨u,hu,hur⟩)
  have h2:=h _ h1
  rw[seatF_none]at h2
  exact h2 ⟨s,hs,rfl⟩
 simpa using this
theorem mayT_time {l:List Seat} {e:Ev} {hz:Int} (h:mayT l e hz=0):((seatF l e.router).getD seat0).time≤e.time:=by
 unfold mayT at h
 split at h
 ·cases h
 split at h
 ·cases h
 split at h
 ·cases h
 omega
theorem mayT_same {l m:List Seat} {e:Ev} {hz:Int} (h:mayT l e hz=0) (hs:seatF m e.router=seatF l e.router) (hl:seatF l e.router=none→¬m.length=64):mayT m e hz=0:=by
 unfold mayT at h⊢
 rw[hs]
 split at h
 ·cases h
 rename_i c1
 split at h
 ·cases h
 rename_i c2
 split at h
 ·cases h
 rename_i c3
 split at h
 ·cases h
 rename_i c4
 rw[if_neg c1,if_neg c2,if_neg c3,if_neg c4,if_neg]
 rintro⟨h1,h2⟩
 exact hl h1 h2
theorem happens_like {N M:Net} {e:Ev} {hz:Int} (hN:netOk N=true) (hM:netOk M=true) (h:(happensF N e hz).2=0) (hs:seatF M.seats e.router=seatF N.seats e.router) (hr:routerF M.routers e.router=routerF N.routers e.router)
  (hl:seatF N.seats e.router=none→¬M.seats.length=64) (hsum:sumR M.routers+(if growsE e then 1 else 0)≤1024):(happensF M e hz).2=0∧mineN M e=mineN N e:=by
 obtain⟨h1,h2,h3⟩:=happensF_zero h
 obtain⟨g1,g2,g3,g4,g5⟩:=mayS_zero h1
 have hmine:mineN M e=mineN N e:=by unfold mineN;rw[hr]
 have k1:mayS M.seats e hz=0:=by
  rw[mayS_T (netOk_checkS hM) g2 g3 g4]
  exact mayT_same g5 hs hl
 have k2:(applyR (mineN M e) e).2=0:=by rw[hmine];exact h2
 have k3:¬1024<many (netAfter M e hz).routers 0:=by
  obtain⟨c1,c2,c3⟩:=many_after hM k1 k2
  have hsz:=applyR_sz (mineN M e) e
  rw[c1]
  omega
 refine⟨?_,hmine⟩
 unfold happensF
 rw[if_neg (by omega),if_neg (by omega),if_neg k3]
theorem rel_step {N M:Net} {e:Ev} {hz t:Int} (hN:netOk N=true) (hM:netOk M=true) (h:(happensF N e hz).2=0) (hrel:Rel t N M) (hsub:Sub N M) (het:e.time≤t) (hsum:sumR M.routers+(if growsE e then 1 else 0)≤1024):
  (happensF M e hz).2=0∧Rel t (happensF N e hz).1 (happensF M e hz).1∧Sub (happensF N e hz).1 (happensF M e hz).1:=by
 obtain⟨h1,h2,h3⟩:=happensF_zero h
 obtain⟨g1,g2,g3,g4,g5⟩:=mayS_zero h1
 rcases hrel e.router with⟨hs,hr⟩|⟨s,hs,hst⟩
 ·have hlen:=sub_len hN hM hsub
  have h64:=netOk_seats hN
  obtain⟨k,hmine⟩:=happens_like hN hM h hs hr (fun hn=>by have:=mayT_len g5 hn;omega) hsum
  obtain⟨n1,n2⟩:=happensF_get hN h
  obtain⟨m1,m2⟩:=happensF_get hM k
  refine⟨k,fun r=>?_,fun r hr0=>?_⟩
  ·rw[n1,n2,m1,m2,hmine]
   by_cases hre:r=e.router
   ·simp only[if_pos hre]
    exact .inl (by simp)
   ·simp only[if_neg hre]
    exact hrel r
  ·rw[n1]at hr0
   rw[m1]
   by_cases hre:r=e.router
   ·rw[if_pos hre]at hr0;cases hr0
   ·rw[if_neg hre]at hr0⊢
    exact hsub r hr0
 ·have:=mayT_time g5
  rw[hs]at this
  simp only[Option.getD_some]at this
  omega
theorem rel_late {N M:Net} {e:Ev} {hz t:Int} (hN:netOk N=true) (h:(happensF N e hz).2=0) (hrel:Rel t N M) (hsub:Sub N M) (het:t<e.time):Rel t (happensF N e hz).1 M∧Sub (happensF N e hz).1 M:=by
 obtain⟨n1,n2⟩:=happensF_get hN h
 refine⟨fun r=>?_,fun r hr0=>?_⟩
 ·rw[n1,n2]
  by_cases hre:r=e.router
  ·simp only[if_pos hre]
   exact .inr ⟨seatOf e,rfl,het⟩
  ·simp only[if_neg hre]
   exact hrel r
 ·rw[n1]at hr0
  by_cases hre:r=e.router
  ·rw[if_pos hre]at hr0;cases hr0
  ·rw[if_neg hre]at hr0
   exact hsub r hr0
theorem allGo_step {hz:Int} {e:Ev} {l:List Ev} {n:Net} {i:Int} (h:(allGo hz (e::l) n i).2.2=0):(happensF n e hz).2=0∧allGo hz (e::l) n i=allGo hz l (happensF n e hz).1 (i+1):=by
 rw[allGo]at h
 split at h
 ·rename_i h1
  exact⟨h1,by rw[allGo,if_pos h1]⟩
 ·rename_i h1
  exact absurd h h1
theorem filt_all {t hz:Int}:∀(l:List Ev) (N M:Net) (i j:Int),netOk N=true→netOk M=true→Rel t N M→Sub N M→sumR M.routers+addsE (upto t l)≤1024→(allGo hz l N i).2.2=0→
  (allGo hz (upto t l) M j).2.2=0∧Rel t (allGo hz l N i).1 (allGo hz (upto t l) M j).1∧netOk (allGo hz (upto t l) M j).1=true
 |[],N,M,i,j,hN,hM,hr,hs,_,_=>⟨rfl,hr,hM⟩
 |e::l,N,M,i,j,hN,hM,hr,hs,hsum,h=>by
  obtain⟨h1,h2⟩:=allGo_step h
  rw[h2]at h⊢
  have hN':=happensF_ok (e:=e) (hz:=hz) hN
  by_cases het:e.time≤t
  ·have hu:upto t (e::l)=e::upto t l:=by unfold upto;rw[List.filter_cons,if_pos (by simpa using het)]
   have ha:addsE (upto t (e::l))=addsE (upto t l)+if growsE e then 1 else 0:=by
    rw[hu]
    unfold addsE growsE
    rw[List.countP_cons]
   rw[ha]at hsum
   obtain⟨k1,k2,k3⟩:=rel_step hN hM h1 hr hs het (by omega)
   have hM':=happensF_ok (e:=e) (hz:=hz) hM
   have hsz:=happensF_sum hM k1
   rw[hu,allGo,if_pos k1]
   exact filt_all l _ _ _ _ hN' hM' k2 k3 (by omega) h
  ·have hu:upto t (e::l)=upto t l:=by unfold upto;rw[List.filter_cons,if_neg (by simpa using het)]
   rw[hu]at hsum⊢
   obtain⟨k2,k3⟩:=rel_late hN h1 hr hs (by omega)
   exact filt_all l _ _ _ _ hN' hM k2 k3 hsum h
theorem addsE_upto (t:Int) (l:List Ev):addsE (upto t l)≤addsE l:=(List.filter_sublist).countP_le
theorem okP_base {p:Past} (h:okP p=true):netOk p.base=true:=by
 unfold okP at h
 simp only[Bool.and_eq_true,decide_eq_true_eq]at h
 exact allN_ok h.1.2
theorem okP_all {p:Past} (h:okP p=true):(allGo p.hz p.evs p.base 0).2.2=0:=by
 have hb:=okP_base h
 unfold okP at h
 simp only[Bool.and_eq_true,decide_eq_true_eq]at h
 have:=h.1.2
 unfold allN at this
 rw[if_neg (by simp[hb])]at this
 exact this
theorem okP_sum {p:Past} (h:okP p=true):sumR p.base.routers+addsE p.evs≤1024:=by
 have hb:=okP_base h
 have hw:=okP_weight h
 have hm:=(netOk_many hb).1
 unfold weightF sizeN at hw
 rw[if_pos hb,hm]at hw
 omega
theorem Rel.refl (t:Int) (N:Net):Rel t N N:=fun r=>.inl ⟨rfl,rfl⟩
theorem thenW_ok {p:Past} (h:okP p=true) (t:Int):thenW p t=0:=by
 have hb:=okP_base h
 have hs:=okP_sum h
 have ha:=addsE_upto t p.evs
 unfold thenW allN
 rw[if_neg (by simp[hb])]
 exact(filt_all p.evs p.base p.base 0 0 hb hb (Rel.refl _ _) (fun r h=>h) (by omega) (okP_all h)).1
end Go.Am
namespace Go.Am
open Go.Proofs
end Go.Am
namespace Go.Am
open Go.Proofs
end Go.Am
namespace Go.Am
open Go.Proofs
theorem nowP_go {p:Past} (h:okP p=true):nowP p=(allGo p.hz p.evs p.base 0).1:=by
 unfold nowP allN
 rw[if_neg (by simp[okP_base h])]
theorem thenF_go {p:Past} (h:okP p=true) (t:Int):thenF p t=(allGo p.hz (upto t p.evs) p.base 0).1:=by
 unfold thenF allN
 rw[if_neg (by simp[okP_base h])]
theorem thenF_all {p:Past} (h:okP p=true) (t:Int):(allGo p.hz (upto t p.evs) p.base 0).2.2=0∧Rel t (nowP p) (thenF p t)∧netOk (thenF p t)=true:=by
 have hb:=okP_base h
 have hs:=okP_sum h
 have ha:=addsE_upto t p.evs
 rw[nowP_go h,thenF_go h]
 exact filt_all p.evs p.base p.base 0 0 hb hb (Rel.refl _ _) (fun r h=>h) (by omega) (okP_all h)
end Go.Am
namespace Go.Am
open Go.Proofs
end Go.Am
namespace Go.Am
open Go.Proofs
theorem atO_spec (p:Past) (t:Int) (hew:∀e∈p.evs,0≤e.seq):FSpec Tryz.prog 30 [p.av,.int .i64 t] []
  (.tup [(if okP p=true∧askT p t=0 then thenF p t else net0).av,.int .i64 (if okP p then askT p t else 2)]) []:=by
 have h:=atP_spec p t hew
 have e:(if okP p then(if askT p t=0 then thenW p t else askT p t)else 2)=if okP p then askT p t else 2:=by
  by_cases hok:okP p=true
  ·rw[if_pos hok,if_pos hok]
   by_cases hb:askT p t=0
   ·rw[if_pos hb,hb,thenW_ok hok]
   ·rw[if_neg hb]
  ·rw[if_neg hok,if_neg hok]
 rw[e]at h
 exact h
def lP0:Past:=⟨⟨[],[]⟩,-1,[]⟩
end Go.Am
namespace Go.Am
open Go.Proofs
def evSh:List Sh:=[.int .u8,.int .i64,.int .u64,.int .i64,.bool,.int .u64,.int .u64,.int .i64,.int .u8,.int .i64,.int .i64,.int .i64]
def pastSh:List Sh:=[.sl seatSh,.sl routerSh,.int .i64,.sl evSh]
def ivlSh:List Sh:=[.int .i64,.int .i64]
theorem ev_of (y:List IV) (h:Sh.hasL evSh y):∃e:Ev,(0≤e.seq∧e.pfx.addr.wf)∧y=e.iv:=by
 obtain⟨a,_,rfl,ha,h⟩:=hasL_cons h
 obtain⟨b,_,rfl,hb,h⟩:=hasL_cons h
 obtain⟨c,_,rfl,hc,h⟩:=hasL_cons h
 obtain⟨d,_,rfl,hd,h⟩:=hasL_cons h
 obtain⟨e,_,rfl,he,h⟩:=hasL_cons h
 obtain⟨f,_,rfl,hf,h⟩:=hasL_cons h
 obtain⟨g,_,rfl,hg,h⟩:=hasL_cons h
 obtain⟨i,_,rfl,hi,h⟩:=hasL_cons h
 obtain⟨j,_,rfl,hj,h⟩:=hasL_cons h
 obtain⟨k,_,rfl,hk,h⟩:=hasL_cons h
 obtain⟨l,_,rfl,hl,h⟩:=hasL_cons h
 obtain⟨m,_,rfl,hm,h⟩:=hasL_cons h
 cases hasL_nil h
 obtain⟨a,rfl,_⟩:=has_int ha
 obtain⟨b,rfl,_⟩:=has_int hb
 obtain⟨c,rfl,wc⟩:=has_int hc
 obtain⟨d,rfl,_⟩:=has_int hd
 obtain⟨e,rfl⟩:=has_bool he
 obtain⟨f,rfl,wf⟩:=has_int hf
 obtain⟨g,rfl,wg⟩:=has_int hg
 obtain⟨i,rfl,_⟩:=has_int hi
 obtain⟨j,rfl,_⟩:=has_int hj
 obtain⟨k,rfl,_⟩:=has_int hk
 obtain⟨l,rfl,_⟩:=has_int hl
 obtain⟨m,rfl,_⟩:=has_int hm
 exact⟨⟨a,b,c,d,⟨e,⟨f,g⟩,i⟩,⟨j,k⟩,l,m⟩,⟨(u64_wf wc).1,⟨(u64_wf wf).1,(u64_wf wf).2,u64_wf wg⟩⟩,rfl⟩
theorem past_of (y:List IV) (h:Sh.hasL pastSh y):∃p:Past,p.wf∧y.map AV.im=[.im (.sl 4 (p.base.seats.map Seat.iv)),.im (.sl 4 (p.base.routers.map Router.iv)),.int .i64 p.hz,.im (.sl 12 (p.evs.map Ev.iv))]:=by
 obtain⟨a,_,rfl,ha,h⟩:=hasL_cons h
 obtain⟨b,_,rfl,hb,h⟩:=hasL_cons h
 obtain⟨c,_,rfl,hc,h⟩:=hasL_cons h
 obtain⟨d,_,rfl,hd,h⟩:=hasL_cons h
 cases hasL_nil h
 obtain⟨a,rfl,wa⟩:=has_sl ha
 obtain⟨b,rfl,wb⟩:=has_sl hb
 obtain⟨c,rfl,_⟩:=has_int hc
 obtain⟨d,rfl,wd⟩:=has_sl hd
 obtain⟨ss,rfl,_⟩:=rows_of seat_of a wa
 obtain⟨rs,rfl,hr⟩:=rows_of router_of b wb
 obtain⟨es,rfl,hes⟩:=rows_of ev_of d wd
 exact⟨⟨⟨ss,rs⟩,c,es⟩,⟨hr,hes⟩,rfl⟩
theorem int1_of {x:List IV} (h:Sh.hasL [.int .i64] x):∃t:Int,x=[.sc (.int .i64 t)]:=by
 obtain⟨a,_,rfl,ha,h⟩:=hasL_cons h
 cases hasL_nil h
 obtain⟨a,rfl,_⟩:=has_int ha
 exact⟨a,rfl⟩
theorem ivl_of {x:List IV} (h:Sh.hasL ivlSh x):∃a b:Int,x=[.sc (.int .i64 a),.sc (.int .i64 b)]:=by
 obtain⟨a,_,rfl,ha,h⟩:=hasL_cons h
 obtain⟨b,_,rfl,hb,h⟩:=hasL_cons h
 cases hasL_nil h
 obtain⟨a,rfl,_⟩:=has_int ha
 obtain⟨b,rfl,_⟩:=has_int hb
 exact⟨a,b,rfl⟩
end Go.Am
namespace Go.Am
open Go.Proofs
theorem past_arg (y:List IV) (h:Sh.hasL pastSh y):∃p:Past,p.wf∧argAV Tryz.prog 28 y=p.av:=by
 obtain⟨p,hp,ep⟩:=past_of y h
 refine⟨p,hp,?_⟩
 simp only[argAV,Tryz.underlying28,ep]
 rfl
theorem int_arg (y:List IV) (h:Sh.hasL [.int .i64] y):∃t:Int,argAV Tryz.prog 2 y=.int .i64 t:=by
 obtain⟨t,rfl⟩:=int1_of h
 refine⟨t,?_⟩
 simp only[argAV,Tryz.underlying2]
end Go.Am
namespace Go.Am
open Go.Proofs
end Go.Am
namespace Go.Am
open Go.Proofs
theorem allGo_wf {hz:Int}:∀(l:List Ev) (n:Net) (i:Int),n.wf→(∀e∈l,e.pfx.addr.wf)→(allGo hz l n i).1.wf
 |[],n,i,h,_=>h
 |e::l,n,i,h,hl=>by
  rw[allGo]
  split
  ·exact allGo_wf l _ _ (happensF_wf h (hl e List.mem_cons_self)) fun x hx=>hl x (List.mem_cons_of_mem _ hx)
  ·exact h
theorem net0_wf:net0.wf:=by intro r hr;cases hr
theorem allN_wf {n:Net} {l:List Ev} {hz:Int} (h:n.wf) (hl:∀e∈l,e.pfx.addr.wf):(allN n l hz).1.wf:=by
 unfold allN
 split
 ·exact net0_wf
 ·exact allGo_wf l n 0 h hl
end Go.Am
namespace Go.Am
open Go.Proofs
def askV (p:Past) (r:Int) (six:Bool) (x:Addr4) (a b:Int):Int:=if okP p=false∨rightA six x=false then 2 else if oneI a b=false∨r<0∨1048576<r then 1 else if a<p.hz then 15 else 0
set_option maxRecDepth 8000 in
theorem askedV_spec (p:Past) (r:Int) (six:Bool) (x:Addr4) (a b:Int) (hw:p.wf):
  FSpec Tryz.prog 63 [p.av,.int .i64 r,.bool six,x.av,.agg [.int .i64 a,.int .i64 b]] [] (.int .i64 (askV p r six x a b)) []:=by
 have h1:=checkP_spec_ p fun e he=>(hw.2 e he).1
 have h2:=rightA_spec six x
 have h3:=window_spec p a b
 unfold winW at h3
 unfold askV
 generalize okP p=O at*
 generalize rightA six x=R at*
 generalize oneI a b=W at*
 refine FSpec.of_flat (q:=[]) Tryz.func63 (by kernel_rfl) rfl Tryz.ntmps63 Tryz.results63 hP (by kernel_rfl) (by simp) (by first|rfl|simp) ?_
 simp -implicitDefEqProofs
 first|refine CallK.same (h1) rfl rfl ?_|refine CallQ.same (h1) rfl rfl ?_|refine CallQG.same _ (h1) rfl ?_|refine CallG.same _ (h1) rfl ?_|refine CallK.pv (h1) rfl rfl ?_
 simp -implicitDefEqProofs
 cases O with
 |false=>
  simp -implicitDefEqProofs
  first|refine CallG.off (.bool true) ?_|(refine CallG.on ?_;(first|refine CallK.same (h2) rfl rfl ?_|refine CallQ.same (h2) rfl rfl ?_|refine CallQG.same _ (h2) rfl ?_|refine CallG.same _ (h2) rfl ?_|refine CallK.pv (h2) rfl rfl ?_))
  simp -implicitDefEqProofs
 |true=>
  simp -implicitDefEqProofs
  first|refine CallG.off (.bool true) ?_|(refine CallG.on ?_;(first|refine CallK.same (h2) rfl rfl ?_|refine CallQ.same (h2) rfl rfl ?_|refine CallQG.same _ (h2) rfl ?_|refine CallG.same _ (h2) rfl ?_|refine CallK.pv (h2) rfl rfl ?_))
  simp -implicitDefEqProofs
  cases R with
  |false=>simp -implicitDefEqProofs
  |true=>
   simp -implicitDefEqProofs
   first|refine CallK.same (h3) rfl rfl ?_|refine CallQ.same (h3) rfl rfl ?_|refine CallQG.same _ (h3) rfl ?_|refine CallG.same _ (h3) rfl ?_|refine CallK.pv (h3) rfl rfl ?_
   cases W with
   |false=>simp -implicitDefEqProofs
   |true=>
    simp -implicitDefEqProofs
    by_cases ha:a<p.hz<;>by_cases hr1:r<0<;>by_cases hr2:1048576<r<;>simp[ha,hr1,hr2,impB]<;>omega
set_option maxRecDepth 8000 in
theorem askedVr_spec (p:Past) (r:Int) (six:Bool) (x:Addr4) (a b:Int) (hw:p.wf) (hx:x.wf):
  FSpec Tryz.prog 75 [p.av,.int .i64 r,.bool six,x.av,.agg [.int .i64 a,.int .i64 b]] [] (.int .i64 (askV p r six x a b)) []:=by
 have h1:=checkPr21_spec p hw
 have h2:=rightAr_spec six x hx
 have h3:=one_spec a b
 rw[show(decide (0≤a)&&decide (a≤b)&&decide (b≤1099511627776))=oneI a b from rfl]at h3
 unfold askV
 generalize okP p=O at*
 generalize rightA six x=R at*
 generalize oneI a b=W at*
 refine FSpec.of_flat (q:=[]) Tryz.func75 (by kernel_rfl) rfl Tryz.ntmps75 Tryz.results75 hP (by kernel_rfl) (by simp) (by first|rfl|simp) ?_
 simp -implicitDefEqProofs
 first|refine CallK.same (h1) rfl rfl ?_|refine CallQ.same (h1) rfl rfl ?_|refine CallQG.same _ (h1) rfl ?_|refine CallG.same _ (h1) rfl ?_|refine CallK.pv (h1) rfl rfl ?_
 simp -implicitDefEqProofs
 cases O with
 |false=>
  simp -implicitDefEqProofs
  first|refine CallG.off (.bool true) ?_|(refine CallG.on ?_;(first|refine CallK.same (h2) rfl rfl ?_|refine CallQ.same (h2) rfl rfl ?_|refine CallQG.same _ (h2) rfl ?_|refine CallG.same _ (h2) rfl ?_|refine CallK.pv (h2) rfl rfl ?_))
  simp -implicitDefEqProofs
 |true=>
  simp -implicitDefEqProofs
  first|refine CallG.off (.bool true) ?_|(refine CallG.on ?_;(first|refine CallK.same (h2) rfl rfl ?_|refine CallQ.same (h2) rfl rfl ?_|refine CallQG.same _ (h2) rfl ?_|refine CallG.same _ (h2) rfl ?_|refine CallK.pv (h2) rfl rfl ?_))
  simp -implicitDefEqProofs
  cases R with
  |false=>simp -implicitDefEqProofs
  |true=>
   simp -implicitDefEqProofs
   first|refine CallK.same (h3) rfl rfl ?_|refine CallQ.same (h3) rfl rfl ?_|refine CallQG.same _ (h3) rfl ?_|refine CallG.same _ (h3) rfl ?_|refine CallK.pv (h3) rfl rfl ?_
   cases W with
   |false=>simp -implicitDefEqProofs
   |true=>
    simp -implicitDefEqProofs
    by_cases ha:a<p.hz<;>by_cases hr1:r<0<;>by_cases hr2:1048576<r<;>simp[ha,hr1,hr2,impB]<;>omega
end Go.Am
namespace Go.Am
open Go.Proofs
def endT (b:Int) (ts:List Int) (k:Nat):Int:=if k+1<ts.length then ts.getD (k+1) 0-1 else b
def accE {T:Type} [DecidableEq T] (f:Int→T) (b:Int) (ts:List Int):Nat→List (Pc T)
 |0=>[]
 |k+1=>addPc (accE f b ts k) (ts.getD k 0) (endT b ts k) (f (ts.getD k 0))
theorem accE_acc {T:Type} [DecidableEq T] (f:Int→T) (b:Int) (ts:List Int):∀k,k<ts.length→accE f b ts k=accG f ts k
 |0,_=>rfl
 |k+1,h=>by rw[accE,accG,accE_acc f b ts k (by omega),endT,if_pos h]
theorem accE_all {T:Type} [DecidableEq T] (f:Int→T) (b:Int) (ts:List Int) (n:Nat) (h:ts.length=n+1):accE f b ts ts.length=lineG f b ts []:=by
 rw[lineG_acc f b ts n h,h,accE,accE_acc f b ts n (by omega),endT,if_neg (by omega)]
theorem accE_len {T:Type} [DecidableEq T] (f:Int→T) (b:Int) (ts:List Int):∀k,(accE f b ts k).length≤k
 |0=>Nat.le_refl _
 |k+1=>by
  have h1:=accE_len f b ts k
  have h2:=addPc_len (accE f b ts k) (ts.getD k 0) (endT b ts k) (f (ts.getD k 0))
  rw[accE]
  omega
theorem accE_p {T:Type} [DecidableEq T] (p:Past) (F:Net→T) (a b:Int):accE (fun t=>F (thenF p t)) b (a::timesF p.evs a b) (a::timesF p.evs a b).length=lineP p F a b:=accE_all _ _ _ _ rfl
theorem askV_zero {p:Past} {r:Int} {six:Bool} {x:Addr4} {a b:Int} (h:askV p r six x a b=0):okP p=true∧rightA six x=true∧oneI a b=true∧0≤r∧r≤1048576∧p.hz≤a:=by
 unfold askV at h
 split at h
 ·cases h
 split at h
 ·cases h
 split at h
 ·cases h
 rename_i h1 h2 h3
 simp at h1 h2
 exact⟨h1.1,h1.2,h2.1,h2.2.1,h2.2.2,by omega⟩
theorem oneI_le {a b:Int} (h:oneI a b=true):0≤a∧a≤b∧b≤1099511627776:=by
 unfold oneI at h
 simp at h
 exact⟨h.1.1,h.1.2,h.2⟩
theorem ask_timesW {p:Past} {r:Int} {six:Bool} {x:Addr4} {a b:Int} (h:askV p r six x a b=0):timesW p a b=0:=by
 obtain⟨h1,h2,h3,h4,h5,h6⟩:=askV_zero h
 unfold timesW winW
 rw[if_neg (by simp[h1]),if_neg (by simp[h3]),if_neg (by omega)]
theorem timesF_bd {l:List Ev} {a b t:Int} (h:oneI a b=true) (ht:t∈a::timesF l a b):0≤t∧t≤1099511627776:=by
 have:=oneI_le h
 rcases List.mem_cons.1 ht with rfl|ht
 ·omega
 ·have:=timesF_in ht;omega
theorem timesF_len (l:List Ev) (a b:Int):(timesF l a b).length≤l.length:=by
 unfold timesF
 have h1:=dedup_len (sortI (happT l a b))
 rw[(sortI_perm _).length_eq]at h1
 have h2:=happT_len l a b
 omega
set_option maxRecDepth 8000 in
theorem timesD_spec (p:Past) (a b:Int) (hw:p.wf) (h:timesW p a b=0) (hok:okP p=true):FSpec Tryz.prog 76 [p.av,.agg [.int .i64 a,.int .i64 b]] [] (.im (.sl 1 (rowN (a::timesF p.evs a b)))) []:=by
 have h1:=timesPr_spec p a b hw
 rw[h,if_pos rfl]at h1
 have hl:=okP_len hok
 have hl2:=timesF_len p.evs a b
 generalize timesF p.evs a b=D at*
 refine FSpec.of_z (q:=[]) Tryz.func76 (by kernel_rfl) rfl Tryz.ntmps76 Tryz.results76 hP (by kernel_rfl) (by simp) (by first|rfl|simp) ?_
 simp -implicitDefEqProofs
 first|refine CallK.same (h1) rfl rfl ?_|refine CallQ.same (h1) rfl rfl ?_|refine CallQG.same _ (h1) rfl ?_|refine CallG.same _ (h1) rfl ?_|refine CallK.pv (h1) rfl rfl ?_
 simp -implicitDefEqProofs
 refine⟨⟨by omega,by unfold maxLen;omega⟩,?_⟩
 refine EndZ.ret [3] (.row 3) (by simp) (by simp[rowN])
end Go.Am
namespace Go.Am
open Go.Proofs
attribute [local simp] kindsO
def wasVd (f:Int→Verd) (ts:List Int):Nat→List AV
 |0=>[.int .u8 0,.int .i64 0]
 |k+1=>[.int .u8 (f (ts.getD k 0)).kind,.int .i64 (f (ts.getD k 0)).at_]
deriving instance DecidableEq for Verd
set_option maxRecDepth 8000 in
set_option maxHeartbeats 4000000 in
theorem lineVd_spec (p:Past) (a b:Int) (g:FuncId) (F:Net→Verd) (router:Int) (six:Bool) (x:Addr4) (hok:okP p=true) (hew:∀e∈p.evs,0≤e.seq)
  (hw:p.wf) (hg:∀n:Net,n.wf→netOk n=true→FSpec Tryz.prog g [n.av,.ptr 1 0,.ptr 2 0,.ptr 3 0] [kindsO,.box 3 [.int .i64 router],.box 4 [.bool six],.box 31 [.int .u64 x.hi,.int .u64 x.lo]] (F n).av [kindsO,.box 3 [.int .i64 router],.box 4 [.bool six],.box 31 [.int .u64 x.hi,.int .u64 x.lo]]) (hbd:∀t∈a::timesF p.evs a b,0≤t∧t≤1099511627776) (hasT:∀t∈a::timesF p.evs a b,askT p t=0):
  FSpec Tryz.prog 64 [p.av,.agg [.int .i64 a,.int .i64 b],.fn g [.ptr 1 0,.ptr 2 0,.ptr 3 0]] [kindsO,.box 3 [.int .i64 router],.box 4 [.bool six],.box 31 [.int .u64 x.hi,.int .u64 x.lo]] (.ptr 4 0) [kindsO,.box 3 [.int .i64 router],.box 4 [.bool six],.box 31 [.int .u64 x.hi,.int .u64 x.lo],lineVd 5,rowVd (lineP p F a b)]:=by
 have hl:=okP_len hok
 have htm:=timesK_spec p a b (by omega)
 refine FSpec.of_o (q:=[(2,.m [.p [] [],.p [] [],.a 0 1,.p [1] [],.p [1] [0],.a 1 0,.a 2 0,.a 3 0,.e [8,16]])]) Tryz.func64 (by kernel_rfl) rfl Tryz.ntmps64 Tryz.results64 hP (by kernel_rfl) (by simp) (by first|rfl|simp) ?_
 simp -implicitDefEqProofs
 refine CallK.outs [] (eachO_spec p a b) rfl (by simp) (by simp[AV.flat]) ?_
 simp -implicitDefEqProofs [rangeK]
 intro a0 b0 rr
 refine⟨_,_,_,[(1,.m [.p [1] [],.p [1] [],.a 0 1,.p [] [],.p [] [],.e [16,17],.e [15,18],.e [19],.p [] [],.p [0,1,2] []])],Tryz.func211,(by kernel_rfl),rfl,Tryz.ntmps211,Tryz.results211,(by kernel_rfl),(by simp),?_⟩
 simp -implicitDefEqProofs
 refine CallO.mk [] [17] htm (by simp) rfl (by simp) (by simp) (by simp) ?_
 simp -implicitDefEqProofs
 have hcc:=concatN_spec [[a],timesF p.evs a b] (by simp[sumM];have:=timesF_len p.evs a b;omega) (by simp)
 simp only[List.flatten_cons,List.flatten_nil,List.append_nil,List.singleton_append]at hcc
 have hcl:(a::timesF p.evs a b).length≤2000:=by have:=timesF_len p.evs a b;simp;omega
 refine CallK.outs [18,19] hcc rfl (by simp[rowM,rowN]) (by simp[AV.flat,rowN]) ?_
 generalize hts:a::timesF p.evs a b=ts at*
 simp -implicitDefEqProofs
 have h0:ts[0]?.getD 0=a:=by rw[←hts];rfl
 have hpos:0<ts.length:=by rw[←hts];simp
 refine LoopK.nil (.cl 7 0 126 4) ?_
 simp -implicitDefEqProofs
 refine LoopK.os (fun k:Nat=>[(0,.yld 14),(4,.ptr 12 0),(20,.im (.sl 1 (rowN ts))),(21,.int .i64 ts.length),(22,.int .i64 k)])
  (fun k=>[kindsO,.box 3 [.int .i64 router],.box 4 [.bool six],.box 31 [.int .u64 x.hi,.int .u64 x.lo],.box 43 [.int .i64 a,.int .i64 b],
   .box 121 [.fn g [.ptr 1 0,.ptr 2 0,.ptr 3 0]],lineVd 7,rowVd (accG (fun t=>F (thenF p t)) ts (k-1)),.box 119 [.ptr 6 0],
   .box 2 [.int .i64 (ts.getD (k-1) 0)],.box 35 (wasVd (fun t=>F (thenF p t)) ts k),.box 4 [.bool (decide (0<k))],bookI p,
   .sv a0 [(4,.ptr 4 0),(5,.ptr 5 0),(7,.ptr 8 0),(8,.ptr 9 0),(9,.ptr 10 0),(10,.ptr 11 0)],.lp b0 rr .ready none])
  (fun k=>k≤ts.length) (fun k=>ts.length-k) 0 [0,1,2,3,5,6,7,20,8,10,11,12,17,15,16] (Nat.zero_le _) (by simp[renM,accG,wasVd,h0];rintro _ _ (⟨rfl,rfl⟩|⟨rfl,rfl⟩|⟨rfl,rfl⟩|⟨rfl,rfl⟩|⟨rfl,rfl⟩|⟨rfl,rfl⟩)<;>rfl) ?_
 intro k hk
 by_cases hlt:k<ts.length
 ·have e1:IntKind.i64.wrap (k+1)=(k+1:Nat):=wrap64 (by omega) (by omega)
  have hgt:=rowN_get hlt
  have htk:=hasT ts[k] (List.getElem_mem hlt)
  have hat:=atK_spec p ts[k] hew (by omega) htk
  rw[thenW_ok hok]at hat
  have hgf:=hg (thenF p ts[k]) (allN_wf hw.1 fun e he=>(hw.2 e (List.mem_filter.1 he).1).2) (thenF_all hok ts[k]).2.2
  have hgd:ts[k]?.getD 0=ts[k]:=by rw[List.getElem?_eq_getElem hlt];rfl
  have hlen:=accG_len (fun t=>F (thenF p t)) ts (k-1)
  obtain⟨t,ht⟩:∃t,ts[k]=t:=⟨_,rfl⟩
  rw[ht]at hgt hat hgf hgd
  simp -implicitDefEqProofs [hlt,hgt,ht]
  refine CallO.mk [] [12] hat (by simp) rfl (by simp) (by simp) (by simp) ?_
  simp -implicitDefEqProofs
  refine⟨13,_,rfl,rfl,rfl,fun aI=>?_⟩
  simp -implicitDefEqProofs [putL,asgK]
  refine⟨14,by simp,?_⟩
  simp -implicitDefEqProofs
  cases k with
  |zero=>
   simp -implicitDefEqProofs [wasVd,accG]
   refine CallO.mk [] [0,1,2,3] hgf (by simp) rfl (by simp) (by simp) (by simp) ?_
   simp -implicitDefEqProofs
   refine endRd_normal 17 14 (by simp;rfl) (by simp) ?_
   simp -implicitDefEqProofs
   refine Again.os 1 [0,1,2,3,4,5,6,7,8,9,10,11,12,13,14] hlt (by omega) ?_
   simp -implicitDefEqProofs [renM,accG,wasVd,hgd,show IntKind.i64.wrap 1=1 by decide]
   rintro _ _ (⟨rfl,rfl⟩|⟨rfl,rfl⟩|⟨rfl,rfl⟩|⟨rfl,rfl⟩|⟨rfl,rfl⟩|⟨rfl,rfl⟩)<;>rfl
  |succ j=>
   have hacc:accG (fun t=>F (thenF p t)) ts (j+1)=addPc (accG (fun t=>F (thenF p t)) ts j) (ts[j]?.getD 0) (t-1) (F (thenF p (ts[j]?.getD 0))):=by
    rw[accG,List.getD_eq_getElem?_getD,List.getD_eq_getElem?_getD,hgd]
   have htb:=hbd t (by rw[←ht];exact List.getElem_mem hlt)
   have e3:IntKind.i64.wrap (t-1)=t-1:=wrap64 (by omega) (by omega)
   have hws:wasVd (fun t=>F (thenF p t)) ts (j+1+1)=[.int .u8 (F (thenF p t)).kind,.int .i64 (F (thenF p t)).at_]:=by
    rw[wasVd,List.getD_eq_getElem?_getD,hgd]
   rw[Nat.add_sub_cancel]at hlen
   simp -implicitDefEqProofs [wasVd,e3]
   generalize ts[j]?.getD 0=s at*
   generalize F (thenF p s)=W at*
   generalize hH:F (thenF p t)=H at*
   generalize accG (fun t=>F (thenF p t)) ts j=L at*
   by_cases hL:∃L' y,L=L'++[y]∧y.v=W
   ·obtain⟨L',y,rfl,rfl⟩:=hL
    rw[addPc_ext]at hacc
    rw[List.length_append,List.length_singleton]at hlen
    refine CallO.mk [] [6,7] (addVd_ext L' y s (t-1) (by omega)) (by simp) rfl (by simp) (by simp) (by simp) ?_
    simp -implicitDefEqProofs
    refine CallO.mk [] [0,1,2,3] hgf (by simp) rfl (by simp) (by simp) (by simp) ?_
    simp -implicitDefEqProofs
    refine endRd_normal 17 14 (by simp;rfl) (by simp) ?_
    simp -implicitDefEqProofs
    refine Again.os (j+1+1) [0,1,2,3,4,5,6,7,8,9,10,11,12,13,14] hlt (by omega) ?_
    simp -implicitDefEqProofs at e1
    simp -implicitDefEqProofs [renM,e1,hacc,hws,hgd,hH]
    rintro _ _ (⟨rfl,rfl⟩|⟨rfl,rfl⟩|⟨rfl,rfl⟩|⟨rfl,rfl⟩|⟨rfl,rfl⟩|⟨rfl,rfl⟩)<;>rfl
   ·have hne:∀y,L.getLast? =some y→y.v≠W:=fun y hy h=>hL (by
     rcases List.eq_nil_or_concat L with rfl|⟨L',z,rfl⟩
     ·cases hy
     ·rw[List.concat_eq_append]at hy⊢
      simp at hy
      exact⟨L',z,rfl,by rw[hy];exact h⟩)
    rw[addPc_new _ _ _ _ hne]at hacc
    refine CallO.mk [] [6,7] (addVd_new L s (t-1) W (by omega) hne) (by simp) rfl (by simp) (by simp) (by simp) ?_
    simp -implicitDefEqProofs
    refine CallO.mk [] [0,1,2,3] hgf (by simp) rfl (by simp) (by simp) (by simp) ?_
    simp -implicitDefEqProofs
    refine endRd_normal 17 14 (by simp;rfl) (by simp) ?_
    simp -implicitDefEqProofs
    refine Again.os (j+1+1) [0,1,2,3,4,5,6,19,8,9,10,11,12,13,14] hlt (by omega) ?_
    simp -implicitDefEqProofs at e1
    simp -implicitDefEqProofs [renM,e1,hacc,hws,hgd,hH]
    rintro _ _ (⟨rfl,rfl⟩|⟨rfl,rfl⟩|⟨rfl,rfl⟩|⟨rfl,rfl⟩|⟨rfl,rfl⟩|⟨rfl,rfl⟩)<;>rfl
 ·have hkk:k=ts.length:=by omega
  subst hkk
  obtain⟨n,hn⟩:∃n,ts.length=n+1:=⟨ts.length-1,by omega⟩
  have hline:lineP p F a b=addPc (accG (fun t=>F (thenF p t)) ts n) (ts[n]?.getD 0) b (F (thenF p (ts[n]?.getD 0))):=by
   unfold lineP
   rw[hts,lineG_acc _ _ _ n hn,List.getD_eq_getElem?_getD]
  rw[hline,hn]
  have hlen:=accG_len (fun t=>F (thenF p t)) ts n
  simp -implicitDefEqProofs [wasVd]
  generalize ts[n]?.getD 0=s at*
  generalize F (thenF p s)=W at*
  generalize accG (fun t=>F (thenF p t)) ts n=L at*
  refine⟨13,_,14,.ready,none,rfl,rfl,.inl rfl,?_⟩
  simp -implicitDefEqProofs [pendK]
  by_cases hL:∃L' y,L=L'++[y]∧y.v=W
  ·obtain⟨L',y,rfl,rfl⟩:=hL
   rw[addPc_ext]
   rw[List.length_append,List.length_singleton]at hlen
   refine CallO.mk [] [6,7] (addVd_ext L' y s b (by omega)) (by simp) rfl (by simp) (by simp) (by simp) ?_
   simp -implicitDefEqProofs
   refine EndO.ret [] [0,1,2,3,6,7] (.ptr 6 0) (by simp) ?_
   simp -implicitDefEqProofs
  ·have hne:∀y,L.getLast? =some y→y.v≠W:=fun y hy h=>hL (by
    rcases List.eq_nil_or_concat L with rfl|⟨L',z,rfl⟩
    ·cases hy
    ·rw[List.concat_eq_append]at hy⊢
     simp at hy
     exact⟨L',z,rfl,by rw[hy];exact h⟩)
   rw[addPc_new _ _ _ _ hne]
   refine CallO.mk [] [6,7] (addVd_new L s b W (by omega) hne) (by simp) rfl (by simp) (by simp) (by simp) ?_
   simp -implicitDefEqProofs
   refine EndO.ret [] [0,1,2,3,6,15] (.ptr 6 0) (by simp) ?_
   simp -implicitDefEqProofs
end Go.Am
namespace Go.Am
open Go.Proofs
@[simp] def capV (r:Int) (six:Bool) (x:Addr4):List AObj:=[.box 3 [.int .i64 r],.box 4 [.bool six],.box 31 [.int .u64 x.hi,.int .u64 x.lo]]
set_option maxRecDepth 8000 in
theorem wayW_spec (n:Net) (six:Bool) (a:Addr4) (r:Int) (hw:n.wf) (ha:a.wf) (h1:rightN n six a=true):
  FSpec Tryz.prog 57 [n.av,.int .i64 r,.bool six,a.av] [kindsO] (.tup [.im (.sl 1 (rowI (wayN n six a r).1)),(wayN n six a r).2.av]) [kindsO]:=by
 have h2:=way1_spec n six a r hw ha h1
 refine FSpec.of_o (q:=[]) Tryz.func57 (by kernel_rfl) rfl Tryz.ntmps57 Tryz.results57 hP (by kernel_rfl) (by simp) (by first|rfl|simp) ?_
 simp -implicitDefEqProofs [kindsO]
 refine CallO.mk [] [0,4] h2 (by simp) rfl (by simp[kindsO,tripC]) (by simp[kindsO,tripC]) (by simp[kindsO,tripC]) ?_
 simp -implicitDefEqProofs [kindsO,tripC]
 refine EndO.ret [] [0] (.tup [.im (.sl 1 (rowI (wayN n six a r).1)),(wayN n six a r).2.av]) (by simp) ?_
 simp
theorem rightN_of {n:Net} {six:Bool} {a:Addr4} (h1:netOk n=true) (h2:rightA six a=true):rightN n six a=true:=by unfold rightN;simp[h1,h2]
set_option maxRecDepth 8000 in
theorem verd1_spec (n:Net) (r:Int) (six:Bool) (x:Addr4) (hw:n.wf) (hok:netOk n=true) (hx:x.wf) (hr:rightA six x=true):
  FSpec Tryz.prog 65 [n.av,.ptr 1 0,.ptr 2 0,.ptr 3 0] (kindsO::capV r six x) (wayN n six x r).2.av (kindsO::capV r six x):=by
 have h2:=wayW_spec n six x r hw hx (rightN_of hok hr)
 refine FSpec.of_o (q:=[]) Tryz.func65 (by kernel_rfl) rfl Tryz.ntmps65 Tryz.results65 hP (by kernel_rfl) (by simp) (by first|rfl|simp) ?_
 simp -implicitDefEqProofs [kindsO]
 refine CallO.mk [] [0] h2 (by simp) rfl (by simp[kindsO]) (by simp[kindsO]) (by simp[kindsO]) ?_
 simp -implicitDefEqProofs [kindsO]
 refine EndO.ret [] [0,1,2,3] (wayN n six x r).2.av (by simp) ?_
 simp
theorem askV_T {p:Past} {r:Int} {six:Bool} {x:Addr4} {a b:Int} (h:askV p r six x a b=0):∀t∈a::timesF p.evs a b,askT p t=0:=by
 obtain⟨hok,hr,ho,h3,h4,h5⟩:=askV_zero h
 intro t ht
 have h1:=timesF_bd ho ht
 have h2:a≤t:=by
  rcases List.mem_cons.1 ht with rfl|ht
  ·exact Int.le_refl _
  ·have:=timesF_in ht;omega
 unfold askT
 rw[if_neg (by omega),if_neg (by omega)]
def verdE (p:Past) (r:Int) (six:Bool) (x:Addr4) (a b:Int):Int:=if askV p r six x a b=0 then(if 1024<(lineP p (fun n=>(wayN n six x r).2) a b).length then 11 else 0)else askV p r six x a b
def verdL (p:Past) (r:Int) (six:Bool) (x:Addr4) (a b:Int):List (Pc Verd):=if verdE p r six x a b=0 then lineP p (fun n=>(wayN n six x r).2) a b else[]
set_option maxRecDepth 8000 in
set_option maxHeartbeats 4000000 in
theorem verdictsP_spec (p:Past) (r:Int) (six:Bool) (x:Addr4) (a b:Int) (hw:p.wf) (hx:x.wf):
  FSpec Tryz.prog 19 [p.av,.int .i64 r,.bool six,x.av,.agg [.int .i64 a,.int .i64 b]] [kindsO]
   (.tup [.im (.sl 4 ((verdL p r six x a b).map Pc.ivVd)),.int .i64 (verdE p r six x a b)]) [kindsO]:=by
 have h1:=askedV_spec p r six x a b hw
 refine FSpec.of_o (q:=[]) Tryz.func19 (by kernel_rfl) rfl Tryz.ntmps19 Tryz.results19 hP (by kernel_rfl) (by simp) (by first|rfl|simp) ?_
 simp -implicitDefEqProofs [kindsO]
 first|refine CallK.same (h1) rfl rfl ?_|refine CallQ.same (h1) rfl rfl ?_|refine CallQG.same _ (h1) rfl ?_|refine CallG.same _ (h1) rfl ?_|refine CallK.pv (h1) rfl rfl ?_
 simp -implicitDefEqProofs
 refine⟨fun h=>?_,fun h=>?_⟩
 ·refine EndO.ret [] [0] (.tup [.im (.sc (.slice none 0 0)),.int .i64 (askV p r six x a b)]) (by simp) ?_
  simp -implicitDefEqProofs [verdL,verdE,h,kindsO]
 obtain⟨hok,hr,ho,h3,h4,h5⟩:=askV_zero h
 have hl:=lineVd_spec p a b 65 (fun n=>(wayN n six x r).2) r six x hok (fun e he=>(hw.2 e he).1) hw (fun n h1 h2=>verd1_spec n r six x h1 h2 hx hr) (fun t ht=>timesF_bd ho ht) (askV_T h)
 have hll:=lineP_len p (fun n=>(wayN n six x r).2) a b
 have hl1:=okP_len hok
 have hl2:=timesF_len p.evs a b
 have hE:verdE p r six x a b=if 1024<(lineP p (fun n=>(wayN n six x r).2) a b).length then 11 else 0:=by unfold verdE;rw[if_pos h]
 have hL:verdL p r six x a b=if 1024<(lineP p (fun n=>(wayN n six x r).2) a b).length then[]else lineP p (fun n=>(wayN n six x r).2) a b:=by
  unfold verdL;rw[hE];split<;>simp
 rw[hE,hL]
 generalize lineP p (fun n=>(wayN n six x r).2) a b=L at*
 refine CallO.mk [] [0,2,3,4] hl (by simp) rfl (by simp[kindsO]) (by simp[kindsO]) (by simp[kindsO]) ?_
 simp -implicitDefEqProofs [kindsO]
 refine⟨fun h'=>?_,fun h'=>?_⟩
 ·have hb:1024<L.length:=by omega
  refine EndO.ret [] [0] (.tup [.im (.sc (.slice none 0 0)),.int .i64 11]) (by simp) ?_
  simp -implicitDefEqProofs [hb]
 have hb:¬1024<L.length:=by omega
 rw[if_neg hb,if_neg hb]
 refine LoopK.nil (.sl 14 71 4) ?_
 simp -implicitDefEqProofs
 refine LoopK.os (fun k:Nat=>[(14,.row 2),(39,.row 1),(40,.int .i64 L.length),(41,.int .i64 k)])
  (fun k=>[kindsO,rowVd L,.row 71 4 ((L.take k).map Pc.ivVd)])
  (fun k=>k≤L.length) (fun k=>L.length-k) 0 [0,7,8] (Nat.zero_le _) (by simp[kindsO]) ?_
 intro k hk
 by_cases hlt:k<L.length
 ·have e1:IntKind.i64.wrap (k+1)=(k+1:Nat):=wrap64 (by omega) (by omega)
  have ht:L.take (k+1)=L.take k++[L[k]]:=by rw[List.take_add_one,List.getElem?_eq_getElem hlt];rfl
  obtain⟨y,hy⟩:∃y,L[k]=y:=⟨_,rfl⟩
  rw[hy]at ht
  have ht2:=congrArg (List.map Pc.ivVd) ht
  simp at ht2
  simp -implicitDefEqProofs [hlt,hy,kindsO]
  refine⟨⟨by omega,by unfold maxLen;omega⟩,?_⟩
  refine Again.os (k+1) [0,1,5] hlt (by omega) ?_
  simp -implicitDefEqProofs [e1,ht2,kindsO]
 ·have hkk:k=L.length:=by omega
  subst hkk
  simp -implicitDefEqProofs [kindsO]
  refine EndO.ret [2] [0] (.tup [.row 2,.int .i64 0]) (by simp) ?_
  simp -implicitDefEqProofs
end Go.Am
namespace Go.Proofs
def Tryz.sortRun_ren:Go.Shelf.Ren:=⟨fun|6=>146|15=>204|14=>215|28=>265|29=>266|20=>272|21=>273|22=>274|23=>275|24=>276|25=>277|26=>278|27=>279|46=>344|47=>328|48=>329|49=>345|50=>346|57=>389|n=>n,fun|22=>132|24=>251|25=>253|3=>3|39=>236|0=>0|53=>378|55=>29|4=>4|46=>371|45=>370|50=>175|5=>5|9=>9|66=>425|70=>429|76=>481|77=>482|n=>n,fun|n=>n⟩
theorem Tryz.sortRun:SlLaysF0.n6 Tryz.prog Tryz.sortRun_ren:={
 mixed:=by kernel_rfl,
 f6:=⟨Tryz.f146.name,by decide,Tryz.func146.trans (congrArg some (by kernel_rfl))⟩,
 f14:=⟨Tryz.f215.name,by decide,Tryz.func215.trans (congrArg some (by kernel_rfl))⟩,
 f15:=Tryz.func204.trans (congrArg some (by kernel_rfl)),
 f20:=⟨Tryz.f272.name,by decide,Tryz.func272.trans (congrArg some (by kernel_rfl))⟩,
 f21:=⟨Tryz.f273.name,by decide,Tryz.func273.trans (congrArg some (by kernel_rfl))⟩,
 f22:=⟨Tryz.f274.name,by decide,Tryz.func274.trans (congrArg some (by kernel_rfl))⟩,
 f23:=⟨Tryz.f275.name,by decide,Tryz.func275.trans (congrArg some (by kernel_rfl))⟩,
 f24:=⟨Tryz.f276.name,by decide,Tryz.func276.trans (congrArg some (by kernel_rfl))⟩,
 f25:=⟨Tryz.f277.name,by decide,Tryz.func277.trans (congrArg some (by kernel_rfl))⟩,
 f26:=⟨Tryz.f278.name,by decide,Tryz.func278.trans (congrArg some (by kernel_rfl))⟩,
 f27:=⟨Tryz.f279.name,by decide,Tryz.func279.trans (congrArg some (by kernel_rfl))⟩,
 f28:=Tryz.func265.trans (congrArg some (by kernel_rfl)),
 f29:=Tryz.func266.trans (congrArg some (by kernel_rfl)),
 f46:=⟨Tryz.f344.name,by decide,Tryz.func344.trans (congrArg some (by kernel_rfl))⟩,
 f47:=Tryz.func328.trans (congrArg some (by kernel_rfl)),
 f48:=Tryz.func329.trans (congrArg some (by kernel_rfl)),
 f49:=⟨Tryz.f345.name,by decide,Tryz.func345.trans (congrArg some (by kernel_rfl))⟩,
 f50:=⟨Tryz.f346.name,by decide,Tryz.func346.trans (congrArg some (by kernel_rfl))⟩,
 f57:=⟨Tryz.f389.name,by decide,Tryz.func389.trans (congrArg some (by kernel_rfl))⟩,
 t0:=Tryz.underlying0,
 a0:=Tryz.isAgg0,
 z0:=Tryz.sizeOf0,
 v0:=Tryz.zeroValue0,
 t3:=Tryz.underlying3,
 a3:=Tryz.isAgg3,
 z3:=Tryz.sizeOf3,
 v3:=Tryz.zeroValue3,
 t4:=Tryz.underlying4,
 a4:=Tryz.isAgg4,
 z4:=Tryz.sizeOf4,
 v4:=Tryz.zeroValue4,
 t5:=Tryz.underlying5,
 a5:=Tryz.isAgg5,
 z5:=Tryz.sizeOf5,
 v5:=Tryz.zeroValue5,
 t9:=Tryz.underlying9,
 a9:=Tryz.isAgg9,
 z9:=Tryz.sizeOf9,
 v9:=Tryz.zeroValue9,
 t22:=Tryz.underlying132,
 a22:=Tryz.isAgg132,
 z22:=Tryz.sizeOf132,
 v22:=Tryz.zeroValue132,
 t25:=Tryz.underlying253,
 a25:=Tryz.isAgg253,
 z25:=Tryz.sizeOf253,
 v25:=Tryz.zeroValue253,
 t39:=Tryz.underlying236,
 a39:=Tryz.isAgg236,
 z39:=Tryz.sizeOf236,
 v39:=Tryz.zeroValue236,
 t45:=Tryz.underlying370,
 a45:=Tryz.isAgg370,
 z45:=Tryz.sizeOf370,
 v45:=Tryz.zeroValue370,
 t46:=Tryz.underlying371,
 a46:=Tryz.isAgg371,
 z46:=Tryz.sizeOf371,
 v46:=Tryz.zeroValue371,
 t50:=Tryz.underlying175,
 a50:=Tryz.isAgg175,
 z50:=Tryz.sizeOf175,
 v50:=Tryz.zeroValue175,
 t53:=Tryz.underlying378,
 a53:=Tryz.isAgg378,
 z53:=Tryz.sizeOf378,
 v53:=Tryz.zeroValue378,
 t55:=Tryz.underlying29,
 a55:=Tryz.isAgg29,
 z55:=Tryz.sizeOf29,
 v55:=Tryz.zeroValue29,
 t66:=Tryz.underlying425,
 a66:=Tryz.isAgg425,
 z66:=Tryz.sizeOf425,
 v66:=Tryz.zeroValue425,
 t70:=Tryz.underlying429,
 a70:=Tryz.isAgg429,
 z70:=Tryz.sizeOf429,
 v70:=Tryz.zeroValue429,
 t76:=Tryz.underlying481,
 a76:=Tryz.isAgg481,
 z76:=Tryz.sizeOf481,
 v76:=Tryz.zeroValue481,
 t77:=Tryz.underlying482,
 a77:=Tryz.isAgg482,
 z77:=Tryz.sizeOf482,
 v77:=Tryz.zeroValue482}
end Go.Proofs
namespace Go.Am
open Go.Proofs
@[simp] def fieldC:List AV:=[.int .i64 0,.int .i64 1099511627776,.fn 142 [],.fn 143 [],.fn 144 []]
@[simp] def fieldO:AObj:=.box 136 fieldC
theorem joinC_spec (x y:Ivl):FSpec Tryz.prog 147 [.agg [.int .i64 x.1,.int .i64 x.2],.agg [.int .i64 y.1,.int .i64 y.2],.ptr 0 0] [fieldO] (.int .i64 (cmpI x.1 y.1)) [fieldO]:=by
 have h1:=cmp64_spec x.1 y.1
 refine FSpec.of_o (q:=[]) Tryz.func147 (by kernel_rfl) rfl Tryz.ntmps147 Tryz.results147 hP (by kernel_rfl) (by simp) (by first|rfl|simp) ?_
 simp -implicitDefEqProofs
 first|refine CallK.same (h1) rfl rfl ?_|refine CallQ.same (h1) rfl rfl ?_|refine CallQG.same _ (h1) rfl ?_|refine CallG.same _ (h1) rfl ?_|refine CallK.pv (h1) rfl rfl ?_
 simp -implicitDefEqProofs
 refine EndO.ret [] [0] (.int .i64 (cmpI x.1 y.1)) (by simp) (by simp)
theorem cloNRun_spec (A:Option Addr) (c:Nat):FSpec Tryz.prog 145 [.im (.sc (.slice A 0 c))] [] (.row 0) [.row 251 2 []]:=by
 refine FSpec.of_o (q:=[]) Tryz.func145 (by kernel_rfl) rfl Tryz.ntmps145 Tryz.results145 hP (by kernel_rfl) (by simp) (by first|rfl|simp) ?_
 cases A with
 |none=>
  cases c with
  |zero=>
   simp -implicitDefEqProofs
   refine⟨[.sl 2 251 2],[],[0],.row 0,by simp[St.nils],by simp[St.nils]⟩
  |succ c=>
   simp -implicitDefEqProofs
   refine⟨[.sl 2 251 2],[],[0],.row 0,by simp[St.nils],by simp[St.nils]⟩
 |some ad=>
  simp -implicitDefEqProofs
  refine EndO.ret [] [1] (.row 1) (by simp) (by simp)
theorem cloRun_spec (xs:List (List IV)) (hl:xs.length≤4096):FSpec Tryz.prog 145 [.im (.sl 2 xs)] [] (.row 0) [.row 251 2 xs]:=by
 cases xs with
 |nil=>exact FSpec.nilArg cloNRun_spec
 |cons x xs=>
  refine FSpec.of_o (q:=[]) Tryz.func145 (by kernel_rfl) rfl Tryz.ntmps145 Tryz.results145 hP (by kernel_rfl) (by simp) (by first|rfl|simp) ?_
  simp -implicitDefEqProofs
  simp at hl
  refine⟨⟨by omega,by unfold maxLen;omega⟩,?_⟩
  refine EndO.ret [] [1] (.row 1) (by simp) (by simp)
def unI:List IV→Ivl
 |[.sc (.int _ a),.sc (.int _ b)]=>(a,b)
 |_=>(0,0)
theorem unI_iv (x:Ivl):unI (ivI x)=x:=rfl
def sortF (l:List Ivl):List Ivl:=l.mergeSort fun x y=>decide (x.1≤y.1)
theorem sortF_perm (l:List Ivl):(sortF l).Perm l:=List.mergeSort_perm l _
theorem sortF_sorted (l:List Ivl):(sortF l).Pairwise (fun x y=>x.1≤y.1):=by
 have:=List.pairwise_mergeSort (le:=fun(x y:Ivl)=>decide (x.1≤y.1)) (fun a b c h1 h2=>by simp at*;omega) (fun a b=>by simp;omega) l
 exact this.imp fun h=>by simpa using h
theorem sortF_id {l:List Ivl} (h:l.Pairwise (fun x y=>x.1≤y.1)):sortF l=l:=List.mergeSort_of_pairwise (h.imp fun h=>by simpa using h)
theorem sortedF_eq:∀{a b:List Ivl},a.Perm b→(a.map (·.1)).Nodup→a.Pairwise (fun x y=>x.1≤y.1)→b.Pairwise (fun x y=>x.1≤y.1)→a=b
 |[],b,hp,_,_,_=>by rw[List.nil_perm.1 hp]
 |x::a,[],hp,_,_,_=>by cases List.perm_nil.1 hp
 |x::a,y::b,hp,hn,h1,h2=>by
  have hxy:x=y:=by
   have m1:y∈x::a:=hp.mem_iff.2 (by simp)
   have m2:x∈y::b:=hp.mem_iff.1 (by simp)
   have l1:x.1≤y.1:=by rcases List.mem_cons.1 m1 with h|h;rw[h];exact Int.le_refl _;exact(List.pairwise_cons.1 h1).1 y h
   have l2:y.1≤x.1:=by rcases List.mem_cons.1 m2 with h|h;rw[h];exact Int.le_refl _;exact(List.pairwise_cons.1 h2).1 x h
   rcases List.mem_cons.1 m1 with h|h
   ·exact h.symm
   ·simp only[List.map_cons,List.nodup_cons,List.mem_map]at hn
    exact absurd ⟨y,h,by omega⟩ hn.1
  subst hxy
  rw[sortedF_eq (List.perm_cons x|>.1 hp) (by simp only[List.map_cons,List.nodup_cons]at hn;exact hn.2) (List.pairwise_cons.1 h1).2 (List.pairwise_cons.1 h2).2]
theorem cmpI_lt0 (a b:Int):cmpI a b<0↔a<b:=by
 unfold cmpI
 repeat' split
 all_goals omega
theorem bitsLenR64_0:FSpec Tryz.prog 266 [.int .u64 0] [] (.int .i64 0) []:=by
 refine FSpec.of_flat (q:=[]) Tryz.func266 (by kernel_rfl) rfl Tryz.ntmps266 Tryz.results266 hP (by kernel_rfl) (by simp) (by first|rfl|simp) ?_
 simp
 decide+kernel
theorem bitsLenR0:FSpec Tryz.prog 204 [.int .u64 0] [] (.int .i64 0) []:=by
 refine FSpec.of_flat (q:=[]) Tryz.func204 (by kernel_rfl) rfl Tryz.ntmps204 Tryz.results204 hP (by kernel_rfl) (by simp) (by first|rfl|simp) ?_
 simp
 first|refine CallK.same (bitsLenR64_0) rfl rfl ?_|refine CallQ.same (bitsLenR64_0) rfl rfl ?_|refine CallQG.same _ (bitsLenR64_0) rfl ?_|refine CallG.same _ (bitsLenR64_0) rfl ?_|refine CallK.pv (bitsLenR64_0) rfl rfl ?_
 simp
theorem insNoneR_spec (T:TypeId):FSpec Tryz.prog 272 [.row 0,.int .i64 0,.int .i64 0,.fn 147 [.ptr 1 0]] [.row T 2 [],fieldO] (.tup []) [.row T 2 [],fieldO]:=by
 have e1:IntKind.i64.wrap 1=1:=by decide
 refine FSpec.of_o (q:=[(4,.n 14),(6,.m [.p [] [],.p [] [],.p [1] [],.p [1] [],.p [1] [],.p [] [],.p [] [],.p [] [],.p [] [],.p [] [],.p [] [],.p [] [],.p [] [],.p [] [],.p [] [],.e [51,46]])]) Tryz.func272 (by kernel_rfl) rfl Tryz.ntmps272 Tryz.results272 hP (by kernel_rfl) (by simp) (by first|rfl|simp) ?_
 simp[e1]
 refine LoopK.os (fun _:Unit=>[(0,.row 0),(2,.int .i64 0),(8,.int .i64 1)]) (fun _=>[.row T 2 [],fieldO]) (fun _=>True) (fun _=>0) () [0,1] trivial (by simp) ?_
 intro _ _
 simp
 refine EndO.normal [] [0,1] (.tup []) (by simp) (by simp)
theorem pdqNoneR_spec (T:TypeId):FSpec Tryz.prog 215 [.row 0,.int .i64 0,.int .i64 0,.int .i64 0,.fn 147 [.ptr 1 0]] [.row T 2 [],fieldO] (.tup []) [.row T 2 [],fieldO]:=by
 have e0:IntKind.i64.wrap 0=0:=by decide
 refine FSpec.of_o (q:=[(17,.n 13)]) Tryz.func215 (by kernel_rfl) rfl Tryz.ntmps215 Tryz.results215 hP (by kernel_rfl) (by simp) (by first|rfl|simp) ?_
 simp
 refine LoopK.os (fun _:Unit=>[(0,.row 0),(1,.int .i64 0),(2,.int .i64 0),(3,.int .i64 0),(4,.fn 147 [.ptr 1 0])]) (fun _=>[.row T 2 [],fieldO]) (fun _=>True) (fun _=>0) () [0,1] trivial (by simp) ?_
 intro _ _
 simp[e0]
 refine CallO.mk [] [0,1] (insNoneR_spec T) (by simp) rfl (by simp) (by simp) (by simp) ?_
 simp
 refine EndO.ret [] [0,1] (.tup []) (by simp) (by simp)
theorem sortNoneR_spec (T:TypeId):FSpec Tryz.prog 146 [.row 0,.fn 147 [.ptr 1 0]] [.row T 2 [],fieldO] (.tup []) [.row T 2 [],fieldO]:=by
 have e0:IntKind.u64.wrap 0=0:=by decide
 refine FSpec.of_o (q:=[]) Tryz.func146 (by kernel_rfl) rfl Tryz.ntmps146 Tryz.results146 hP (by kernel_rfl) (by simp) (by first|rfl|simp) ?_
 simp[e0]
 first|refine CallK.same (bitsLenR0) rfl rfl ?_|refine CallQ.same (bitsLenR0) rfl rfl ?_|refine CallQG.same _ (bitsLenR0) rfl ?_|refine CallG.same _ (bitsLenR0) rfl ?_|refine CallK.pv (bitsLenR0) rfl rfl ?_
 simp
 refine CallO.mk [] [0,1] (pdqNoneR_spec T) (by simp) rfl (by simp) (by simp) (by simp) ?_
 simp
 refine EndO.normal [] [0,1] (.tup []) (by simp) (by simp)
set_option maxRecDepth 8000 in
theorem sortRun_spec (l:List Ivl) (hd:(l.map (·.1)).Nodup) (hl:l.length≤1000000000):
  FSpec Tryz.prog 146 [.row 0,.fn 147 [.ptr 1 0]] [.row 251 2 (l.map ivI),fieldO] (.tup []) [.row 251 2 ((sortF l).map ivI),fieldO]:=by
 by_cases hne:l=[]
 ·subst hne
  rw[show sortF []=[]by simp[sortF]]
  exact sortNoneR_spec _
 have hmem:∀x,x∈l.map ivI→∃a,a∈l∧x=ivI a:=fun x hx=>by
  obtain⟨a,h1,h2⟩:=List.mem_map.1 hx
  exact⟨a,h1,h2.symm⟩
 have hun:∀zs:List Ivl,(zs.map ivI).map unI=zs:=fun zs=>by
  rw[List.map_map]
  conv=>rhs;rw[←List.map_id zs]
  exact List.map_congr_left fun a _=>unI_iv a
 refine sortFuncC Tryz.sortRun 251 2 (by decide) (fun w=>by first|rfl|exact Tryz.isAgg251 w) (fun w=>by first|rfl|exact Tryz.sizeOf251 w) _ _ (fun x y=>cmpI (unI x).1 (unI y).1) (fun x=>(unI x).1) (enters_of Tryz.func147 (by kernel_rfl) rfl) (by simpa using hne) 136 fieldC ?_ ?_ ?_ (by simp;omega) ?_
 ·intro x hx
  simp only[fieldC,List.mem_cons,List.not_mem_nil,or_false]at hx
  rcases hx with rfl|rfl|rfl|rfl|rfl
  ·exact rigid_sc _
  ·exact rigid_sc _
  ·exact rigid_fn _
  ·exact rigid_fn _
  ·exact rigid_fn _
 ·intro x y hx hy
  obtain⟨a,_,rfl⟩:=hmem x hx
  obtain⟨b,_,rfl⟩:=hmem y hy
  exact joinC_spec a b
 ·intro x y hx hy
  exact cmpI_lt0 _ _
 ·intro ys hp hs
  have hy:ys=(ys.map unI).map ivI:=by
   rw[List.map_map]
   conv=>lhs;rw[←List.map_id ys]
   refine List.map_congr_left fun y hy=>?_
   obtain⟨a,_,rfl⟩:=hmem y (hp.mem_iff.1 hy)
   rfl
  have hpz:(ys.map unI).Perm l:=by
   have:=hp.map unI
   rw[hun]at this
   exact this
  rw[hy]
  congr 1
  refine sortedF_eq (hpz.trans (sortF_perm l).symm) ((hpz.map _).nodup_iff.2 hd) ?_ (sortF_sorted l)
  rw[List.pairwise_map]
  exact hs
end Go.Am
namespace Go.Am
open Go.Proofs
def joinStep (out:List Ivl) (x:Ivl):List Ivl:=match out.getLast? with
 |none=>[x]
 |some y=>if y.2≠1099511627776∧IntKind.i64.wrap (y.2+1)<x.1 then out++[x]else if y.2<x.2 then out.dropLast++[(y.1,x.2)]else out
def joinF (l:List Ivl):List Ivl:=(sortF l).foldl joinStep []
theorem mod_endR {β:Type} (g:β→β) (r:β):∀l:List β,(l++[r]).modify l.length g=l++[g r]
 |[]=>rfl
 |y::l=>by
  show y::(l++[r]).modify l.length g=y::(l++[g r])
  rw[mod_endR g r l]
theorem joinStep_len (out:List Ivl) (x:Ivl):(joinStep out x).length≤out.length+1:=by
 unfold joinStep
 split
 ·simp
 ·rename_i y hy
  have:out≠[]:=by intro h;rw[h]at hy;simp at hy
  have:=List.length_pos_iff.2 this
  repeat' split
  all_goals simp
  all_goals omega
theorem foldJ_len:∀(l out:List Ivl),(l.foldl joinStep out).length≤out.length+l.length
 |[],out=>by simp
 |x::l,out=>by
  have h1:=foldJ_len l (joinStep out x)
  have h2:=joinStep_len out x
  simp only[List.foldl_cons,List.length_cons]
  omega
set_option maxRecDepth 8000 in
set_option maxHeartbeats 4000000 in
theorem joinI_spec (l:List Ivl) (hd:(l.map (·.1)).Nodup) (hl:l.length≤4096):
  FSpec Tryz.prog 72 [fieldI,.im (.sl 2 (l.map ivI))] [] (.im (.sl 2 ((joinF l).map ivI))) []:=by
 have hc:=cloRun_spec (l.map ivI) (by simpa using hl)
 have hs:=sortRun_spec l hd (by omega)
 have hsl:(sortF l).length=l.length:=(sortF_perm l).length_eq
 unfold joinF
 refine FSpec.of_z (q:=[(8,.n 24),(10,.n 9)]) Tryz.func72 (by kernel_rfl) rfl Tryz.ntmps72 Tryz.results72 hP (by kernel_rfl) (by simp) (by first|rfl|simp) ?_
 simp -implicitDefEqProofs
 refine CallK.outs [] hc rfl (by simp) (by simp[AV.flat]) ?_
 simp -implicitDefEqProofs
 refine CallO.mk [] [1,0] hs (by simp) rfl (by simp) (by simp) (by simp) ?_
 generalize sortF l=S at*
 simp -implicitDefEqProofs
 refine LoopK.nil (.sl 5 251 2) ?_
 simp -implicitDefEqProofs
 refine LoopK.os (fun k:Nat=>[(2,.ptr 0 0),(5,.row 2),(14,.row 1),(15,.int .i64 S.length),(16,.int .i64 k)])
  (fun k=>[fieldO,.row 251 2 (S.map ivI),.row 251 2 (((S.take k).foldl joinStep []).map ivI)])
  (fun k=>k≤S.length) (fun k=>S.length-k) 0 [0,1,2] (Nat.zero_le _) (by simp) ?_
 intro k hk
 by_cases hlt:k<S.length
 ·have e1:IntKind.i64.wrap (k+1)=(k+1:Nat):=wrap64 (by omega) (by omega)
  have ht:S.take (k+1)=S.take k++[S[k]]:=by rw[List.take_add_one,List.getElem?_eq_getElem hlt];rfl
  have hgt:(S.map ivI)[k]? =some (ivI S[k]):=by rw[List.getElem?_map,List.getElem?_eq_getElem hlt];rfl
  have hfl:=foldJ_len (S.take k) []
  rw[List.length_take,List.length_nil]at hfl
  obtain⟨y,hy⟩:∃y,S[k]=y:=⟨_,rfl⟩
  rw[hy]at ht hgt
  have hacc:(S.take (k+1)).foldl joinStep []=joinStep ((S.take k).foldl joinStep []) y:=by rw[ht,List.foldl_append];rfl
  generalize (S.take k).foldl joinStep []=out at*
  rcases List.eq_nil_or_concat out with rfl|⟨out,z,rfl⟩
  ·have em:IntKind.i64.wrap (-1)= -1:=by decide
   simp -implicitDefEqProofs [hlt,hy,em]
   refine⟨[],.bool false,(fun h=>by cases h),rfl,?_⟩
   simp -implicitDefEqProofs
   refine .inl ⟨[],[],.bool false,(fun h=>by cases h),rfl,?_⟩
   simp -implicitDefEqProofs
   refine⟨by unfold maxLen;omega,?_⟩
   refine Again.os (k+1) [0,1,5] hlt (by omega) ?_
   simp -implicitDefEqProofs [e1,hacc,joinStep]
  ·rw[List.concat_eq_append]at*
   rw[List.length_append,List.length_singleton]at hfl
   have e2:IntKind.i64.wrap (out.length:Int)=(out.length:Int):=wrap64 (by omega) (by omega)
   have hn:=nextI_spec z.2
   have hc1:=cmp64_spec (IntKind.i64.wrap (z.2+1)) y.1
   have hc2:=cmp64_spec z.2 y.2
   simp -implicitDefEqProofs [hlt,hy,e2]
   refine⟨by omega,fun _=>by omega,?_⟩
   first|refine CallK.same (hn) rfl rfl ?_|refine CallQ.same (hn) rfl rfl ?_|refine CallQG.same _ (hn) rfl ?_|refine CallG.same _ (hn) rfl ?_|refine CallK.pv (hn) rfl rfl ?_
   simp -implicitDefEqProofs
   first|refine CallK.same (hc1) rfl rfl ?_|refine CallQ.same (hc1) rfl rfl ?_|refine CallQG.same _ (hc1) rfl ?_|refine CallG.same _ (hc1) rfl ?_|refine CallK.pv (hc1) rfl rfl ?_
   simp -implicitDefEqProofs [cmpI_lt0]
   have hj:joinStep (out++[z]) y=if z.2≠1099511627776∧IntKind.i64.wrap (z.2+1)<y.1 then out++[z]++[y]else if z.2<y.2 then out++[(z.1,y.2)]else out++[z]:=by
    unfold joinStep
    simp
   refine⟨by cases (z.2 != 1099511627776)<;>simp[impB],fun h=>?_,fun h=>?_⟩
   ·rw[if_pos (by rcases h with h|h;omega;exact h)]at hj
    refine⟨⟨by omega,by unfold maxLen;omega⟩,?_⟩
    refine Again.os (k+1) [0,1,5] hlt (by omega) ?_
    simp -implicitDefEqProofs [e1,hacc,hj]
   ·rw[if_neg (by rintro⟨h1,h2⟩;have:=h h1;omega)]at hj
    refine⟨by omega,?_⟩
    first|refine CallK.same (hc2) rfl rfl ?_|refine CallQ.same (hc2) rfl rfl ?_|refine CallQG.same _ (hc2) rfl ?_|refine CallG.same _ (hc2) rfl ?_|refine CallK.pv (hc2) rfl rfl ?_
    simp -implicitDefEqProofs [cmpI_lt0]
    refine⟨fun h'=>?_,fun h'=>?_⟩
    ·rw[if_pos h']at hj
     refine⟨by omega,?_⟩
     refine Again.os (k+1) [0,1,2] hlt (by omega) ?_
     simp -implicitDefEqProofs [e1,hacc,hj]
     have hm:=mod_endR (fun x=>List.take 1 x++IV.sc (.int .i64 y.2)::List.drop 2 x) [IV.sc (.int .i64 z.1),IV.sc (.int .i64 z.2)] (out.map ivI)
     rw[List.length_map]at hm
     exact hm
    ·rw[if_neg (by omega)]at hj
     refine Again.os (k+1) [0,1,2] hlt (by omega) ?_
     simp -implicitDefEqProofs [e1,hacc,hj]
 ·have hkk:k=S.length:=by omega
  subst hkk
  simp -implicitDefEqProofs
  refine EndZ.ret [2] (.row 2) (by simp) (by simp)
end Go.Am
namespace Go.Am
open Go.Proofs
def oneC (x:Ivl):Bool:=decide (checkI [x]=0)
def badJ:List Ivl→Int→Int
 |[],_=> -1
 |x::l,k=>if oneC x=false then k else badJ l (k+1)
theorem badJ_any:∀(l:List Ivl) (k:Int),0≤k→l.any (fun x=>!oneC x)=decide (0≤badJ l k)
 |[],k,_=>by simp[badJ]
 |x::l,k,hk=>by
  rw[badJ,List.any_cons]
  by_cases h:oneC x=false
  ·rw[if_pos h,h];simp[hk]
  ·rw[if_neg h,←badJ_any l (k+1) (by omega)];simp[h]
theorem one1_spec (x:Ivl):FSpec Tryz.prog 140 [.agg [.int .i64 x.1,.int .i64 x.2]] [] (.bool (oneC x)) []:=by
 have h1:=checkI_spec [x]
 simp at h1
 refine FSpec.of_flat (q:=[]) Tryz.func140 (by kernel_rfl) rfl Tryz.ntmps140 Tryz.results140 hP (by kernel_rfl) (by simp) (by first|rfl|simp) ?_
 simp -implicitDefEqProofs
 refine CallK.fz [1] h1 rfl (by simp) rfl ?_
 simp -implicitDefEqProofs [oneC]
 rfl
theorem makeB_spec (x:Ivl):FSpec Tryz.prog 139 [.agg [.int .i64 x.1,.int .i64 x.2]] [] (.bool (!oneC x)) []:=by
 have h1:=one1_spec x
 refine FSpec.of_flat (q:=[]) Tryz.func139 (by kernel_rfl) rfl Tryz.ntmps139 Tryz.results139 hP (by kernel_rfl) (by simp) (by first|rfl|simp) ?_
 simp -implicitDefEqProofs
 first|refine CallK.same (h1) rfl rfl ?_|refine CallQ.same (h1) rfl rfl ?_|refine CallQG.same _ (h1) rfl ?_|refine CallG.same _ (h1) rfl ?_|refine CallK.pv (h1) rfl rfl ?_
 simp -implicitDefEqProofs
theorem indexB_spec (l:List Ivl) (hl:l.length≤100000):
  FSpec Tryz.prog 213 [.im (.sl 2 (l.map ivI)),.fn 139 []] [] (.int .i64 (badJ l 0)) []:=by
 refine FSpec.of_flat (q:=[]) Tryz.func213 (by kernel_rfl) rfl Tryz.ntmps213 Tryz.results213 hP (by kernel_rfl) (by simp) (by first|rfl|simp) ?_
 simp
 refine LoopK.plain (fun k:Nat=>[(0,.im (.sl 2 (l.map ivI))),(1,.fn 139 []),(7,.int .i64 l.length),(8,.int .i64 k)])
  (fun k=>k≤l.length∧badJ (l.drop k) k=badJ l 0) (fun k=>l.length-k) 0 ⟨Nat.zero_le _,by simp⟩ (by simp) ?_
 rintro k ⟨hk,hR⟩
 by_cases hlt:k<l.length
 ·have e1:IntKind.i64.wrap (k+1)=(k+1:Nat):=wrap64 (by omega) (by omega)
  rw[List.drop_eq_getElem_cons hlt,badJ]at hR
  obtain⟨y,hy⟩:∃y,l[k]=y:=⟨_,rfl⟩
  rw[hy]at hR
  have h1:=makeB_spec y
  simp -implicitDefEqProofs [hlt,e1,hy]
  first|refine CallK.same (h1) rfl rfl ?_|refine CallQ.same (h1) rfl rfl ?_|refine CallQG.same _ (h1) rfl ?_|refine CallG.same _ (h1) rfl ?_|refine CallK.pv (h1) rfl rfl ?_
  simp -implicitDefEqProofs
  refine⟨fun h=>?_,fun h=>?_⟩
  ·rw[if_pos h]at hR
   simp[←hR]
  ·rw[if_neg (by simp[h])]at hR
   refine Again.plain (k+1) ⟨hlt,by simpa using hR⟩ (by omega) ?_
   simp[e1]
 ·have hkk:k=l.length:=by omega
  subst hkk
  rw[List.drop_length,badJ]at hR
  simp[←hR]
theorem containsB_spec (l:List Ivl) (hl:l.length≤100000):
  FSpec Tryz.prog 138 [.im (.sl 2 (l.map ivI)),.fn 139 []] [] (.bool (l.any fun x=>!oneC x)) []:=by
 rw[badJ_any l 0 (Int.le_refl _)]
 have h1:=indexB_spec l hl
 refine FSpec.of_flat (q:=[]) Tryz.func138 (by kernel_rfl) rfl Tryz.ntmps138 Tryz.results138 hP (by kernel_rfl) (by simp) (by first|rfl|simp) ?_
 simp
 first|refine CallK.same (h1) rfl rfl ?_|refine CallQ.same (h1) rfl rfl ?_|refine CallQG.same _ (h1) rfl ?_|refine CallG.same _ (h1) rfl ?_|refine CallK.pv (h1) rfl rfl ?_
 simp
set_option maxRecDepth 8000 in
set_option maxHeartbeats 2000000 in
theorem toldI_spec (l:List Ivl) (hl:l.length≤1024):FSpec Tryz.prog 70 [.im (.sl 2 (l.map ivI))] [] (.tup [.im (.sl 2 (l.map ivI)),.int .i64 0]) []:=by
 refine FSpec.of_z (q:=[]) Tryz.func70 (by kernel_rfl) rfl Tryz.ntmps70 Tryz.results70 hP (by kernel_rfl) (by simp) (by first|rfl|simp) ?_
 have hl':¬(1024:Int)<l.length:=by omega
 simp -implicitDefEqProofs [hl']
 refine LoopK.nil (.sl 4 43 2) ?_
 simp -implicitDefEqProofs
 refine LoopK.os (fun k:Nat=>[(4,.row 0),(10,.im (.sl 2 (l.map ivI))),(11,.int .i64 l.length),(12,.int .i64 k)])
  (fun k=>[.row 43 2 ((l.take k).map ivI)])
  (fun k=>k≤l.length) (fun k=>l.length-k) 0 [0] (Nat.zero_le _) (by simp) ?_
 intro k hk
 by_cases hlt:k<l.length
 ·have e1:IntKind.i64.wrap (k+1)=(k+1:Nat):=wrap64 (by omega) (by omega)
  have ht:l.take (k+1)=l.take k++[l[k]]:=by rw[List.take_add_one,List.getElem?_eq_getElem hlt];rfl
  obtain⟨y,hy⟩:∃y,l[k]=y:=⟨_,rfl⟩
  rw[hy]at ht
  have ht2:=congrArg (List.map ivI) ht
  simp at ht2
  simp -implicitDefEqProofs [hlt,hy]
  refine⟨⟨by omega,by unfold maxLen;omega⟩,?_⟩
  refine Again.os (k+1) [3] hlt (by omega) ?_
  simp -implicitDefEqProofs [e1,ht2]
 ·have hkk:k=l.length:=by omega
  subst hkk
  simp -implicitDefEqProofs
  refine EndZ.ret [0] (.tup [.row 0,.int .i64 0]) (by simp) (by simp)
theorem makeI_spec (l:List Ivl) (hd:(l.map (·.1)).Nodup) (hl:l.length≤1024) (hb:l.any (fun x=>!oneC x)=false):
  FSpec Tryz.prog 67 [.im (.sl 2 (l.map ivI))] [] (.tup [.im (.sl 2 ((joinF l).map ivI)),.int .i64 0]) []:=by
 have h1:=containsB_spec l (by omega)
 have h2:=runsI_spec l (by omega)
 have h3:=joinI_spec l hd (by omega)
 have h4:=toldI_spec (joinF l) (by have:=foldJ_len (sortF l) [];have:=(sortF_perm l).length_eq;unfold joinF;simp at*;omega)
 have h5:=timesI_spec
 have hl':¬(1024:Int)<l.length:=by omega
 refine FSpec.of_flat (q:=[]) Tryz.func67 (by kernel_rfl) rfl Tryz.ntmps67 Tryz.results67 hP (by kernel_rfl) (by simp) (by first|rfl|simp) ?_
 simp -implicitDefEqProofs [hl']
 first|refine CallK.same (h1) rfl rfl ?_|refine CallQ.same (h1) rfl rfl ?_|refine CallQG.same _ (h1) rfl ?_|refine CallG.same _ (h1) rfl ?_|refine CallK.pv (h1) rfl rfl ?_
 simp -implicitDefEqProofs [hb]
 first|refine CallK.same (h5) rfl rfl ?_|refine CallQ.same (h5) rfl rfl ?_|refine CallQG.same _ (h5) rfl ?_|refine CallG.same _ (h5) rfl ?_|refine CallK.pv (h5) rfl rfl ?_
 simp -implicitDefEqProofs
 first|refine CallK.same (h2) rfl rfl ?_|refine CallQ.same (h2) rfl rfl ?_|refine CallQG.same _ (h2) rfl ?_|refine CallG.same _ (h2) rfl ?_|refine CallK.pv (h2) rfl rfl ?_
 simp -implicitDefEqProofs
 first|refine CallK.same (h3) rfl rfl ?_|refine CallQ.same (h3) rfl rfl ?_|refine CallQG.same _ (h3) rfl ?_|refine CallG.same _ (h3) rfl ?_|refine CallK.pv (h3) rfl rfl ?_
 simp -implicitDefEqProofs
 first|refine CallK.same (h4) rfl rfl ?_|refine CallQ.same (h4) rfl rfl ?_|refine CallQG.same _ (h4) rfl ?_|refine CallG.same _ (h4) rfl ?_|refine CallK.pv (h4) rfl rfl ?_
 simp -implicitDefEqProofs
end Go.Am
namespace Go.Am
open Go.Proofs
def kindL (k:Int) (L:List (Pc Verd)):List Ivl:=(L.filter fun x=>x.v.kind==k).map fun x=>(x.a,x.b)
theorem tile_up {T:Type} [DecidableEq T]:∀{l:List (Pc T)} {n:Int} {pv:Option T} {e:Int},Tile n pv l e→(∀x∈l,n≤x.a∧x.a≤x.b∧x.b<e)∧l.Pairwise (fun x y=>x.b<y.a)
 |[],n,pv,e,h=>⟨fun x hx=>by simp at hx,List.Pairwise.nil⟩
 |x::l,n,pv,e,h=>by
  obtain⟨h1,h2,h3,h4⟩:=h
  obtain⟨g1,g2⟩:=tile_up h4
  have hle:=Tile.le h4
  refine⟨fun y hy=>?_,List.pairwise_cons.2 ⟨fun y hy=>?_,g2⟩⟩
  ·rcases List.mem_cons.1 hy with rfl|hy
   ·omega
   ·have:=g1 y hy;omega
  ·have:=g1 y hy;omega
theorem kindL_up {L:List (Pc Verd)} {n e:Int} (k:Int) (h:(∀x∈L,n≤x.a∧x.a≤x.b∧x.b<e)∧L.Pairwise (fun x y=>x.b<y.a)):(∀x∈kindL k L,n≤x.1∧x.1≤x.2∧x.2<e)∧(kindL k L).Pairwise (fun x y=>x.2<y.1):=by
 refine⟨fun x hx=>?_,?_⟩
 ·simp only[kindL,List.mem_map,List.mem_filter]at hx
  obtain⟨y,⟨hy,_⟩,rfl⟩:=hx
  exact h.1 y hy
 ·unfold kindL
  rw[List.pairwise_map]
  exact h.2.filter _
theorem up_nodup {l:List Ivl} {n e:Int} (h:(∀x∈l,n≤x.1∧x.1≤x.2∧x.2<e)∧l.Pairwise (fun x y=>x.2<y.1)):(l.map (·.1)).Nodup:=by
 rw[List.nodup_iff_pairwise_ne,List.pairwise_map]
 refine List.Pairwise.imp_of_mem (fun{x y} hx hy hxy=>?_) h.2
 have:=(h.1 x hx).2.1
 omega
theorem up_one {l:List Ivl} {n e:Int} (h:∀x∈l,n≤x.1∧x.1≤x.2∧x.2<e) (h0:0≤n) (he:e≤1099511627777):l.any (fun x=>!oneC x)=false:=by
 rw[List.any_eq_false]
 intro x hx
 obtain⟨h1,h2,h3⟩:=h x hx
 have g1:0≤x.1:=by omega
 have g2:x.2≤1099511627776:=by omega
 simp[oneC,checkI,soundI,aheadI,g1,g2,h2]
theorem kindL_len (k:Int) (L:List (Pc Verd)):(kindL k L).length≤L.length:=by
 unfold kindL
 rw[List.length_map]
 exact List.length_filter_le _ _
theorem kindL_app (k:Int) (L M:List (Pc Verd)):kindL k (L++M)=kindL k L++kindL k M:=by simp[kindL]
def everL (p:Past) (r:Int) (six:Bool) (x:Addr4) (a b k:Int):List Ivl:=joinF (kindL k (verdL p r six x a b))
theorem verdL_up {p:Past} {r:Int} {six:Bool} {x:Addr4} {a b:Int} (h:verdE p r six x a b=0):((∀y∈verdL p r six x a b,a≤y.a∧y.a≤y.b∧y.b<b+1)∧(verdL p r six x a b).Pairwise (fun x y=>x.b<y.a))∧0≤a∧b≤1099511627776∧(verdL p r six x a b).length≤1024:=by
 have ha:askV p r six x a b=0:=by
  unfold verdE at h
  split at h
  ·assumption
  ·exact h
 have hl:(lineP p (fun n=>(wayN n six x r).2) a b).length≤1024:=by
  unfold verdE at h
  rw[if_pos ha]at h
  split at h
  ·cases h
  ·omega
 obtain⟨hok,hr,ho,h3,h4,h5⟩:=askV_zero ha
 simp only[oneI,Bool.and_eq_true,decide_eq_true_eq]at ho
 unfold verdL
 rw[if_pos h]
 exact⟨tile_up (lineP_tile p _ ho.1.2),ho.1.1,ho.2,hl⟩
set_option maxRecDepth 8000 in
set_option maxHeartbeats 4000000 in
theorem everP_spec (p:Past) (r:Int) (six:Bool) (x:Addr4) (a b kd:Int) (hw:p.wf) (hx:x.wf):
  FSpec Tryz.prog 22 [p.av,.int .i64 r,.bool six,x.av,.agg [.int .i64 a,.int .i64 b],.int .u8 kd] [kindsO]
   (.tup [.im (.sl 2 ((everL p r six x a b kd).map ivI)),.int .i64 (verdE p r six x a b)]) [kindsO]:=by
 have h1:=verdictsP_spec p r six x a b hw hx
 refine FSpec.of_o (q:=[]) Tryz.func22 (by kernel_rfl) rfl Tryz.ntmps22 Tryz.results22 hP (by kernel_rfl) (by simp) (by first|rfl|simp) ?_
 simp -implicitDefEqProofs [kindsO]
 refine CallO.mk [] [0] h1 (by simp) rfl (by simp[kindsO]) (by simp[kindsO]) (by simp[kindsO]) ?_
 simp -implicitDefEqProofs [kindsO]
 refine⟨fun h=>?_,fun h=>?_⟩
 ·have hv:verdL p r six x a b=[]:=by unfold verdL;rw[if_neg h]
  have he:everL p r six x a b kd=[]:=by unfold everL;rw[hv];simp[kindL,joinF,sortF]
  refine EndO.ret [] [0] (.tup [.im (.sc (.slice none 0 0)),.int .i64 (verdE p r six x a b)]) (by simp) ?_
  simp -implicitDefEqProofs [he]
 obtain⟨hup,h0,h2,hl⟩:=verdL_up h
 have hk:=kindL_up kd hup
 have hm:=makeI_spec (kindL kd (verdL p r six x a b)) (up_nodup hk) (by have:=kindL_len kd (verdL p r six x a b);omega) (up_one hk.1 h0 (by omega))
 unfold everL
 rw[h]
 generalize verdL p r six x a b=L at*
 refine LoopK.nil (.sl 16 43 2) ?_
 simp -implicitDefEqProofs
 refine LoopK.os (fun k:Nat=>[(5,.int .u8 kd),(16,.row 1),(31,.im (.sl 4 (L.map Pc.ivVd))),(32,.int .i64 L.length),(33,.int .i64 k)])
  (fun k=>[kindsO,.row 43 2 ((kindL kd (L.take k)).map ivI)])
  (fun k=>k≤L.length) (fun k=>L.length-k) 0 [0,4] (Nat.zero_le _) (by simp[kindsO,kindL]) ?_
 intro k hk
 by_cases hlt:k<L.length
 ·have e1:IntKind.i64.wrap (k+1)=(k+1:Nat):=wrap64 (by omega) (by omega)
  have ht:L.take (k+1)=L.take k++[L[k]]:=by rw[List.take_add_one,List.getElem?_eq_getElem hlt];rfl
  obtain⟨y,hy⟩:∃y,L[k]=y:=⟨_,rfl⟩
  rw[hy]at ht
  have ht2:kindL kd (L.take (k+1))=kindL kd (L.take k)++(if y.v.kind=kd then[(y.a,y.b)]else[]):=by
   rw[ht,kindL_app]
   congr 1
   by_cases h:y.v.kind=kd<;>simp[kindL,h]
  have hkl:=kindL_len kd (L.take k)
  rw[List.length_take]at hkl
  generalize kindL kd (L.take k)=out at*
  simp -implicitDefEqProofs [hlt,hy,kindsO]
  refine⟨fun h'=>?_,fun h'=>?_⟩
  ·rw[if_pos h']at ht2
   refine⟨⟨by omega,by unfold maxLen;omega⟩,?_⟩
   refine Again.os (k+1) [0,4] hlt (by omega) ?_
   simp -implicitDefEqProofs [e1,ht2,kindsO]
  ·rw[if_neg h',List.append_nil]at ht2
   refine Again.os (k+1) [0,1] hlt (by omega) ?_
   simp -implicitDefEqProofs [e1,ht2,kindsO]
 ·have hkk:k=L.length:=by omega
  subst hkk
  simp -implicitDefEqProofs [kindsO]
  refine CallK.outs [1] hm rfl (by simp) (by simp[AV.flat]) ?_
  simp -implicitDefEqProofs
  refine EndO.ret [] [0] (.tup [.im (.sl 2 ((joinF (kindL kd L)).map ivI)),.int .i64 0]) (by simp) ?_
  simp -implicitDefEqProofs
end Go.Am
namespace Go.Am
open Go.Proofs
def traceE (p:Past) (r:Int) (six:Bool) (x:Addr4) (t:Int):Int:=if okP p=true∧rightA six x=true then(if r<0∨1048576<r then 1 else askT p t)else 2
def traceR (p:Past) (r:Int) (six:Bool) (x:Addr4) (t:Int):List Int×Verd:=if traceE p r six x t=0 then wayN (thenF p t) six x r else([],⟨0,0⟩)
theorem then_wf {p:Past} (hw:p.wf) (t:Int):(thenF p t).wf:=allN_wf hw.1 fun e he=>(hw.2 e (List.mem_filter.1 he).1).2
set_option maxRecDepth 8000 in
set_option maxHeartbeats 4000000 in
theorem traceP_spec (p:Past) (r:Int) (six:Bool) (x:Addr4) (t:Int) (hw:p.wf) (hx:x.wf):
  FSpec Tryz.prog 15 [p.av,.int .i64 r,.bool six,x.av,.int .i64 t] [kindsO]
   (.tup [.im (.sl 1 (rowI (traceR p r six x t).1)),(traceR p r six x t).2.av,.int .i64 (traceE p r six x t)]) [kindsO]:=by
 have h1:=checkP_spec_ p (fun e he=>(hw.2 e he).1)
 have h2:=rightA_spec six x
 have h3:=atO_spec p t (fun e he=>(hw.2 e he).1)
 refine FSpec.of_o (q:=[(3,.n 2),(5,.n 2),(8,.m [.p [] [],.p [1] [],.p [] [],.e [11,46]]),(10,.n 3)]) Tryz.func15 (by kernel_rfl) rfl Tryz.ntmps15 Tryz.results15 hP (by kernel_rfl) (by simp) (by first|rfl|simp) ?_
 simp -implicitDefEqProofs [kindsO]
 first|refine CallK.same (h1) rfl rfl ?_|refine CallQ.same (h1) rfl rfl ?_|refine CallQG.same _ (h1) rfl ?_|refine CallG.same _ (h1) rfl ?_|refine CallK.pv (h1) rfl rfl ?_
 by_cases hok:okP p=true
 ·simp -implicitDefEqProofs [hok]
  first|refine CallK.same (h2) rfl rfl ?_|refine CallQ.same (h2) rfl rfl ?_|refine CallQG.same _ (h2) rfl ?_|refine CallG.same _ (h2) rfl ?_|refine CallK.pv (h2) rfl rfl ?_
  by_cases hr:rightA six x=true
  ·have hE:traceE p r six x t=if r<0∨1048576<r then 1 else askT p t:=by unfold traceE;rw[if_pos ⟨hok,hr⟩]
   simp -implicitDefEqProofs [hr]
   refine⟨fun h=>?_,fun ha hb=>?_⟩
   ·rw[if_pos h]at hE
    have hR:traceR p r six x t=([],⟨0,0⟩):=by unfold traceR;rw[hE];rfl
    refine EndO.ret [] [0] (.tup [.im (.sc (.slice none 0 0)),.agg [.int .u8 0,.int .i64 0],.int .i64 1]) (by simp) ?_
    simp -implicitDefEqProofs [hE,hR,rowI]
   ·rw[if_neg (by omega)]at hE
    rw[if_pos hok]at h3
    by_cases ht:askT p t=0
    ·have hR:traceR p r six x t=wayN (thenF p t) six x r:=by unfold traceR;rw[hE,ht];rfl
     have h4:=wayW_spec (thenF p t) six x r (then_wf hw t) hx (rightN_of (thenF_all hok t).2.2 hr)
     rw[if_pos ⟨hok,ht⟩,ht]at h3
     rw[hE,hR,ht]
     generalize thenF p t=N at*
     generalize wayN N six x r=W at*
     first|refine CallK.same (h3) rfl rfl ?_|refine CallQ.same (h3) rfl rfl ?_|refine CallQG.same _ (h3) rfl ?_|refine CallG.same _ (h3) rfl ?_|refine CallK.pv (h3) rfl rfl ?_
     simp -implicitDefEqProofs
     refine CallO.mk [] [0] h4 (by simp) rfl (by simp[kindsO]) (by simp[kindsO]) (by simp[kindsO]) ?_
     simp -implicitDefEqProofs [kindsO]
     refine EndO.ret [] [0] (.tup [.im (.sl 1 (rowI W.1)),W.2.av,.int .i64 0]) (by simp) ?_
     simp -implicitDefEqProofs
    ·have hR:traceR p r six x t=([],⟨0,0⟩):=by unfold traceR;rw[hE,if_neg ht]
     rw[if_neg (fun h=>ht h.2)]at h3
     rw[hE,hR]
     first|refine CallK.same (h3) rfl rfl ?_|refine CallQ.same (h3) rfl rfl ?_|refine CallQG.same _ (h3) rfl ?_|refine CallG.same _ (h3) rfl ?_|refine CallK.pv (h3) rfl rfl ?_
     simp -implicitDefEqProofs [ht]
     refine EndO.ret [] [0] (.tup [.im (.sc (.slice none 0 0)),.agg [.int .u8 0,.int .i64 0],.int .i64 (askT p t)]) (by simp) ?_
     simp -implicitDefEqProofs [rowI]
  ·have hE:traceE p r six x t=2:=by unfold traceE;rw[if_neg (fun h=>hr h.2)]
   have hR:traceR p r six x t=([],⟨0,0⟩):=by unfold traceR;rw[hE];rfl
   simp -implicitDefEqProofs [hr]
   refine EndO.ret [] [0] (.tup [.im (.sc (.slice none 0 0)),.agg [.int .u8 0,.int .i64 0],.int .i64 2]) (by simp) ?_
   simp -implicitDefEqProofs [hE,hR,rowI]
 ·have hE:traceE p r six x t=2:=by unfold traceE;rw[if_neg (fun h=>hok h.1)]
  have hR:traceR p r six x t=([],⟨0,0⟩):=by unfold traceR;rw[hE];rfl
  simp -implicitDefEqProofs [hok]
  first|refine CallG.off (.bool true) ?_|(refine CallG.on ?_;(first|refine CallK.same (h2) rfl rfl ?_|refine CallQ.same (h2) rfl rfl ?_|refine CallQG.same _ (h2) rfl ?_|refine CallG.same _ (h2) rfl ?_|refine CallK.pv (h2) rfl rfl ?_))
  simp -implicitDefEqProofs
  refine EndO.ret [] [0] (.tup [.im (.sc (.slice none 0 0)),.agg [.int .u8 0,.int .i64 0],.int .i64 2]) (by simp) ?_
  simp -implicitDefEqProofs [hE,hR,rowI]
set_option maxRecDepth 8000 in
set_option maxHeartbeats 4000000 in
theorem traceD_spec (p:Past) (r:Int) (six:Bool) (x:Addr4) (t:Int) (hw:p.wf) (hx:x.wf):
  FSpec Tryz.prog 16 [p.av,.int .i64 r,.bool six,x.av,.int .i64 t] []
   (.tup [.im (.sl 1 (rowI (traceR p r six x t).1)),(traceR p r six x t).2.av,.int .i64 (traceE p r six x t)]) []:=by
 have h1:=checkPr21_spec p hw
 have h2:=rightAr_spec six x hx
 have h3:=atPr_spec p t hw
 refine FSpec.of_z (q:=[(9,.n 3)]) Tryz.func16 (by kernel_rfl) rfl Tryz.ntmps16 Tryz.results16 hP (by kernel_rfl) (by simp) (by first|rfl|simp) ?_
 simp -implicitDefEqProofs
 first|refine CallK.same (h1) rfl rfl ?_|refine CallQ.same (h1) rfl rfl ?_|refine CallQG.same _ (h1) rfl ?_|refine CallG.same _ (h1) rfl ?_|refine CallK.pv (h1) rfl rfl ?_
 by_cases hok:okP p=true
 ·simp -implicitDefEqProofs [hok]
  first|refine CallK.same (h2) rfl rfl ?_|refine CallQ.same (h2) rfl rfl ?_|refine CallQG.same _ (h2) rfl ?_|refine CallG.same _ (h2) rfl ?_|refine CallK.pv (h2) rfl rfl ?_
  by_cases hr:rightA six x=true
  ·have hE:traceE p r six x t=if r<0∨1048576<r then 1 else askT p t:=by unfold traceE;rw[if_pos ⟨hok,hr⟩]
   simp -implicitDefEqProofs [hr]
   refine⟨fun h=>?_,fun ha hb=>?_⟩
   ·rw[if_pos h]at hE
    have hR:traceR p r six x t=([],⟨0,0⟩):=by unfold traceR;rw[hE];rfl
    refine EndZ.ret [] (.tup [.im (.sc (.slice none 0 0)),.agg [.int .u8 0,.int .i64 0],.int .i64 1]) (by simp) (by simp -implicitDefEqProofs [hE,hR,rowI])
   ·rw[if_neg (by omega)]at hE
    rw[if_pos hok]at h3
    by_cases ht:askT p t=0
    ·have hR:traceR p r six x t=wayN (thenF p t) six x r:=by unfold traceR;rw[hE,ht];rfl
     have h4:FSpec Tryz.prog 61 [(thenF p t).av,.int .i64 r,.bool six,x.av] [] (.tup [.im (.sl 1 (rowI (wayN (thenF p t) six x r).1)),(wayN (thenF p t) six x r).2.av]) []:=way_spec (thenF p t) r six x (thenF_all hok t).2.2 (then_wf hw t) hx
     rw[if_pos ⟨hok,ht⟩,ht]at h3
     rw[hE,hR,ht]
     generalize thenF p t=N at*
     generalize wayN N six x r=W at*
     first|refine CallK.same (h3) rfl rfl ?_|refine CallQ.same (h3) rfl rfl ?_|refine CallQG.same _ (h3) rfl ?_|refine CallG.same _ (h3) rfl ?_|refine CallK.pv (h3) rfl rfl ?_
     simp -implicitDefEqProofs
     first|refine CallK.same (h4) rfl rfl ?_|refine CallQ.same (h4) rfl rfl ?_|refine CallQG.same _ (h4) rfl ?_|refine CallG.same _ (h4) rfl ?_|refine CallK.pv (h4) rfl rfl ?_
     simp -implicitDefEqProofs
     refine EndZ.ret [] (.tup [.im (.sl 1 (rowI W.1)),W.2.av,.int .i64 0]) (by simp) (by simp -implicitDefEqProofs [hE,hR,rowI])
    ·have hR:traceR p r six x t=([],⟨0,0⟩):=by unfold traceR;rw[hE,if_neg ht]
     rw[if_neg (fun h=>ht h.2)]at h3
     rw[hE,hR]
     first|refine CallK.same (h3) rfl rfl ?_|refine CallQ.same (h3) rfl rfl ?_|refine CallQG.same _ (h3) rfl ?_|refine CallG.same _ (h3) rfl ?_|refine CallK.pv (h3) rfl rfl ?_
     simp -implicitDefEqProofs [ht]
     refine EndZ.ret [] (.tup [.im (.sc (.slice none 0 0)),.agg [.int .u8 0,.int .i64 0],.int .i64 (askT p t)]) (by simp) (by simp -implicitDefEqProofs [hE,hR,rowI])
  ·have hE:traceE p r six x t=2:=by unfold traceE;rw[if_neg (fun h=>hr h.2)]
   have hR:traceR p r six x t=([],⟨0,0⟩):=by unfold traceR;rw[hE];rfl
   simp -implicitDefEqProofs [hr]
   refine EndZ.ret [] (.tup [.im (.sc (.slice none 0 0)),.agg [.int .u8 0,.int .i64 0],.int .i64 2]) (by simp) (by simp -implicitDefEqProofs [hE,hR,rowI])
 ·have hE:traceE p r six x t=2:=by unfold traceE;rw[if_neg (fun h=>hok h.1)]
  have hR:traceR p r six x t=([],⟨0,0⟩):=by unfold traceR;rw[hE];rfl
  simp -implicitDefEqProofs [hok]
  first|refine CallG.off (.bool true) ?_|(refine CallG.on ?_;(first|refine CallK.same (h2) rfl rfl ?_|refine CallQ.same (h2) rfl rfl ?_|refine CallQG.same _ (h2) rfl ?_|refine CallG.same _ (h2) rfl ?_|refine CallK.pv (h2) rfl rfl ?_))
  simp -implicitDefEqProofs
  refine EndZ.ret [] (.tup [.im (.sc (.slice none 0 0)),.agg [.int .u8 0,.int .i64 0],.int .i64 2]) (by simp) (by simp -implicitDefEqProofs [hE,hR,rowI])
end Go.Am
namespace Go.Am
open Go.Proofs
set_option maxRecDepth 4000 in
theorem same19_spec (l:List (Int×Int)) (hl:l.length≤9223372036854775807):FSpec Tryz.prog 25 [.im (.sl 2 (l.map ivI)),.im (.sl 2 (l.map ivI))] [] (.bool true) []:=by
 refine FSpec.of_flat (q:=[(6,.n 8)]) Tryz.func25 (by kernel_rfl) rfl Tryz.ntmps25 Tryz.results25 hP (by kernel_rfl) (by simp) (by first|rfl|simp) ?_
 simp -implicitDefEqProofs
 refine LoopK.os (fun k:Nat=>[(0,.im (.sl 2 (l.map ivI))),(1,.im (.sl 2 (l.map ivI))),(12,.int .i64 l.length),(13,.int .i64 k)])
  (fun k=>[]) (fun k=>k≤l.length) (fun k=>l.length-k) 0 [] (Nat.zero_le _) (by simp) ?_
 intro k hk
 by_cases hlt:k<l.length
 ·have e1:IntKind.i64.wrap (k+1)=(k+1:Nat):=wrap64 (by omega) (by omega)
  obtain⟨x,hx⟩:∃x,l[k]=x:=⟨_,rfl⟩
  simp -implicitDefEqProofs [hlt,hx,e1]
  refine Again.os (k+1) [] hlt (by omega) ?_
  simp -implicitDefEqProofs
 ·have hkk:k=l.length:=by omega
  subst hkk
  simp -implicitDefEqProofs
set_option maxRecDepth 4000 in
theorem same20_spec (l:List (Pc Verd)) (hl:l.length≤9223372036854775807):FSpec Tryz.prog 21 [.im (.sl 4 (l.map Pc.ivVd)),.im (.sl 4 (l.map Pc.ivVd))] [] (.bool true) []:=by
 refine FSpec.of_flat (q:=[(6,.n 8)]) Tryz.func21 (by kernel_rfl) rfl Tryz.ntmps21 Tryz.results21 hP (by kernel_rfl) (by simp) (by first|rfl|simp) ?_
 simp -implicitDefEqProofs
 refine LoopK.os (fun k:Nat=>[(0,.im (.sl 4 (l.map Pc.ivVd))),(1,.im (.sl 4 (l.map Pc.ivVd))),(12,.int .i64 l.length),(13,.int .i64 k)])
  (fun k=>[]) (fun k=>k≤l.length) (fun k=>l.length-k) 0 [] (Nat.zero_le _) (by simp) ?_
 intro k hk
 by_cases hlt:k<l.length
 ·have e1:IntKind.i64.wrap (k+1)=(k+1:Nat):=wrap64 (by omega) (by omega)
  obtain⟨x,hx⟩:∃x,l[k]=x:=⟨_,rfl⟩
  simp -implicitDefEqProofs [hlt,hx,e1]
  refine Again.os (k+1) [] hlt (by omega) ?_
  simp -implicitDefEqProofs
 ·have hkk:k=l.length:=by omega
  subst hkk
  simp -implicitDefEqProofs
def sW:Pfx:=⟨false,⟨0,0⟩,0⟩
def sE1:Ev:=⟨1,4,1,2,sW,⟨0,0⟩,0,0⟩
def sE2:Ev:=⟨3,4,2,5,sW,⟨2,0⟩,0,0⟩
def sE3:Ev:=⟨4,4,3,8,sW,⟨0,0⟩,0,0⟩
def sP1:Past:=⟨⟨[],[]⟩,-1,[sE1]⟩
def sP2:Past:=⟨⟨[],[]⟩,-1,[sE1,sE2]⟩
def sP3:Past:=⟨⟨[],[]⟩,-1,[sE1,sE2,sE3]⟩
def uL:List (Pc Verd):=[⟨0,4,⟨3,4⟩⟩,⟨5,7,⟨1,4⟩⟩,⟨8,9,⟨3,4⟩⟩]
theorem sl1:takeP lP0 sE1=(sP1,0):=by kernel_rfl
theorem sl2:takeP sP1 sE2=(sP2,0):=by kernel_rfl
theorem sl3:takeP sP2 sE3=(sP3,0):=by kernel_rfl
theorem timesF_of_sorted {l:List Ev} {a b:Int} {d:List Int} (h:happT l a b=d) (hs:d.Pairwise (·≤·)):timesF l a b=dedup d:=by
 unfold timesF
 rw[h,sorted_eq (sortI_perm d) (sortI_sorted d) hs]
theorem sl0:timesF sP3.evs 0 9=[2,5,8]:=timesF_of_sorted (d:=[2,5,8]) (by kernel_rfl) (by decide)
theorem ul1:lineP sP3 (fun n=>(wayN n false ⟨0,0⟩ 4).2) 0 9=uL:=by unfold lineP;rw[sl0];kernel_rfl
theorem ul2:askV sP3 4 false ⟨0,0⟩ 0 9=0:=by kernel_rfl
theorem ul3:askV sP3 (-1) false ⟨0,0⟩ 0 9=1:=by kernel_rfl
theorem ul4:traceE sP3 4 false ⟨0,0⟩ 6=0:=by kernel_rfl
theorem ul5:wayN (thenF sP3 6) false ⟨0,0⟩ 4=([4],⟨1,4⟩):=by kernel_rfl
theorem ul6:traceE sP3 4 false ⟨0,0⟩ (-1)=1:=by kernel_rfl
theorem ul7:verdE sP3 4 false ⟨0,0⟩ 0 9=0:=by unfold verdE;rw[if_pos ul2,ul1];rfl
theorem ul8:verdL sP3 4 false ⟨0,0⟩ 0 9=uL:=by unfold verdL;rw[if_pos ul7,ul1]
theorem ul9:verdE sP3 (-1) false ⟨0,0⟩ 0 9=1:=by unfold verdE;rw[if_neg (by rw[ul3];decide),ul3]
theorem ul10:verdL sP3 (-1) false ⟨0,0⟩ 0 9=[]:=by unfold verdL;rw[if_neg (by rw[ul9];decide)]
theorem ul11:everL sP3 4 false ⟨0,0⟩ 0 9 3=[(0,4),(8,9)]:=by
 unfold everL
 rw[ul8,show kindL 3 uL=[(0,4),(8,9)]by rfl]
 unfold joinF
 rw[sortF_id (by simp)]
 rfl
theorem ul12:traceR sP3 4 false ⟨0,0⟩ 6=([4],⟨1,4⟩):=by unfold traceR;rw[if_pos ul4,ul5]
theorem ul13:traceR sP3 4 false ⟨0,0⟩ (-1)=([],⟨0,0⟩):=by unfold traceR;rw[if_neg (by rw[ul6];decide)]
theorem sA (h l:Int) (h1:0≤h∧h≤1) (h2:0≤l∧l≤1):(Addr4.mk h l).wf:=by unfold Addr4.wf;simp only;omega
theorem sEw {e:Ev} (h:e=sE1∨e=sE2∨e=sE3):0≤e.seq∧e.pfx.addr.wf:=by rcases h with rfl|rfl|rfl<;>exact⟨by decide,sA 0 0 (by decide) (by decide)⟩
theorem sw3:sP3.wf:=⟨by intro r hr;simp[sP3]at hr,fun e he=>sEw (by simpa [sP3]using he)⟩
theorem ss1:FSpec Tryz.prog 111 [lP0.av,sE1.av] [] (.tup [sP1.av,.int .i64 0]) []:=by
 have h:=takePo_spec lP0 sE1 (by intro e he;cases he) (by decide)
 rw[sl1]at h;exact h
theorem ss2:FSpec Tryz.prog 111 [sP1.av,sE2.av] [] (.tup [sP2.av,.int .i64 0]) []:=by
 have h:=takePo_spec sP1 sE2 (fun e he=>(sEw (by simp[sP1]at he;exact .inl he)).1) (by decide)
 rw[sl2]at h;exact h
theorem ss3:FSpec Tryz.prog 111 [sP2.av,sE3.av] [] (.tup [sP3.av,.int .i64 0]) []:=by
 have h:=takePo_spec sP2 sE3 (fun e he=>(sEw (by simp[sP2]at he;rcases he with he|he;exact .inl he;exact .inr (.inl he))).1) (by decide)
 rw[sl3]at h;exact h
theorem us1:FSpec Tryz.prog 19 [sP3.av,.int .i64 4,.bool false,(Addr4.mk 0 0).av,.agg [.int .i64 0,.int .i64 9]] [kindsO] (.tup [.im (.sl 4 (uL.map Pc.ivVd)),.int .i64 0]) [kindsO]:=by
 have h:=verdictsP_spec sP3 4 false ⟨0,0⟩ 0 9 sw3 (sA _ _ (by decide) (by decide))
 rw[ul8,ul7]at h;exact h
theorem us2:FSpec Tryz.prog 15 [sP3.av,.int .i64 4,.bool false,(Addr4.mk 0 0).av,.int .i64 6] [kindsO] (.tup [.im (.sl 1 (rowI [4])),.agg [.int .u8 1,.int .i64 4],.int .i64 0]) [kindsO]:=by
 have h:=traceP_spec sP3 4 false ⟨0,0⟩ 6 sw3 (sA _ _ (by decide) (by decide))
 rw[ul12,ul4]at h;exact h
theorem us3:FSpec Tryz.prog 22 [sP3.av,.int .i64 4,.bool false,(Addr4.mk 0 0).av,.agg [.int .i64 0,.int .i64 9],.int .u8 3] [kindsO] (.tup [.im (.sl 2 ([(0,4),(8,9)].map ivI)),.int .i64 0]) [kindsO]:=by
 have h:=everP_spec sP3 4 false ⟨0,0⟩ 0 9 3 sw3 (sA _ _ (by decide) (by decide))
 rw[ul11,ul7]at h;exact h
theorem us4:FSpec Tryz.prog 15 [sP3.av,.int .i64 4,.bool false,(Addr4.mk 0 0).av,.int .i64 (-1)] [kindsO] (.tup [.im (.sl 1 (rowI [])),.agg [.int .u8 0,.int .i64 0],.int .i64 1]) [kindsO]:=by
 have h:=traceP_spec sP3 4 false ⟨0,0⟩ (-1) sw3 (sA _ _ (by decide) (by decide))
 rw[ul13,ul6]at h;exact h
theorem us5:FSpec Tryz.prog 19 [sP3.av,.int .i64 (-1),.bool false,(Addr4.mk 0 0).av,.agg [.int .i64 0,.int .i64 9]] [kindsO] (.tup [.im (.sl 4 []),.int .i64 1]) [kindsO]:=by
 have h:=verdictsP_spec sP3 (-1) false ⟨0,0⟩ 0 9 sw3 (sA _ _ (by decide) (by decide))
 rw[ul10,ul9]at h;exact h
set_option maxRecDepth 8000 in
set_option maxHeartbeats 4000000 in
theorem story26_spec:FSpec Tryz.prog 62 [] [] (.tup [sP3.av,.bool true]) []:=by
 have h1:=ss1
 have h2:=ss2
 have h3:=ss3
 simp[lP0,sE1,sP1,sE2,sP2,sE3,sP3,sW]at h1 h2 h3
 refine FSpec.of_flat (q:=[]) Tryz.func62 (by kernel_rfl) rfl Tryz.ntmps62 Tryz.results62 hP (by kernel_rfl) (by simp) (by first|rfl|simp) ?_
 simp -implicitDefEqProofs
 first|refine CallK.same (makePo_spec) rfl rfl ?_|refine CallQ.same (makePo_spec) rfl rfl ?_|refine CallQG.same _ (makePo_spec) rfl ?_|refine CallG.same _ (makePo_spec) rfl ?_|refine CallK.pv (makePo_spec) rfl rfl ?_
 simp -implicitDefEqProofs
 refine CallK.v0 h1 rfl (by simp) rfl ?_
 simp -implicitDefEqProofs
 refine CallK.v0 h2 rfl (by simp) rfl ?_
 simp -implicitDefEqProofs
 refine CallK.v0 h3 rfl (by simp) rfl ?_
 simp -implicitDefEqProofs [sP3,sE1,sE2,sE3,sW]
set_option maxRecDepth 8000 in
set_option maxHeartbeats 4000000 in
theorem lives26_spec:FSpec Tryz.prog 17 [] [kindsO] (.bool true) [kindsO]:=by
 have h1:=story26_spec
 have h2:=us1
 have h3:=us2
 have h4:=us3
 have h5:=us4
 have h6:=us5
 have h7:=same20_spec uL (by decide)
 have h8:=alike_spec [4] [4]
 have h9:=same19_spec [(0,4),(8,9)] (by decide)
 simp[sE1,sE2,sE3,sP3,sW,uL,rowI]at h1 h2 h3 h4 h5 h6 h7 h8 h9
 refine FSpec.of_o (q:=[]) Tryz.func17 (by kernel_rfl) rfl Tryz.ntmps17 Tryz.results17 hP (by kernel_rfl) (by simp) (by first|rfl|simp) ?_
 simp -implicitDefEqProofs [kindsO]
 refine CallK.v0 h1 rfl (by simp) rfl ?_
 simp -implicitDefEqProofs
 refine CallO.mk [] [0] h2 (by simp) rfl (by simp[kindsO]) (by simp[kindsO]) (by simp[kindsO]) ?_
 simp -implicitDefEqProofs [kindsO]
 refine CallO.mk [] [0] h3 (by simp) rfl (by simp[kindsO]) (by simp[kindsO]) (by simp[kindsO]) ?_
 simp -implicitDefEqProofs [kindsO]
 refine CallO.mk [] [0] h4 (by simp) rfl (by simp[kindsO]) (by simp[kindsO]) (by simp[kindsO]) ?_
 simp -implicitDefEqProofs [kindsO]
 refine CallO.mk [] [0] h5 (by simp) rfl (by simp[kindsO]) (by simp[kindsO]) (by simp[kindsO]) ?_
 simp -implicitDefEqProofs [kindsO]
 refine CallO.mk [] [0] h6 (by simp) rfl (by simp[kindsO]) (by simp[kindsO]) (by simp[kindsO]) ?_
 simp -implicitDefEqProofs [kindsO]
 refine CallG.on ?_
 refine CallK.fz [7] h7 rfl (by simp) rfl ?_
 simp -implicitDefEqProofs
 refine CallG.on ?_
 refine CallK.fz [8] h8 rfl (by simp) rfl ?_
 simp -implicitDefEqProofs
 refine CallG.on ?_
 refine CallK.fz [9] h9 rfl (by simp) rfl ?_
 simp -implicitDefEqProofs
 refine EndO.ret [] [0] (.bool true) (by simp) ?_
 simp -implicitDefEqProofs [kindsO]
end Go.Am
namespace Go.Am
open Go.Proofs
set_option maxRecDepth 8000 in
set_option maxHeartbeats 4000000 in
theorem windowTraces_spec (p:Past) (r:Int) (six:Bool) (x:Addr4) (t:Int) (hw:p.wf) (hx:x.wf):
  FSpec Tryz.prog 3 [p.av,.int .i64 r,.bool six,x.av,.int .i64 t] [kindsO] (.bool true) [kindsO]:=by
 have h1:=traceP_spec p r six x t hw hx
 have h2:=traceD_spec p r six x t hw hx
 have h3:=lives26_spec
 have h4:=alike_spec (traceR p r six x t).1 (traceR p r six x t).1
 generalize traceR p r six x t=W at*
 generalize traceE p r six x t=E at*
 obtain⟨W,v⟩:=W
 simp only at h1 h2 h4
 rw[show decide True=true by rfl]at h4
 refine FSpec.of_o (q:=[]) Tryz.func3 (by kernel_rfl) rfl Tryz.ntmps3 Tryz.results3 hP (by kernel_rfl) (by simp) (by first|rfl|simp) ?_
 simp -implicitDefEqProofs [kindsO]
 refine CallO.mk [] [0] h1 (by simp) rfl (by simp[kindsO]) (by simp[kindsO]) (by simp[kindsO]) ?_
 simp -implicitDefEqProofs [kindsO]
 refine CallK.v0 h2 rfl (by simp) rfl ?_
 simp -implicitDefEqProofs [kindsO]
 refine CallO.mk [] [0] h3 (by simp) rfl (by simp[kindsO]) (by simp[kindsO]) (by simp[kindsO]) ?_
 simp -implicitDefEqProofs [kindsO]
 refine CallG.on ?_
 first|refine CallK.same (h4) rfl rfl ?_|refine CallQ.same (h4) rfl rfl ?_|refine CallQG.same _ (h4) rfl ?_|refine CallG.same _ (h4) rfl ?_|refine CallK.pv (h4) rfl rfl ?_
 simp -implicitDefEqProofs [kindsO]
 trace_state
 refine EndO.ret [] [0] (.bool true) (by simp) ?_
 simp -implicitDefEqProofs [kindsO]
end Go.Am
namespace Go.Am
open Go.Proofs
theorem boolV_arg (y:List IV) (h:Sh.hasL [.bool] y):∃t:Bool,argAV Tryz.prog 4 y=.bool t:=by
 obtain⟨a,_,rfl,ha,h⟩:=hasL_cons h
 cases hasL_nil h
 obtain⟨a,rfl⟩:=has_bool ha
 refine⟨a,?_⟩
 simp only[argAV,Tryz.underlying4]
theorem addrV_arg (y:List IV) (h:Sh.hasL addrSh y):∃a:Addr4,a.wf∧argAV Tryz.prog 31 y=a.av:=by
 obtain⟨a,ha,ea⟩:=addr_of y h
 refine⟨a,ha,?_⟩
 simp only[argAV,Tryz.underlying31,ea]
 rfl
theorem num_arg (y:List IV) (h:Sh.hasL [.int .i64] y):∃t:Int,argAV Tryz.prog 3 y=.int .i64 t:=by
 obtain⟨t,rfl⟩:=int1_of h
 refine⟨t,?_⟩
 simp only[argAV,Tryz.underlying3]
theorem ivlP_arg (y:List IV) (h:Sh.hasL ivlSh y):∃w:Int×Int,argAV Tryz.prog 43 y=.agg [.int .i64 w.1,.int .i64 w.2]:=by
 obtain⟨a,b,rfl⟩:=ivl_of h
 refine⟨(a,b),?_⟩
 simp only[argAV,Tryz.underlying43]
 rfl
theorem kindV_arg (y:List IV) (h:Sh.hasL [.int .u8] y):∃t:Int,argAV Tryz.prog 33 y=.int .u8 t:=by
 obtain⟨a,_,rfl,ha,h⟩:=hasL_cons h
 cases hasL_nil h
 obtain⟨t,rfl,_⟩:=has_int ha
 refine⟨t,?_⟩
 simp only[argAV,Tryz.underlying33]
theorem args_wtraces {xs:List (List IV)} (h:hasArgs [pastSh,[.int .i64],[.bool],addrSh,[.int .i64]] xs):∃(p:Past) (r:Int) (s:Bool) (x:Addr4) (t:Int),p.wf∧x.wf∧argsAV Tryz.prog [28,3,4,31,2] xs=[p.av,.int .i64 r,.bool s,x.av,.int .i64 t]:=by
 obtain⟨y0,_,rfl,g0,h⟩:=hasArgs_cons h
 obtain⟨y1,_,rfl,g1,h⟩:=hasArgs_cons h
 obtain⟨y2,_,rfl,g2,h⟩:=hasArgs_cons h
 obtain⟨y3,_,rfl,g3,h⟩:=hasArgs_cons h
 obtain⟨y4,_,rfl,g4,h⟩:=hasArgs_cons h
 cases h
 obtain⟨p,h0,e0⟩:=past_arg y0 g0
 obtain⟨r,e1⟩:=num_arg y1 g1
 obtain⟨s,e2⟩:=boolV_arg y2 g2
 obtain⟨x,h3,e3⟩:=addrV_arg y3 g3
 obtain⟨t,e4⟩:=int_arg y4 g4
 refine⟨p,r,s,x,t,h0,h3,?_⟩
 simp only[argsAV,e0,e1,e2,e3,e4]
theorem args_wtells {xs:List (List IV)} (h:hasArgs [pastSh,[.int .i64],[.bool],addrSh,ivlSh,[.int .u8]] xs):∃(p:Past) (r:Int) (s:Bool) (x:Addr4) (w:Int×Int) (k:Int),p.wf∧x.wf∧argsAV Tryz.prog [28,3,4,31,43,33] xs=[p.av,.int .i64 r,.bool s,x.av,.agg [.int .i64 w.1,.int .i64 w.2],.int .u8 k]:=by
 obtain⟨y0,_,rfl,g0,h⟩:=hasArgs_cons h
 obtain⟨y1,_,rfl,g1,h⟩:=hasArgs_cons h
 obtain⟨y2,_,rfl,g2,h⟩:=hasArgs_cons h
 obtain⟨y3,_,rfl,g3,h⟩:=hasArgs_cons h
 obtain⟨y4,_,rfl,g4,h⟩:=hasArgs_cons h
 obtain⟨y5,_,rfl,g5,h⟩:=hasArgs_cons h
 cases h
 obtain⟨p,h0,e0⟩:=past_arg y0 g0
 obtain⟨r,e1⟩:=num_arg y1 g1
 obtain⟨s,e2⟩:=boolV_arg y2 g2
 obtain⟨x,h3,e3⟩:=addrV_arg y3 g3
 obtain⟨w,e4⟩:=ivlP_arg y4 g4
 obtain⟨k,e5⟩:=kindV_arg y5 g5
 refine⟨p,r,s,x,w,k,h0,h3,?_⟩
 simp only[argsAV,e0,e1,e2,e3,e4,e5]
theorem args_wever {xs:List (List IV)} (h:hasArgs [pastSh,[.int .i64],[.bool],addrSh,ivlSh] xs):∃(p:Past) (r:Int) (s:Bool) (x:Addr4) (w:Int×Int),p.wf∧x.wf∧argsAV Tryz.prog [28,3,4,31,43] xs=[p.av,.int .i64 r,.bool s,x.av,.agg [.int .i64 w.1,.int .i64 w.2]]:=by
 obtain⟨y0,_,rfl,g0,h⟩:=hasArgs_cons h
 obtain⟨y1,_,rfl,g1,h⟩:=hasArgs_cons h
 obtain⟨y2,_,rfl,g2,h⟩:=hasArgs_cons h
 obtain⟨y3,_,rfl,g3,h⟩:=hasArgs_cons h
 obtain⟨y4,_,rfl,g4,h⟩:=hasArgs_cons h
 cases h
 obtain⟨p,h0,e0⟩:=past_arg y0 g0
 obtain⟨r,e1⟩:=num_arg y1 g1
 obtain⟨s,e2⟩:=boolV_arg y2 g2
 obtain⟨x,h3,e3⟩:=addrV_arg y3 g3
 obtain⟨w,e4⟩:=ivlP_arg y4 g4
 refine⟨p,r,s,x,w,h0,h3,?_⟩
 simp only[argsAV,e0,e1,e2,e3,e4]
theorem args_wpart {xs:List (List IV)} (h:hasArgs [pastSh,[.int .i64],[.bool],addrSh,ivlSh,ivlSh] xs):∃(p:Past) (r:Int) (s:Bool) (x:Addr4) (w:Int×Int) (w2:Int×Int),p.wf∧x.wf∧argsAV Tryz.prog [28,3,4,31,43,43] xs=[p.av,.int .i64 r,.bool s,x.av,.agg [.int .i64 w.1,.int .i64 w.2],.agg [.int .i64 w2.1,.int .i64 w2.2]]:=by
 obtain⟨y0,_,rfl,g0,h⟩:=hasArgs_cons h
 obtain⟨y1,_,rfl,g1,h⟩:=hasArgs_cons h
 obtain⟨y2,_,rfl,g2,h⟩:=hasArgs_cons h
 obtain⟨y3,_,rfl,g3,h⟩:=hasArgs_cons h
 obtain⟨y4,_,rfl,g4,h⟩:=hasArgs_cons h
 obtain⟨y5,_,rfl,g5,h⟩:=hasArgs_cons h
 cases h
 obtain⟨p,h0,e0⟩:=past_arg y0 g0
 obtain⟨r,e1⟩:=num_arg y1 g1
 obtain⟨s,e2⟩:=boolV_arg y2 g2
 obtain⟨x,h3,e3⟩:=addrV_arg y3 g3
 obtain⟨w,e4⟩:=ivlP_arg y4 g4
 obtain⟨w2,e5⟩:=ivlP_arg y5 g5
 refine⟨p,r,s,x,w,w2,h0,h3,?_⟩
 simp only[argsAV,e0,e1,e2,e3,e4,e5]
end Go.Am
namespace Go.Am
theorem Goes.within {H:Int→Hop} {S:Int→Prop} (hS:∀x,moves H x→S (H x).peer):∀{way:List Int} {r:Int} {res:List Int×Verd},Goes H way r res→S r→S res.2.at_
 |_,_,_,.ends h,hr=>by
  unfold endsF
  repeat' split
  all_goals exact hr
 |_,_,_,.again h hp,hr=>hS _ h
 |_,_,_,.step h hp hs,hr=>Goes.within hS hs (hS _ h)
theorem checkLL_right:∀{l:List Link} {ah:Int},checkLL l ah=0→∀x∈l,rightL x=true
 |[],_,_,x,hx=>by cases hx
 |s::t,ah,h,x,hx=>by
  rw[checkLL]at h
  split at h
  ·cases h
  ·rename_i hc
   simp at hc
   rcases List.mem_cons.1 hx with rfl|hx
   ·exact hc.1
   ·exact checkLL_right h x hx
theorem checkL_right {l:List Link} (h:checkL l=0):∀x∈l,rightL x=true:=by
 unfold checkL at h
 split at h
 ·cases h
 ·exact checkLL_right h
theorem hop_peer {n:Net} {six:Bool} {a:Addr4} {r:Int} (hok:netOk n=true) (h:(doesF n r six a).kind=1):0≤(doesF n r six a).peer∧(doesF n r six a).peer≤1048576:=by
 unfold doesF at h⊢
 cases hb:routerF n.routers r with
 |none=>rw[hb]at h;cases h
 |some y=>
  rw[hb]at h
  simp only at h⊢
  have hm:y∈n.routers:=List.mem_of_find?_eq_some hb
  have hy:=(netOk_routers hok).2 y hm
  unfold routerOk at hy
  simp only[Bool.and_eq_true,beq_iff_eq]at hy
  have hl:=hy.2
  unfold hopF at h⊢
  cases hx:bestF six a y.routes none with
  |none=>rw[hx]at h;cases h
  |some q=>
   rw[hx]at h
   simp only at h⊢
   split at h
   ·cases h
   ·rename_i h2
    rw[if_neg h2]
    split at h
    ·cases h
    ·rename_i h3
     rw[if_neg h3]
     cases hp:peerF y.links q.act.iface with
     |none=>rw[hp]at h;cases h
     |some p=>
      simp only
      unfold peerF at hp
      obtain⟨z,hz,rfl⟩:=Option.map_eq_some_iff.1 hp
      have hzm:=List.mem_of_find?_eq_some hz
      have hzr:=checkL_right hl z hzm
      unfold rightL at hzr
      simp at hzr
      exact⟨hzr.1.2,hzr.2⟩
theorem way_right {n:Net} {six:Bool} {a:Addr4} {r:Int} (hok:netOk n=true) (h0:0≤r) (h1:r≤1048576):1≤(wayN n six a r).2.kind∧(wayN n six a r).2.kind≤4∧0≤(wayN n six a r).2.at_∧(wayN n six a r).2.at_≤1048576:=by
 have hg:=wayN_goes n six a r
 have hk:=hg.kind
 have hw:=Goes.within (S:=fun x=>0≤x∧x≤1048576) (fun x hx=>by
  have hkk:=hopN_kind n six a x
  obtain⟨m0,m2,m3⟩:=hx
  exact hop_peer hok (by unfold hopN at hkk m0 m2 m3;omega)) hg ⟨h0,h1⟩
 exact⟨by omega,by omega,hw.1,hw.2⟩
end Go.Am
namespace Go.Am
open Go.Proofs
def rightV (v:Verd):Bool:=decide (0<v.kind)&&decide (v.kind<5)&&decide (0≤v.at_)&&decide (v.at_≤1048576)
theorem rightVd_spec (v:Verd):FSpec Tryz.prog 80 [v.av] [] (.bool (rightV v)) []:=by
 refine FSpec.of_flat (q:=[]) Tryz.func80 (by kernel_rfl) rfl Tryz.ntmps80 Tryz.results80 hP (by kernel_rfl) (by simp) (by first|rfl|simp) ?_
 simp -implicitDefEqProofs [rightV]
theorem windowL_spec (a b:Int):FSpec Tryz.prog 66 [.agg [.int .i64 a,.int .i64 b]] [] (.bool (oneC (a,b))) []:=by
 have h1:=checkI_spec [(a,b)]
 simp at h1
 refine FSpec.of_flat (q:=[]) Tryz.func66 (by kernel_rfl) rfl Tryz.ntmps66 Tryz.results66 hP (by kernel_rfl) (by simp) (by first|rfl|simp) ?_
 simp -implicitDefEqProofs
 refine CallK.fz [1] h1 rfl (by simp) rfl ?_
 simp -implicitDefEqProofs [oneC]
 rfl
theorem oneC_eq (a b:Int):oneC (a,b)=oneI a b:=by
 unfold oneC oneI checkI
 by_cases h1:0≤a<;>by_cases h2:a≤b<;>by_cases h3:b≤1099511627776<;>simp[soundI,aheadI,h1,h2,h3]
theorem tile_at {T:Type} [DecidableEq T]:∀{l:List (Pc T)} {n:Int} {pv:Option T} {e:Int},Tile n pv l e→∀(k:Nat) (hk:k<l.length),l[k].a≤l[k].b∧n≤l[k].a∧l[k].b<e∧
  (k=0→l[k].a=n)∧(k+1=l.length→l[k].b+1=e)∧(∀(j:Nat) (hj:j<l.length),k=j+1→l[k].a=l[j].b+1∧l[k].v≠l[j].v)
 |[],n,pv,e,h,k,hk=>by simp at hk
 |x::l,n,pv,e,h,k,hk=>by
  obtain⟨h1,h2,h3,h4⟩:=h
  have hle:=Tile.le h4
  cases k with
  |zero=>
   refine⟨h2,by show n≤x.a;omega,by show x.b<e;omega,fun _=>h1,fun hl=>?_,fun j hj hh=>by omega⟩
   have:l=[]:=List.length_eq_zero_iff.1 (by simp at hl;exact hl.symm▸rfl)
   subst this
   exact h4
  |succ k=>
   have hk':k<l.length:=by simpa using hk
   obtain⟨g1,g2,g3,g4,g5,g6⟩:=tile_at h4 k hk'
   refine⟨g1,by show n≤l[k].a;omega,g3,fun h=>by omega,fun hl=>g5 (by simp at hl;omega),fun j hj hh=>?_⟩
   cases j with
   |zero=>
    have hk0:k=0:=by omega
    subst hk0
    refine⟨g4 rfl,?_⟩
    show l[0].v≠x.v
    match l,hk',h4 with
    |y::l',_,h4=>intro he;exact h4.2.2.1 (congrArg some he.symm)
   |succ j=>
    exact g6 j (by simpa using hj) (by omega)
set_option maxRecDepth 8000 in
set_option maxHeartbeats 4000000 in
theorem checkW_spec (L:List (Pc Verd)) (a b:Int) (ho:oneI a b=true) (ht:Tile a none L (b+1)) (hl:L.length≤1024) (hr:∀x∈L,rightV x.v=true):
  FSpec Tryz.prog 28 [.agg [.int .i64 a,.int .i64 b],.im (.sl 4 (L.map Pc.ivVd))] [] (.int .i64 0) []:=by
 have h1:=windowL_spec a b
 rw[oneC_eq,ho]at h1
 have ho':=ho
 simp only[oneI,Bool.and_eq_true,decide_eq_true_eq]at ho'
 have hne:0<L.length:=by
  cases L with
  |nil=>have:a=b+1:=ht;omega
  |cons x l=>simp
 have hi:=tile_at ht
 have hf:=(hi 0 hne).2.2.2.1 rfl
 have hla:=(hi (L.length-1) (by omega)).2.2.2.2.1 (by omega)
 have e0:IntKind.i64.wrap ((L.length:Int)-1)=((L.length-1:Nat):Int):=by rw[wrap64 (by omega) (by omega)];omega
 have g0:¬(L.length:Int)=0:=by omega
 have g1:¬(1024:Int)<L.length:=by omega
 have g2:L.length-1<L.length:=by omega
 refine FSpec.of_z (q:=[(2,.n 31),(9,.n 24)]) Tryz.func28 (by kernel_rfl) rfl Tryz.ntmps28 Tryz.results28 hP (by kernel_rfl) (by simp) (by first|rfl|simp) ?_
 simp -implicitDefEqProofs
 first|refine CallK.same (h1) rfl rfl ?_|refine CallQ.same (h1) rfl rfl ?_|refine CallQG.same _ (h1) rfl ?_|refine CallG.same _ (h1) rfl ?_|refine CallK.pv (h1) rfl rfl ?_
 simp -implicitDefEqProofs [g0,g1,e0,g2,hne,hf]
 refine⟨fun h=>?_,fun h1' h2'=>?_⟩
 ·exfalso
  rcases h with h|h
  ·rw[h]at hne;simp at hne
  ·omega
 refine LoopK.os (fun k:Nat=>[(1,.im (.sl 4 (L.map Pc.ivVd))),(2,.ptr 0 0),(43,.im (.sl 4 (L.map Pc.ivVd))),(44,.int .i64 L.length),(45,.int .i64 k)])
  (fun k=>[.box 43 [.int .i64 a,.int .i64 b]])
  (fun k=>k≤L.length) (fun k=>L.length-k) 0 [0] (Nat.zero_le _) (by simp) ?_
 intro k hk
 by_cases hlt:k<L.length
 ·have e1:IntKind.i64.wrap (k+1)=(k+1:Nat):=wrap64 (by omega) (by omega)
  obtain⟨i1,i2,i3,i4,i5,i6⟩:=hi k hlt
  have hrv:=hr L[k] (List.getElem_mem hlt)
  have hv:=rightVd_spec L[k].v
  rw[hrv]at hv
  obtain⟨y,hy⟩:∃y,L[k]=y:=⟨_,rfl⟩
  rw[hy]at i1 i2 i3 i4 i5 i6 hv
  have q1:¬y.b<y.a:=by omega
  have q2:¬b<y.b:=by omega
  rcases Nat.eq_zero_or_pos k with h0|h0
  ·subst h0
   have em:IntKind.i64.wrap (-1)= -1:=by decide
   have hL0:L[0]? =some y:=by rw[List.getElem?_eq_getElem hlt,hy]
   simp -implicitDefEqProofs [hlt,hy]
   first|refine CallK.same (hv) rfl rfl ?_|refine CallQ.same (hv) rfl rfl ?_|refine CallQG.same _ (hv) rfl ?_|refine CallG.same _ (hv) rfl ?_|refine CallK.pv (hv) rfl rfl ?_
   simp -implicitDefEqProofs [q1,q2,em,hL0]
   refine Again.os 1 [0] hlt (by omega) ?_
   simp -implicitDefEqProofs [show IntKind.i64.wrap 1=1 by decide]
  ·have hj:k-1<L.length:=by omega
   obtain⟨r1,r2⟩:=i6 (k-1) hj (by omega)
   obtain⟨z,hz⟩:∃z,L[k-1]=z:=⟨_,rfl⟩
   rw[hz]at r1 r2
   have e2:IntKind.i64.wrap ((k:Int)-1)=((k-1:Nat):Int):=by rw[wrap64 (by omega) (by omega)];omega
   have e3:IntKind.i64.wrap (y.a-1)=z.b:=by rw[wrap64 (by omega) (by omega)];omega
   have hL1:L[k-1]? =some z:=by rw[List.getElem?_eq_getElem hj,hz]
   simp -implicitDefEqProofs [hlt,hy]
   first|refine CallK.same (hv) rfl rfl ?_|refine CallQ.same (hv) rfl rfl ?_|refine CallQG.same _ (hv) rfl ?_|refine CallG.same _ (hv) rfl ?_|refine CallK.pv (hv) rfl rfl ?_
   simp -implicitDefEqProofs [q1,q2,e2,hL1,e3,h0,hj]
   refine⟨fun h=>?_,fun _ _=>?_⟩
   ·exfalso
    rw[hz]at h
    rcases h with h|h
    ·exact h rfl
    ·exact r2 (Vd_ext h.1 h.2)
   ·refine Again.os (k+1) [0] hlt (by omega) ?_
    simp -implicitDefEqProofs [e1]
 ·have hkk:k=L.length:=by omega
  subst hkk
  simp -implicitDefEqProofs
  refine EndZ.ret [] (.int .i64 0) (by simp) (by simp)
theorem vd_right {p:Past} {r:Int} {six:Bool} {x:Addr4} {a b:Int} (h:askV p r six x a b=0):∀y∈lineP p (fun n=>(wayN n six x r).2) a b,rightV y.v=true:=by
 obtain⟨hok,hr,ho,h3,h4,h5⟩:=askV_zero h
 simp only[oneI,Bool.and_eq_true,decide_eq_true_eq]at ho
 intro y hy
 have ht:=tile_up (lineP_tile p (fun n=>(wayN n six x r).2) ho.1.2)
 have hv:=lineP_val p (fun n=>(wayN n six x r).2) ho.1.2 y hy y.a (Int.le_refl _) (ht.1 y hy).2.1
 have hw:=way_right (n:=thenF p y.a) (six:=six) (a:=x) (r:=r) (thenF_all hok y.a).2.2 h3 h4
 rw[←hv]
 obtain⟨w1,w2,w3,w4⟩:=hw
 have e1:0<(wayN (thenF p y.a) six x r).2.kind:=by omega
 have e2:(wayN (thenF p y.a) six x r).2.kind<5:=by omega
 simp[rightV,e1,e2,w3,w4]
end Go.Am
namespace Go.Am
open Go.Proofs
def cutE (a b c d:Int):Int:=if oneI c d=true∧a≤c∧d≤b then 0 else 1
theorem cutL_app {T:Type} [DecidableEq T] (c d:Int) (l m:List (Pc T)):cutL c d (l++m)=cutL c d l++cutL c d m:=by unfold cutL;rw[List.filterMap_append]
theorem cutL_len {T:Type} [DecidableEq T] (c d:Int) (l:List (Pc T)):(cutL c d l).length≤l.length:=List.length_filterMap_le _ _
set_option maxRecDepth 8000 in
set_option maxHeartbeats 4000000 in
theorem cutW_spec (L:List (Pc Verd)) (a b c d:Int) (ho:oneI a b=true) (ht:Tile a none L (b+1)) (hl:L.length≤1024) (hr:∀x∈L,rightV x.v=true):
  FSpec Tryz.prog 20 [.agg [.int .i64 a,.int .i64 b],.im (.sl 4 (L.map Pc.ivVd)),.agg [.int .i64 c,.int .i64 d]] []
   (.tup [.im (.sl 4 ((if cutE a b c d=0 then cutL c d L else[]).map Pc.ivVd)),.int .i64 (cutE a b c d)]) []:=by
 have h1:=checkW_spec L a b ho ht hl hr
 have h2:=windowL_spec c d
 rw[oneC_eq]at h2
 have hi:=tile_at ht
 refine FSpec.of_z (q:=[(11,.m [.p [] [],.p [] [],.p [] [],.p [] [],.p [] [],.p [] [],.p [] [],.p [] [],.p [] [],.p [1] [],.p [1] [],.p [1] [],.p [] [],.p [] [],.e [68,60]])]) Tryz.func20 (by kernel_rfl) rfl Tryz.ntmps20 Tryz.results20 hP (by kernel_rfl) (by simp) (by first|rfl|simp) ?_
 simp -implicitDefEqProofs
 first|refine CallK.same (h1) rfl rfl ?_|refine CallQ.same (h1) rfl rfl ?_|refine CallQG.same _ (h1) rfl ?_|refine CallG.same _ (h1) rfl ?_|refine CallK.pv (h1) rfl rfl ?_
 simp -implicitDefEqProofs
 first|refine CallK.same (h2) rfl rfl ?_|refine CallQ.same (h2) rfl rfl ?_|refine CallQG.same _ (h2) rfl ?_|refine CallG.same _ (h2) rfl ?_|refine CallK.pv (h2) rfl rfl ?_
 by_cases hc:oneI c d=true∧a≤c∧d≤b
 ·have hE:cutE a b c d=0:=by unfold cutE;rw[if_pos hc]
  obtain⟨hc1,hc2,hc3⟩:=hc
  have hcd:c≤d:=by simp only[oneI,Bool.and_eq_true,decide_eq_true_eq]at hc1;exact hc1.1.2
  have q1:¬c<a:=by omega
  have q2:¬b<d:=by omega
  simp -implicitDefEqProofs [hc1,q1,q2,hE]
  refine LoopK.nil (.sl 9 71 4) ?_
  simp -implicitDefEqProofs
  refine LoopK.os (fun k:Nat=>[(5,.ptr 0 0),(9,.row 1),(35,.im (.sl 4 (L.map Pc.ivVd))),(36,.int .i64 L.length),(37,.int .i64 k)])
   (fun k=>[.box 43 [.int .i64 c,.int .i64 d],.row 71 4 ((cutL c d (L.take k)).map Pc.ivVd)])
   (fun k=>k≤L.length) (fun k=>L.length-k) 0 [1,2] (Nat.zero_le _) (by simp[cutL]) ?_
  intro k hk
  by_cases hlt:k<L.length
  ·have e1:IntKind.i64.wrap (k+1)=(k+1:Nat):=wrap64 (by omega) (by omega)
   obtain⟨i1,i2,i3,i4,i5,i6⟩:=hi k hlt
   have htk:L.take (k+1)=L.take k++[L[k]]:=by rw[List.take_add_one,List.getElem?_eq_getElem hlt];rfl
   obtain⟨y,hy⟩:∃y,L[k]=y:=⟨_,rfl⟩
   rw[hy]at i1 i2 i3 htk
   have hcl:=cutL_len c d (L.take k)
   rw[List.length_take]at hcl
   have hacc:cutL c d (L.take (k+1))=cutL c d (L.take k)++(if y.b<c∨d<y.a then[]else[⟨max y.a c,min y.b d,y.v⟩]):=by
    rw[htk,cutL_app]
    congr 1
    by_cases h:y.b<c∨d<y.a
    ·rw[if_pos h];unfold cutL;rw[List.filterMap_cons,if_neg (by omega)];rfl
    ·rw[if_neg h];unfold cutL;rw[List.filterMap_cons,if_pos (by omega)];rfl
   generalize cutL c d (L.take k)=out at*
   have m1:(if y.a<c then c else y.a)=max y.a c:=by split<;>omega
   have m2:(if d<y.b then d else y.b)=min y.b d:=by split<;>omega
   simp -implicitDefEqProofs [hlt,hy,m1,m2]
   refine⟨fun h=>?_,fun g1 g2=>?_⟩
   ·rw[if_pos h,List.append_nil]at hacc
    refine Again.os (k+1) [0,1] hlt (by omega) ?_
    simp -implicitDefEqProofs [e1,hacc]
   ·rw[if_neg (by omega)]at hacc
    refine⟨⟨by omega,by unfold maxLen;omega⟩,?_⟩
    refine Again.os (k+1) [0,4] hlt (by omega) ?_
    simp -implicitDefEqProofs [e1,hacc]
  ·have hkk:k=L.length:=by omega
   subst hkk
   simp -implicitDefEqProofs
   refine EndZ.ret [1] (.tup [.row 1,.int .i64 0]) (by simp) (by simp)
 ·have hE:cutE a b c d=1:=by unfold cutE;rw[if_neg hc]
  by_cases hc1:oneI c d=true
  ·have q:c<a∨b<d:=by
    by_cases h:c<a
    ·exact .inl h
    ·by_cases h':b<d
     ·exact .inr h'
     ·exact absurd ⟨hc1,by omega,by omega⟩ hc
   simp -implicitDefEqProofs [hc1,hE]
   refine⟨fun _=>?_,fun g1 g2=>by omega⟩
   refine EndZ.ret [] (.tup [.im (.sc (.slice none 0 0)),.int .i64 1]) (by simp) (by simp)
  ·simp -implicitDefEqProofs [hc1,hE]
   refine EndZ.ret [] (.tup [.im (.sc (.slice none 0 0)),.int .i64 1]) (by simp) (by simp)
end Go.Am
namespace Go.Am
open Go.Proofs
theorem verd_part {p:Past} {r:Int} {six:Bool} {x:Addr4} {a b c d:Int} (h:verdE p r six x a b=0) (hc:cutE a b c d=0):
  verdE p r six x c d=0∧verdL p r six x c d=cutL c d (verdL p r six x a b):=by
 have ha:askV p r six x a b=0:=by
  unfold verdE at h
  split at h
  ·assumption
  ·exact h
 have hl:(lineP p (fun n=>(wayN n six x r).2) a b).length≤1024:=by
  unfold verdE at h
  rw[if_pos ha]at h
  split at h
  ·cases h
  ·omega
 obtain⟨hok,hr,ho,h3,h4,h5⟩:=askV_zero ha
 have hcc:oneI c d=true∧a≤c∧d≤b:=by
  unfold cutE at hc
  split at hc
  ·assumption
  ·cases hc
 obtain⟨hc1,hc2,hc3⟩:=hcc
 have hcd:c≤d:=by simp only[oneI,Bool.and_eq_true,decide_eq_true_eq]at hc1;exact hc1.1.2
 have hp:=lineP_part p (fun n=>(wayN n six x r).2) hc2 hcd hc3
 have hlen:=cutL_len c d (lineP p (fun n=>(wayN n six x r).2) a b)
 rw[hp]at hlen
 have hA:askV p r six x c d=0:=by
  unfold askV
  rw[if_neg (by simp[hok,hr]),if_neg (by rintro(h|h|h);rw[hc1]at h;cases h;omega;omega),if_neg (by omega)]
 have hE:verdE p r six x c d=0:=by unfold verdE;rw[if_pos hA,if_neg (by omega)]
 refine⟨hE,?_⟩
 unfold verdL
 rw[if_pos hE,if_pos h,hp]
set_option maxRecDepth 8000 in
set_option maxHeartbeats 4000000 in
theorem windowPart_spec (p:Past) (r:Int) (six:Bool) (x:Addr4) (a b c d:Int) (hw:p.wf) (hx:x.wf):
  FSpec Tryz.prog 4 [p.av,.int .i64 r,.bool six,x.av,.agg [.int .i64 a,.int .i64 b],.agg [.int .i64 c,.int .i64 d]] [kindsO] (.bool true) [kindsO]:=by
 have h1:=verdictsP_spec p r six x a b hw hx
 have h2:=verdictsP_spec p r six x c d hw hx
 have h3:=lives26_spec
 refine FSpec.of_o (q:=[]) Tryz.func4 (by kernel_rfl) rfl Tryz.ntmps4 Tryz.results4 hP (by kernel_rfl) (by simp) (by first|rfl|simp) ?_
 simp -implicitDefEqProofs [kindsO]
 refine CallO.mk [] [0] h3 (by simp) rfl (by simp[kindsO]) (by simp[kindsO]) (by simp[kindsO]) ?_
 simp -implicitDefEqProofs [kindsO]
 refine CallO.mk [] [0] h1 (by simp) rfl (by simp[kindsO]) (by simp[kindsO]) (by simp[kindsO]) ?_
 simp -implicitDefEqProofs [kindsO]
 refine⟨fun h=>?_,fun h=>?_⟩
 ·refine EndO.ret [] [0] (.bool true) (by simp) ?_
  simp -implicitDefEqProofs [kindsO]
 have ha:askV p r six x a b=0:=by
  unfold verdE at h
  split at h
  ·assumption
  ·exact h
 have hup:=verdL_up h
 have hvl:verdL p r six x a b=lineP p (fun n=>(wayN n six x r).2) a b:=by unfold verdL;rw[if_pos h]
 obtain⟨hok,hr,ho,g3,g4,g5⟩:=askV_zero ha
 have hab:a≤b:=by simp only[oneI,Bool.and_eq_true,decide_eq_true_eq]at ho;exact ho.1.2
 have h4:=cutW_spec (verdL p r six x a b) a b c d ho (by rw[hvl];exact lineP_tile p _ hab) hup.2.2.2 (by rw[hvl];exact vd_right ha)
 have hpt:=fun hc=>verd_part (c:=c) (d:=d) h hc
 generalize verdL p r six x a b=L at*
 refine CallK.v0 h4 rfl (by simp) rfl ?_
 simp -implicitDefEqProofs [kindsO]
 refine CallO.mk [] [0] h2 (by simp) rfl (by simp[kindsO]) (by simp[kindsO]) (by simp[kindsO]) ?_
 by_cases hc:cutE a b c d=0
 ·obtain⟨q1,q2⟩:=hpt hc
  have h5:=same20_spec (cutL c d L) (by have:=cutL_len c d L;omega)
  rw[q1,q2]
  simp -implicitDefEqProofs [kindsO,hc]
  refine CallG.on ?_
  first|refine CallK.same (h5) rfl rfl ?_|refine CallQ.same (h5) rfl rfl ?_|refine CallQG.same _ (h5) rfl ?_|refine CallG.same _ (h5) rfl ?_|refine CallK.pv (h5) rfl rfl ?_
  simp -implicitDefEqProofs [kindsO]
  refine EndO.ret [] [0] (.bool true) (by simp) ?_
  simp -implicitDefEqProofs [kindsO]
 ·have hc1:cutE a b c d=1:=by
   unfold cutE at hc⊢
   split
   ·rename_i h';rw[if_pos h']at hc;exact absurd rfl hc
   ·rfl
  simp -implicitDefEqProofs [kindsO,hc1]
  refine CallG.off (.bool true) ?_
  simp -implicitDefEqProofs [kindsO]
  refine EndO.ret [] [0] (.bool true) (by simp) ?_
  simp -implicitDefEqProofs [kindsO]
end Go.Am
namespace Go.Am
open Go.Proofs
def inI (t:Int) (l:List Ivl):Prop:=∃x∈l,x.1≤t∧t≤x.2
def lastHi (l:List Ivl) (pv:Option Int):Option Int:=match l.getLast? with
 |some y=>some y.2
 |none=>pv
def okI (x:Ivl):Bool:=decide (0≤x.1)&&decide (x.1≤x.2)&&decide (x.2≤1099511627776)
theorem soundI_cons (x:Ivl) (l:List Ivl) (pv:Option Int):soundI (x::l) pv=(okI x&&aheadI pv x&&soundI l (some x.2)):=rfl
theorem lastHi_cons (x:Ivl) (l:List Ivl) (pv:Option Int):lastHi (x::l) pv=lastHi l (some x.2):=by
 unfold lastHi
 cases l with
 |nil=>rfl
 |cons y l=>rw[List.getLast?_cons_cons];cases h:(y::l).getLast? with
  |none=>simp at h
  |some z=>rfl
theorem soundI_snoc (x:Ivl):∀(l:List Ivl) (pv:Option Int),soundI (l++[x]) pv=(soundI l pv&&okI x&&aheadI (lastHi l pv) x)
 |[],pv=>by
  show soundI [x] pv=_
  rw[soundI_cons]
  simp[soundI,lastHi]
 |y::l,pv=>by
  rw[List.cons_append,soundI_cons,soundI_snoc x l (some y.2),soundI_cons,lastHi_cons]
  cases okI y<;>cases aheadI pv y<;>cases soundI l (some y.2)<;>simp
theorem inI_app (t:Int) (l m:List Ivl):inI t (l++m)↔inI t l∨inI t m:=by
 unfold inI
 constructor
 ·rintro⟨x,hx,h⟩
  rcases List.mem_append.1 hx with hx|hx
  ·exact .inl ⟨x,hx,h⟩
  ·exact .inr ⟨x,hx,h⟩
 ·rintro(⟨x,hx,h⟩|⟨x,hx,h⟩)
  ·exact⟨x,List.mem_append.2 (.inl hx),h⟩
  ·exact⟨x,List.mem_append.2 (.inr hx),h⟩
theorem inI_one (t:Int) (x:Ivl):inI t [x]↔x.1≤t∧t≤x.2:=by
 unfold inI
 simp
theorem okI_iff (x:Ivl):okI x=true↔0≤x.1∧x.1≤x.2∧x.2≤1099511627776:=by
 unfold okI
 simp only[Bool.and_eq_true,decide_eq_true_eq,and_assoc]
theorem joinStep_law (out:List Ivl) (x:Ivl) (hs:soundI out none=true) (hx:okI x=true) (ho:∀y∈out.getLast?,y.1≤x.1):
  soundI (joinStep out x) none=true∧(∀t,inI t (joinStep out x)↔inI t out∨(x.1≤t∧t≤x.2))∧(∀y∈(joinStep out x).getLast?,y.1≤x.1):=by
 rcases List.eq_nil_or_concat out with rfl|⟨out,y,rfl⟩
 ·refine⟨?_,fun t=>?_,fun y hy=>?_⟩
  ·show soundI [x] none=true
   rw[soundI_cons,hx];rfl
  ·show inI t [x]↔_
   rw[inI_one]
   simp[inI]
  ·have:x=y:=by simpa [joinStep]using hy
   rw[this];exact Int.le_refl _
 ·rw[List.concat_eq_append]at*
  have hyx:y.1≤x.1:=ho y (by simp)
  rw[soundI_snoc]at hs
  simp only[Bool.and_eq_true]at hs
  obtain⟨⟨hs1,hs2⟩,hs3⟩:=hs
  obtain⟨x1,x2,x3⟩:=(okI_iff x).1 hx
  obtain⟨y1,y2,y3⟩:=(okI_iff y).1 hs2
  have hw:y.2≠1099511627776→IntKind.i64.wrap (y.2+1)=y.2+1:=fun _=>wrap64 (by omega) (by omega)
  have hj:joinStep (out++[y]) x=if y.2≠1099511627776∧IntKind.i64.wrap (y.2+1)<x.1 then out++[y]++[x]else if y.2<x.2 then out++[(y.1,x.2)]else out++[y]:=by
   unfold joinStep
   simp
  rw[hj]
  by_cases h1:y.2≠1099511627776∧IntKind.i64.wrap (y.2+1)<x.1
  ·rw[if_pos h1]
   have h2:=h1.2
   rw[hw h1.1]at h2
   refine⟨?_,fun t=>?_,fun z hz=>?_⟩
   ·rw[soundI_snoc,soundI_snoc,hs1,hs2,hs3,hx]
    have:lastHi (out++[y]) none=some y.2:=by simp[lastHi]
    rw[this]
    simp[aheadI,h1.1,h2]
   ·rw[inI_app,inI_one]
   ·have:x=z:=by simpa using hz
    rw[this];exact Int.le_refl _
  ·rw[if_neg h1]
   have h2:y.2=1099511627776∨x.1≤y.2+1:=by
    by_cases h:y.2=1099511627776
    ·exact .inl h
    ·refine .inr ?_
     have:=hw h
     have h3:¬IntKind.i64.wrap (y.2+1)<x.1:=fun h'=>h1 ⟨h,h'⟩
     omega
   by_cases h3:y.2<x.2
   ·rw[if_pos h3]
    refine⟨?_,fun t=>?_,fun z hz=>?_⟩
    ·rw[soundI_snoc,hs1]
     have g1:okI (y.1,x.2)=true:=(okI_iff _).2 ⟨y1,by show y.1≤x.2;omega,x3⟩
     have g2:aheadI (lastHi out none) (y.1,x.2)=aheadI (lastHi out none) y:=by
      unfold aheadI
      rfl
     rw[g1,g2,hs3]
     rfl
    ·rw[inI_app,inI_one,inI_app,inI_one]
     show _∨(y.1≤t∧t≤x.2)↔_
     constructor
     ·rintro(h|h)
      ·exact .inl (.inl h)
      ·by_cases ht:t≤y.2
       ·exact .inl (.inr ⟨h.1,ht⟩)
       ·exact .inr ⟨by omega,h.2⟩
     ·rintro((h|h)|h)
      ·exact .inl h
      ·exact .inr ⟨h.1,by omega⟩
      ·exact .inr ⟨by omega,h.2⟩
    ·have:(y.1,x.2)=z:=by simpa using hz
     rw[←this];exact hyx
   ·rw[if_neg h3]
    refine⟨?_,fun t=>?_,fun z hz=>?_⟩
    ·rw[soundI_snoc,hs1,hs2,hs3];rfl
    ·constructor
     ·exact .inl
     ·rintro(h|h)
      ·exact h
      ·rw[inI_app,inI_one]
       exact .inr ⟨by omega,by omega⟩
    ·have:y=z:=by simpa using hz
     rw[←this];exact hyx
theorem foldJ_law:∀(l out:List Ivl),soundI out none=true→(∀x∈l,okI x=true)→l.Pairwise (fun x y=>x.1≤y.1)→(∀y∈out.getLast?,∀x∈l,y.1≤x.1)→
  soundI (l.foldl joinStep out) none=true∧∀t,inI t (l.foldl joinStep out)↔inI t out∨inI t l
 |[],out,hs,_,_,_=>⟨hs,fun t=>by simp[inI]⟩
 |x::l,out,hs,hk,hp,ho=>by
  obtain⟨p1,p2⟩:=List.pairwise_cons.1 hp
  obtain⟨s1,s2,s3⟩:=joinStep_law out x hs (hk x (by simp)) (fun y hy=>ho y hy x (by simp))
  obtain⟨r1,r2⟩:=foldJ_law l (joinStep out x) s1 (fun y hy=>hk y (by simp[hy])) p2 (fun y hy z hz=>by
   have:=s3 y hy;have:=p1 z hz;omega)
  refine⟨r1,fun t=>?_⟩
  rw[List.foldl_cons,r2 t,s2 t,show(x::l)=[x]++l from rfl,inI_app t [x] l,inI_one]
  constructor
  ·rintro((h|h)|h)
   ·exact .inl h
   ·exact .inr (.inl h)
   ·exact .inr (.inr h)
  ·rintro(h|h|h)
   ·exact .inl (.inl h)
   ·exact .inl (.inr h)
   ·exact .inr h
theorem joinF_law (l:List Ivl) (hk:∀x∈l,okI x=true):soundI (joinF l) none=true∧(∀t,inI t (joinF l)↔inI t l)∧(joinF l).length≤l.length:=by
 have hp:=sortF_perm l
 obtain⟨h1,h2⟩:=foldJ_law (sortF l) [] rfl (fun x hx=>hk x (hp.mem_iff.1 hx)) (sortF_sorted l) (fun y hy=>by simp at hy)
 refine⟨h1,fun t=>?_,?_⟩
 ·unfold joinF
  rw[h2 t]
  unfold inI
  constructor
  ·rintro(⟨x,hx,_⟩|⟨x,hx,h⟩)
   ·simp at hx
   ·exact⟨x,hp.mem_iff.1 hx,h⟩
  ·rintro⟨x,hx,h⟩
   exact .inr ⟨x,hp.mem_iff.2 hx,h⟩
 ·have:=foldJ_len (sortF l) []
  rw[hp.length_eq]at this
  simpa [joinF]using this
end Go.Am
namespace Go.Am
open Go.Proofs
theorem soundI_parts {x:Ivl} {l:List Ivl} {pv:Option Int} (h:soundI (x::l) pv=true):(0≤x.1∧x.1≤x.2∧x.2≤1099511627776)∧(∀q,pv=some q→q+1<x.1)∧soundI l (some x.2)=true:=by
 rw[soundI_cons]at h
 simp only[Bool.and_eq_true]at h
 refine⟨(okI_iff x).1 h.1.1,fun q hq=>?_,h.2⟩
 have:=h.1.2
 rw[hq]at this
 simp only[aheadI,Bool.and_eq_true,decide_eq_true_eq]at this
 exact this.2
theorem soundI_above:∀{l:List Ivl} {q:Int},soundI l (some q)=true→∀t,inI t l→q+1<t
 |[],q,_,t,⟨x,hx,_⟩=>by simp at hx
 |y::l,q,h,t,⟨x,hx,h1,h2⟩=>by
  obtain⟨p1,p2,p3⟩:=soundI_parts h
  have:=p2 q rfl
  rcases List.mem_cons.1 hx with rfl|hx
  ·omega
  ·have:=soundI_above p3 t ⟨x,hx,h1,h2⟩
   omega
theorem inI_cons (t:Int) (x:Ivl) (l:List Ivl):inI t (x::l)↔(x.1≤t∧t≤x.2)∨inI t l:=by
 rw[show x::l=[x]++l from rfl,inI_app,inI_one]
theorem soundI_uniq:∀{l m:List Ivl} {p q:Option Int},soundI l p=true→soundI m q=true→(∀t,inI t l↔inI t m)→l=m
 |[],[],_,_,_,_,_=>rfl
 |[],y::m,_,_,_,h2,h=>by
  obtain⟨p1,_,_⟩:=soundI_parts h2
  obtain⟨x,hx,_⟩:=(h y.1).2 ((inI_cons _ _ _).2 (.inl ⟨Int.le_refl _,p1.2.1⟩))
  simp at hx
 |x::l,[],_,_,h1,_,h=>by
  obtain⟨p1,_,_⟩:=soundI_parts h1
  obtain⟨y,hy,_⟩:=(h x.1).1 ((inI_cons _ _ _).2 (.inl ⟨Int.le_refl _,p1.2.1⟩))
  simp at hy
 |x::l,y::m,_,_,h1,h2,h=>by
  obtain⟨⟨a1,a2,a3⟩,_,a5⟩:=soundI_parts h1
  obtain⟨⟨b1,b2,b3⟩,_,b5⟩:=soundI_parts h2
  have hl:=soundI_above a5
  have hm:=soundI_above b5
  have hx1:y.1≤x.1:=by
   rcases(inI_cons _ _ _).1 ((h x.1).1 ((inI_cons _ _ _).2 (.inl ⟨Int.le_refl _,a2⟩)))with g|g
   ·exact g.1
   ·have:=hm _ g;omega
  have hy1:x.1≤y.1:=by
   rcases(inI_cons _ _ _).1 ((h y.1).2 ((inI_cons _ _ _).2 (.inl ⟨Int.le_refl _,b2⟩)))with g|g
   ·exact g.1
   ·have:=hl _ g;omega
  have hx2:¬x.2<y.2:=fun hlt=>by
   rcases(inI_cons _ _ _).1 ((h (x.2+1)).2 ((inI_cons _ _ _).2 (.inl ⟨by omega,by omega⟩)))with g|g
   ·omega
   ·have:=hl _ g;omega
  have hy2:¬y.2<x.2:=fun hlt=>by
   rcases(inI_cons _ _ _).1 ((h (y.2+1)).1 ((inI_cons _ _ _).2 (.inl ⟨by omega,by omega⟩)))with g|g
   ·omega
   ·have:=hm _ g;omega
  have he:x=y:=Prod.ext (by omega) (by omega)
  subst he
  rw[soundI_uniq a5 b5 fun t=>?_]
  have ht:=h t
  rw[inI_cons,inI_cons]at ht
  constructor
  ·intro g
   rcases ht.1 (.inr g)with g'|g'
   ·have:=hl _ g;omega
   ·exact g'
  ·intro g
   rcases ht.2 (.inr g)with g'|g'
   ·have:=hm _ g;omega
   ·exact g'
def sizeI:List Ivl→Int
 |[]=>0
 |x::l=>(x.2-x.1+1)+sizeI l
theorem sizeI_app (l m:List Ivl):sizeI (l++m)=sizeI l+sizeI m:=by
 induction l with
 |nil=>simp[sizeI]
 |cons x l ih=>simp only[List.cons_append,sizeI,ih];omega
end Go.Am
namespace Go.Am
open Go.Proofs
theorem joinStep_size (out:List Ivl) (x:Ivl) (hx:okI x=true) (ho:∀y∈out.getLast?,y.2<x.1) (hk:∀y∈out.getLast?,0≤y.2):
  sizeI (joinStep out x)=sizeI out+sizeI [x]∧(∀y∈(joinStep out x).getLast?,y.2=x.2):=by
 obtain⟨x1,x2,x3⟩:=(okI_iff x).1 hx
 rcases List.eq_nil_or_concat out with rfl|⟨out,y,rfl⟩
 ·refine⟨by simp[joinStep,sizeI],fun y hy=>?_⟩
  have:x=y:=by simpa [joinStep]using hy
  rw[this]
 ·rw[List.concat_eq_append]at*
  have hy:=ho y (by simp)
  have hy0:=hk y (by simp)
  have hj:joinStep (out++[y]) x=if y.2≠1099511627776∧IntKind.i64.wrap (y.2+1)<x.1 then out++[y]++[x]else if y.2<x.2 then out++[(y.1,x.2)]else out++[y]:=by
   unfold joinStep
   simp
  have hw:IntKind.i64.wrap (y.2+1)=y.2+1:=wrap64 (by omega) (by omega)
  rw[hw]at hj
  by_cases h1:y.2+1<x.1
  ·rw[if_pos ⟨by omega,h1⟩]at hj
   rw[hj]
   refine⟨by rw[sizeI_app],fun z hz=>?_⟩
   have:x=z:=by simpa using hz
   rw[this]
  ·rw[if_neg (fun h=>h1 h.2),if_pos (by omega)]at hj
   rw[hj]
   refine⟨?_,fun z hz=>?_⟩
   ·rw[sizeI_app,sizeI_app]
    simp only[sizeI]
    omega
   ·have:(y.1,x.2)=z:=by simpa using hz
    rw[←this]
theorem foldJ_size:∀(l out:List Ivl),(∀x∈l,okI x=true)→l.Pairwise (fun x y=>x.2<y.1)→(∀y∈out.getLast?,∀x∈l,y.2<x.1)→(∀y∈out.getLast?,0≤y.2)→
  sizeI (l.foldl joinStep out)=sizeI out+sizeI l
 |[],out,_,_,_,_=>by simp[sizeI]
 |x::l,out,hk,hp,ho,h0=>by
  obtain⟨p1,p2⟩:=List.pairwise_cons.1 hp
  obtain⟨x1,x2,x3⟩:=(okI_iff x).1 (hk x (by simp))
  obtain⟨s1,s2⟩:=joinStep_size out x (hk x (by simp)) (fun y hy=>ho y hy x (by simp)) h0
  rw[List.foldl_cons,foldJ_size l (joinStep out x) (fun y hy=>hk y (by simp[hy])) p2 (fun y hy z hz=>by have:=s2 y hy;have:=p1 z hz;omega) (fun y hy=>by have:=s2 y hy;omega),s1]
  simp only[sizeI]
  omega
theorem joinF_size {l:List Ivl} (hk:∀x∈l,okI x=true) (hp:l.Pairwise (fun x y=>x.2<y.1)):sizeI (joinF l)=sizeI l:=by
 have hs:sortF l=l:=by
  refine sortF_id (List.Pairwise.imp_of_mem (fun{x y} hx hy hxy=>?_) hp)
  have:=((okI_iff x).1 (hk x hx)).2.1
  omega
 unfold joinF
 rw[hs,foldJ_size l [] hk hp (fun y hy=>by simp at hy) (fun y hy=>by simp at hy)]
 simp[sizeI]
theorem sizeI_bd:∀{l:List Ivl},(∀x∈l,okI x=true)→0≤sizeI l∧sizeI l≤l.length*1099511627777
 |[],_=>⟨Int.le_refl _,by simp[sizeI]⟩
 |x::l,h=>by
  obtain⟨g1,g2⟩:=sizeI_bd (l:=l) fun y hy=>h y (by simp[hy])
  obtain⟨x1,x2,x3⟩:=(okI_iff x).1 (h x (by simp))
  simp only[sizeI,List.length_cons]
  omega
theorem soundI_ok:∀{l:List Ivl} {q:Option Int},soundI l q=true→∀x∈l,okI x=true
 |[],_,_,x,hx=>by simp at hx
 |y::l,q,h,x,hx=>by
  obtain⟨p1,_,p3⟩:=soundI_parts h
  rcases List.mem_cons.1 hx with rfl|hx
  ·exact(okI_iff _).2 p1
  ·exact soundI_ok p3 x hx
theorem checkI_zero {l:List Ivl}:checkI l=0↔l.length≤1024∧soundI l none=true:=by
 unfold checkI
 constructor
 ·intro h
  split at h
  ·cases h
  ·rename_i h'
   refine⟨by omega,?_⟩
   cases hs:soundI l none with
   |true=>rfl
   |false=>exact absurd (.inr hs) h'
 ·rintro⟨h1,h2⟩
  rw[if_neg (by rintro(h|h);omega;rw[h2]at h;cases h)]
set_option maxRecDepth 8000 in
set_option maxHeartbeats 2000000 in
theorem longP_spec (l:List Ivl) (hc:checkI l=0):FSpec Tryz.prog 23 [.im (.sl 2 (l.map ivI))] [] (.tup [.int .i64 (sizeI l),.int .i64 0]) []:=by
 have h1:=checkI_spec l
 rw[hc]at h1
 obtain⟨c1,c2⟩:=checkI_zero.1 hc
 have hok:=soundI_ok c2
 refine FSpec.of_z (q:=[]) Tryz.func23 (by kernel_rfl) rfl Tryz.ntmps23 Tryz.results23 hP (by kernel_rfl) (by simp) (by first|rfl|simp) ?_
 simp -implicitDefEqProofs
 first|refine CallK.same (h1) rfl rfl ?_|refine CallQ.same (h1) rfl rfl ?_|refine CallQG.same _ (h1) rfl ?_|refine CallG.same _ (h1) rfl ?_|refine CallK.pv (h1) rfl rfl ?_
 simp -implicitDefEqProofs
 refine LoopK.os (fun k:Nat=>[(5,.int .i64 (sizeI (l.take k))),(13,.im (.sl 2 (l.map ivI))),(14,.int .i64 l.length),(15,.int .i64 k)])
  (fun k=>[]) (fun k=>k≤l.length) (fun k=>l.length-k) 0 [] (Nat.zero_le _) (by simp[sizeI]) ?_
 intro k hk
 by_cases hlt:k<l.length
 ·have e1:IntKind.i64.wrap (k+1)=(k+1:Nat):=wrap64 (by omega) (by omega)
  have ht:l.take (k+1)=l.take k++[l[k]]:=by rw[List.take_add_one,List.getElem?_eq_getElem hlt];rfl
  have ho:=(okI_iff l[k]).1 (hok _ (List.getElem_mem hlt))
  obtain⟨y,hy⟩:∃y,l[k]=y:=⟨_,rfl⟩
  rw[hy]at ht ho
  have hb:=sizeI_bd (l:=l.take k) fun x hx=>hok x (List.mem_of_mem_take hx)
  rw[List.length_take]at hb
  have hs:sizeI (l.take (k+1))=sizeI (l.take k)+(y.2-y.1+1):=by rw[ht,sizeI_app];simp[sizeI]
  generalize sizeI (l.take k)=S at*
  have e2:IntKind.i64.wrap (y.2-y.1)=y.2-y.1:=wrap64 (by omega) (by omega)
  have e3:IntKind.i64.wrap (y.2-y.1+1)=y.2-y.1+1:=wrap64 (by omega) (by omega)
  have e4:IntKind.i64.wrap (S+(y.2-y.1+1))=S+(y.2-y.1+1):=wrap64 (by omega) (by omega)
  simp -implicitDefEqProofs [hlt,hy]
  refine Again.os (k+1) [] hlt (by omega) ?_
  simp -implicitDefEqProofs [e1,e2,e3,e4,hs]
 ·have hkk:k=l.length:=by omega
  subst hkk
  simp -implicitDefEqProofs
  refine EndZ.ret [] (.tup [.int .i64 (sizeI l),.int .i64 0]) (by simp) (by simp)
theorem rows2_spec (l m:List Ivl):FSpec Tryz.prog 69 [.im (.sl 1 [[.sl 2 (l.map ivI)],[.sl 2 (m.map ivI)]])] [] (.int .i64 (if checkI l=0 then checkI m else checkI l)) []:=by
 have h1:=checkI_spec l
 have h2:=checkI_spec m
 generalize checkI l=C at*
 generalize checkI m=D at*
 refine FSpec.of_flat (q:=[]) Tryz.func69 (by kernel_rfl) rfl Tryz.ntmps69 Tryz.results69 hP (by kernel_rfl) (by simp) (by first|rfl|simp) ?_
 simp -implicitDefEqProofs
 refine LoopK.plain (fun k:Nat=>[(6,.im (.sl 1 [[.sl 2 (l.map ivI)],[.sl 2 (m.map ivI)]])),(7,.int .i64 2),(8,.int .i64 k)])
  (fun k=>k≤2∧(0<k→C=0)∧(1<k→D=0)) (fun k=>2-k) 0 ⟨Nat.zero_le _,fun h=>by omega,fun h=>by omega⟩ (by simp) ?_
 rintro k ⟨hk,g1,g2⟩
 have hc:k=0∨k=1∨k=2:=by omega
 rcases hc with rfl|rfl|rfl
 ·simp -implicitDefEqProofs
  first|refine CallK.same (h1) rfl rfl ?_|refine CallQ.same (h1) rfl rfl ?_|refine CallQG.same _ (h1) rfl ?_|refine CallG.same _ (h1) rfl ?_|refine CallK.pv (h1) rfl rfl ?_
  simp -implicitDefEqProofs
  refine⟨fun h=>by simp[h],fun h=>?_⟩
  refine Again.plain 1 ⟨by omega,fun _=>h,fun h=>by omega⟩ (by omega) (by simp;decide)
 ·have hC:=g1 (by omega)
  simp -implicitDefEqProofs
  first|refine CallK.same (h2) rfl rfl ?_|refine CallQ.same (h2) rfl rfl ?_|refine CallQG.same _ (h2) rfl ?_|refine CallG.same _ (h2) rfl ?_|refine CallK.pv (h2) rfl rfl ?_
  simp -implicitDefEqProofs
  refine⟨fun h=>by simp[hC],fun h=>?_⟩
  refine Again.plain 2 ⟨by omega,fun _=>hC,fun _=>h⟩ (by omega) (by simp;decide)
 ·have hC:=g1 (by omega)
  have hD:=g2 (by omega)
  simp -implicitDefEqProofs [hC,hD]
end Go.Am
namespace Go.Am
open Go.Proofs
def rowMV (l:List (List Ivl)):List (List IV):=l.map fun x=>[.sl 2 (x.map ivI)]
theorem growNV_spec (n:Int) (h0:0≤n) (h1:n≤10000):FSpec Tryz.prog 148 [.im (.sc (.slice none 0 0)),.int .i64 n] [] (.row 0) [.row 43 2 []]:=by
 refine FSpec.of_o (q:=[]) Tryz.func148 (by kernel_rfl) rfl Tryz.ntmps148 Tryz.results148 hP (by kernel_rfl) (by simp) (by first|rfl|simp) ?_
 have e0:IntKind.i64.wrap 0=0:=by decide
 have e1:IntKind.i64.wrap n=n:=wrap64 (by omega) (by omega)
 simp[e0,e1]
 refine⟨h0,fun _=>⟨fun hp=>⟨⟨hp,by unfold maxLen;omega,by omega⟩,.inr ⟨by omega,?_⟩⟩,fun hz=>?_⟩⟩
 ·refine EndO.ret [] [1] (.row 1) (by simp) (by simp)
 ·refine EndO.nilR (.sl 4 43 2) ?_
  simp
  refine EndO.ret [] [0] (.row 0) (by simp) (by simp)
theorem rowMV_get (l:List (List Ivl)) (k:Nat) (h:k<l.length):(rowMV l)[k]? =some [.sl 2 (l[k].map ivI)]:=by simp[rowMV,h]
@[simp] theorem rowMV_getElem (l:List (List Ivl)) (k:Nat) (h:k<(rowMV l).length):(rowMV l)[k]=[.sl 2 ((l[k]'(by simpa [rowMV]using h)).map ivI)]:=by simp[rowMV]
@[simp] theorem rowMV_length (l:List (List Ivl)):(rowMV l).length=l.length:=by simp[rowMV]
def sumMV (l:List (List Ivl)):Nat:=(l.map List.length).sum
theorem sumMV_snoc (l:List (List Ivl)) (x:List Ivl):sumMV (l++[x])=sumMV l+x.length:=by simp[sumMV]
theorem sumMV_take (l:List (List Ivl)) (k:Nat) (h:k<l.length):sumMV (l.take (k+1))=sumMV (l.take k)+l[k].length:=by
 rw[List.take_add_one,List.getElem?_eq_getElem h];exact sumMV_snoc _ _
theorem sumMV_le (l:List (List Ivl)):∀k,sumMV (l.take k)≤sumMV l:=fun k=>by
 have:sumMV l=sumMV (l.take k)+sumMV (l.drop k):=by
  unfold sumMV
  rw[←List.sum_append,←List.map_append,List.take_append_drop]
 omega
theorem flatMV_take (l:List (List Ivl)) (k:Nat) (h:k<l.length):(l.take (k+1)).flatten=(l.take k).flatten++l[k]:=by
 rw[List.take_add_one,List.getElem?_eq_getElem h,List.flatten_append];simp
theorem flatMV_len (l:List (List Ivl)):l.flatten.length=sumMV l:=by simp[sumMV,List.length_flatten]
set_option maxRecDepth 4000 in
theorem concatNV_spec (l:List (List Ivl)) (hs:sumMV l≤10000) (hlen:l.length≤1000):FSpec Tryz.prog 74 [.im (.sl 1 (rowMV l))] [] (.im (.sl 2 (l.flatten.map ivI))) []:=by
 refine FSpec.of_z (q:=[]) Tryz.func74 (by kernel_rfl) rfl Tryz.ntmps74 Tryz.results74 hP (by kernel_rfl) (by simp) (by first|rfl|simp) ?_
 simp
 refine LoopK.plain (fun k:Nat=>[(0,.im (.sl 1 (rowMV l))),(3,.int .i64 (sumMV (l.take k))),(9,.im (.sl 1 (rowMV l))),(10,.int .i64 l.length),(11,.int .i64 k)])
  (fun k=>k≤l.length) (fun k=>l.length-k) 0 (Nat.zero_le _) (by simp[sumMV]) ?_
 intro k hk
 by_cases hlt:k<l.length
 ·have e1:IntKind.i64.wrap (k+1)=(k+1:Nat):=wrap64 (by omega) (by omega)
  have hst:=sumMV_take l k hlt
  have hsl:=sumMV_le l (k+1)
  have e2:IntKind.i64.wrap ((sumMV (l.take k):Int)+l[k].length)=(sumMV (l.take (k+1)):Nat):=by rw[wrap64 (by omega) (by omega)];omega
  have hg:=rowMV_get l k hlt
  simp[hlt,hg,e1,e2]
  refine Again.plain (k+1) hlt (by omega) (by simp)
 ·have hkk:k=l.length:=by omega
  subst hkk
  simp
  refine CallK.outs [] (growNV_spec (sumMV l) (by omega) (by omega)) rfl ?_ ?_ ?_
  ·simp
  ·simp[AV.flat]
  simp
  refine LoopK.os (fun k:Nat=>[(6,.row 0),(25,.im (.sl 1 (rowMV l))),(26,.int .i64 l.length),(27,.int .i64 k)])
   (fun k=>[.row 43 2 ((l.take k).flatten.map ivI)]) (fun k=>k≤l.length) (fun k=>l.length-k) 0 [0] (Nat.zero_le _) (by simp) ?_
  intro k hk
  by_cases hlt:k<l.length
  ·have e1:IntKind.i64.wrap (k+1)=(k+1:Nat):=wrap64 (by omega) (by omega)
   have hg:=rowMV_get l k hlt
   have hft:=flatMV_take l k hlt
   have hst:=sumMV_take l k hlt
   have hsl:=sumMV_le l (k+1)
   have hfl:=flatMV_len (l.take k)
   simp[-List.length_flatten,-List.map_flatten,hlt,hg,e1]
   refine⟨⟨by omega,by unfold maxLen;omega⟩,?_⟩
   refine Again.os (k+1) [1] hlt (by omega) ?_
   simp[hft,-List.map_flatten]
  ·have hkk:k=l.length:=by omega
   subst hkk
   simp
   refine EndZ.ret [0] (.row 0) (by simp) (by simp[-List.map_flatten])
theorem orP_spec (l m:List Ivl) (h1:checkI l=0) (h2:checkI m=0) (hd:((l++m).map (·.1)).Nodup) (hl:(joinF (l++m)).length≤1024):
  FSpec Tryz.prog 24 [.im (.sl 2 (l.map ivI)),.im (.sl 2 (m.map ivI))] [] (.tup [.im (.sl 2 ((joinF (l++m)).map ivI)),.int .i64 0]) []:=by
 have g1:=rows2_spec l m
 rw[h1,if_pos rfl,h2]at g1
 obtain⟨c1,c2⟩:=checkI_zero.1 h1
 obtain⟨c3,c4⟩:=checkI_zero.1 h2
 have g2:=concatNV_spec [l,m] (by simp[sumMV];omega) (by simp)
 simp[rowMV]at g2
 rw[←List.map_append]at g2
 have hlen:(l++m).length≤2048:=by simp;omega
 have g3:=runsI_spec (l++m) (by omega)
 have g4:=joinI_spec (l++m) hd (by omega)
 have g5:=toldI_spec (joinF (l++m)) hl
 have g6:=timesI_spec
 generalize l++m=n at*
 generalize joinF n=J at*
 refine FSpec.of_z (q:=[]) Tryz.func24 (by kernel_rfl) rfl Tryz.ntmps24 Tryz.results24 hP (by kernel_rfl) (by simp) (by first|rfl|simp) ?_
 simp -implicitDefEqProofs
 refine CallK.fz [0] g1 rfl (by simp) rfl ?_
 simp -implicitDefEqProofs
 first|refine CallK.same (g6) rfl rfl ?_|refine CallQ.same (g6) rfl rfl ?_|refine CallQG.same _ (g6) rfl ?_|refine CallG.same _ (g6) rfl ?_|refine CallK.pv (g6) rfl rfl ?_
 simp -implicitDefEqProofs
 refine CallK.outs [1] g2 rfl (by simp) (by simp[AV.flat]) ?_
 simp -implicitDefEqProofs
 first|refine CallK.same (g3) rfl rfl ?_|refine CallQ.same (g3) rfl rfl ?_|refine CallQG.same _ (g3) rfl ?_|refine CallG.same _ (g3) rfl ?_|refine CallK.pv (g3) rfl rfl ?_
 simp -implicitDefEqProofs
 first|refine CallK.same (g4) rfl rfl ?_|refine CallQ.same (g4) rfl rfl ?_|refine CallQG.same _ (g4) rfl ?_|refine CallG.same _ (g4) rfl ?_|refine CallK.pv (g4) rfl rfl ?_
 simp -implicitDefEqProofs
 first|refine CallK.same (g5) rfl rfl ?_|refine CallQ.same (g5) rfl rfl ?_|refine CallQG.same _ (g5) rfl ?_|refine CallG.same _ (g5) rfl ?_|refine CallK.pv (g5) rfl rfl ?_
 simp -implicitDefEqProofs
 refine EndZ.ret [] (.tup [.im (.sl 2 (J.map ivI)),.int .i64 0]) (by simp) (by simp)
end Go.Am
namespace Go.Am
open Go.Proofs
theorem sound_ends {l:List Ivl} {q:Option Int} (h:soundI l q=true):l.Pairwise (fun x y=>x.2<y.1)∧(l.map (·.1)).Nodup:=by
 have hp:l.Pairwise (fun x y=>x.2<y.1):=by
  induction l generalizing q with
  |nil=>exact List.Pairwise.nil
  |cons x l ih=>
   obtain⟨p1,p2,p3⟩:=soundI_parts h
   refine List.pairwise_cons.2 ⟨fun y hy=>?_,ih p3⟩
   have hy1:=(okI_iff y).1 (soundI_ok p3 y hy)
   have:=soundI_above p3 y.1 ⟨y,hy,Int.le_refl _,hy1.2.1⟩
   omega
 refine⟨hp,?_⟩
 rw[List.nodup_iff_pairwise_ne,List.pairwise_map]
 refine List.Pairwise.imp_of_mem (fun{x y} hx hy hxy=>?_) hp
 have:=(okI_iff x).1 (soundI_ok h x hx)
 omega
theorem kindL_ok {L:List (Pc Verd)} {a e:Int} (h:∀x∈L,a≤x.a∧x.a≤x.b∧x.b<e) (h0:0≤a) (he:e≤1099511627777) (k:Int):∀x∈kindL k L,okI x=true:=by
 intro x hx
 simp only[kindL,List.mem_map,List.mem_filter]at hx
 obtain⟨y,⟨hy,_⟩,rfl⟩:=hx
 have:=h y hy
 rw[okI_iff]
 exact⟨by show 0≤y.a;omega,this.2.1,by show y.b≤_;omega⟩
theorem kindL_in {L:List (Pc Verd)} (k t:Int):inI t (kindL k L)↔∃y∈L,y.v.kind=k∧y.a≤t∧t≤y.b:=by
 unfold inI kindL
 constructor
 ·rintro⟨x,hx,h1,h2⟩
  simp only[List.mem_map,List.mem_filter,beq_iff_eq]at hx
  obtain⟨y,⟨hy,hk⟩,rfl⟩:=hx
  exact⟨y,hy,hk,h1,h2⟩
 ·rintro⟨y,hy,hk,h1,h2⟩
  exact⟨(y.a,y.b),by simp only[List.mem_map,List.mem_filter,beq_iff_eq];exact⟨y,⟨hy,hk⟩,rfl⟩,h1,h2⟩
theorem up_one_at {T:Type} {L:List (Pc T)} (h:L.Pairwise (fun x y=>x.b<y.a)) {x y:Pc T} (hx:x∈L) (hy:y∈L) {t:Int} (x1:x.a≤t) (x2:t≤x.b) (y1:y.a≤t) (y2:t≤y.b):x=y:=by
 induction L with
 |nil=>simp at hx
 |cons z L ih=>
  obtain⟨p1,p2⟩:=List.pairwise_cons.1 h
  rcases List.mem_cons.1 hx with rfl|hx'<;>rcases List.mem_cons.1 hy with rfl|hy'
  ·rfl
  ·have:=p1 y hy';omega
  ·have:=p1 x hx';omega
  ·exact ih p2 hx' hy'
def kindsL (n:Nat) (L:List (Pc Verd)):List (Pc Verd):=L.filter fun x=>decide (1≤x.v.kind)&&decide (x.v.kind≤n)
def tileSz:List (Pc Verd)→Int
 |[]=>0
 |x::l=>(x.b-x.a+1)+tileSz l
theorem tile_sz:∀{l:List (Pc Verd)} {n:Int} {pv:Option Verd} {e:Int},Tile n pv l e→tileSz l=e-n
 |[],n,pv,e,h=>by have:n=e:=h;simp[tileSz,this]
 |x::l,n,pv,e,h=>by
  obtain⟨h1,h2,h3,h4⟩:=h
  have:=tile_sz h4
  simp only[tileSz]
  omega
theorem kinds_sz (n:Nat):∀L:List (Pc Verd),tileSz (kindsL (n+1) L)=tileSz (kindsL n L)+sizeI (kindL (n+1) L)
 |[]=>by simp[kindsL,tileSz,kindL,sizeI]
 |x::L=>by
  have ih:=kinds_sz n L
  unfold kindsL kindL at*
  by_cases h1:1≤x.v.kind∧x.v.kind≤n
  ·have a1:(decide (1≤x.v.kind)&&decide (x.v.kind≤((n+1:Nat):Int)))=true:=by simp;omega
   have a2:(decide (1≤x.v.kind)&&decide (x.v.kind≤(n:Int)))=true:=by simp;omega
   have a3:(x.v.kind==(n:Int)+1)=false:=by simp;omega
   rw[List.filter_cons_of_pos (by simpa using a1),List.filter_cons_of_pos (by simpa using a2),List.filter_cons_of_neg (by simpa using a3)]
   simp only[tileSz]
   omega
  ·by_cases h2:x.v.kind=(n:Int)+1
   ·have a1:(decide (1≤x.v.kind)&&decide (x.v.kind≤((n+1:Nat):Int)))=true:=by simp;omega
    have a2:(decide (1≤x.v.kind)&&decide (x.v.kind≤(n:Int)))=false:=by simp;omega
    rw[List.filter_cons_of_pos (by simpa using a1),List.filter_cons_of_neg (by rw[a2];simp),List.filter_cons_of_pos (by simp[h2])]
    simp only[tileSz,List.map_cons,sizeI]
    omega
   ·have a1:(decide (1≤x.v.kind)&&decide (x.v.kind≤((n+1:Nat):Int)))=false:=by simp;omega
    have a2:(decide (1≤x.v.kind)&&decide (x.v.kind≤(n:Int)))=false:=by simp;omega
    rw[List.filter_cons_of_neg (by rw[a1];simp),List.filter_cons_of_neg (by rw[a2];simp),List.filter_cons_of_neg (by simpa using h2)]
    exact ih
end Go.Am
namespace Go.Am
open Go.Proofs
def evJ (L:List (Pc Verd)):Nat→List Ivl
 |0=>[]
 |n+1=>joinF (evJ L n++joinF (kindL (n+1) L))
theorem kindsL_len (n:Nat):∀L:List (Pc Verd),(kindsL (n+1) L).length=(kindsL n L).length+(kindL (n+1) L).length
 |[]=>by simp[kindsL,kindL]
 |x::L=>by
  have ih:=kindsL_len n L
  unfold kindsL kindL at*
  rw[List.length_map]at*
  by_cases h1:1≤x.v.kind∧x.v.kind≤n
  ·have a1:(decide (1≤x.v.kind)&&decide (x.v.kind≤((n+1:Nat):Int)))=true:=by simp;omega
   have a2:(decide (1≤x.v.kind)&&decide (x.v.kind≤(n:Int)))=true:=by simp;omega
   have a3:(x.v.kind==(n:Int)+1)=false:=by simp;omega
   rw[List.filter_cons_of_pos (by simpa using a1),List.filter_cons_of_pos (by simpa using a2),List.filter_cons_of_neg (by simpa using a3)]
   simp only[List.length_cons]
   omega
  ·by_cases h2:x.v.kind=(n:Int)+1
   ·have a1:(decide (1≤x.v.kind)&&decide (x.v.kind≤((n+1:Nat):Int)))=true:=by simp;omega
    have a2:(decide (1≤x.v.kind)&&decide (x.v.kind≤(n:Int)))=false:=by simp;omega
    rw[List.filter_cons_of_pos (by simpa using a1),List.filter_cons_of_neg (by rw[a2];simp),List.filter_cons_of_pos (by simp[h2])]
    simp only[List.length_cons]
    omega
   ·have a1:(decide (1≤x.v.kind)&&decide (x.v.kind≤((n+1:Nat):Int)))=false:=by simp;omega
    have a2:(decide (1≤x.v.kind)&&decide (x.v.kind≤(n:Int)))=false:=by simp;omega
    rw[List.filter_cons_of_neg (by rw[a1];simp),List.filter_cons_of_neg (by rw[a2];simp),List.filter_cons_of_neg (by simpa using h2)]
    exact ih
theorem ev_law {L:List (Pc Verd)} {a e:Int} (hu:(∀x∈L,a≤x.a∧x.a≤x.b∧x.b<e)∧L.Pairwise (fun x y=>x.b<y.a)) (h0:0≤a) (he:e≤1099511627777):∀n:Nat,
  soundI (evJ L n) none=true∧(∀t,inI t (evJ L n)↔∃y∈L,(1≤y.v.kind∧y.v.kind≤n)∧y.a≤t∧t≤y.b)∧(evJ L n).length≤(kindsL n L).length∧((evJ L n++joinF (kindL (n+1) L)).map (·.1)).Nodup
 |0=>by
  obtain⟨j1,j2,j3⟩:=joinF_law (kindL ((0:Nat)+1) L) (kindL_ok hu.1 h0 he _)
  refine⟨rfl,fun t=>?_,by simp[evJ],?_⟩
  ·constructor
   ·rintro⟨x,hx,_⟩;simp[evJ]at hx
   ·rintro⟨y,_,h,_⟩;omega
  ·simp only[evJ,List.nil_append]
   exact(sound_ends j1).2
 |n+1=>by
  obtain⟨i1,i2,i3,i4⟩:=ev_law hu h0 he n
  obtain⟨j1,j2,j3⟩:=joinF_law (kindL ((n:Int)+1) L) (kindL_ok hu.1 h0 he _)
  have hok:∀x∈evJ L n++joinF (kindL ((n:Int)+1) L),okI x=true:=fun x hx=>by
   rcases List.mem_append.1 hx with hx|hx
   ·exact soundI_ok i1 x hx
   ·exact soundI_ok j1 x hx
  obtain⟨k1,k2,k3⟩:=joinF_law _ hok
  have hm:∀t,inI t (evJ L (n+1))↔∃y∈L,(1≤y.v.kind∧y.v.kind≤((n+1:Nat):Int))∧y.a≤t∧t≤y.b:=fun t=>by
   show inI t (joinF _)↔_
   rw[k2 t,inI_app,i2 t,j2 t,kindL_in]
   constructor
   ·rintro(⟨y,hy,h1,h2⟩|⟨y,hy,h1,h2⟩)
    ·exact⟨y,hy,⟨h1.1,by have:=h1.2;omega⟩,h2⟩
    ·exact⟨y,hy,⟨by omega,by omega⟩,h2⟩
   ·rintro⟨y,hy,h1,h2⟩
    by_cases h:y.v.kind≤n
    ·exact .inl ⟨y,hy,⟨h1.1,h⟩,h2⟩
    ·exact .inr ⟨y,hy,by omega,h2⟩
  refine⟨k1,hm,?_,?_⟩
  ·have:=kindsL_len n L
   rw[List.length_append]at k3
   show(joinF _).length≤_
   omega
  ·obtain⟨q1,q2,q3⟩:=joinF_law (kindL (((n+1:Nat):Int)+1) L) (kindL_ok hu.1 h0 he _)
   rw[List.map_append,List.nodup_append]
   refine⟨(sound_ends k1).2,(sound_ends q1).2,fun u hu' v hv huv=>?_⟩
   obtain⟨x,hx,rfl⟩:=List.mem_map.1 hu'
   obtain⟨z,hz,rfl⟩:=List.mem_map.1 hv
   have x1:=(okI_iff x).1 (soundI_ok k1 x hx)
   have z1:=(okI_iff z).1 (soundI_ok q1 z hz)
   obtain⟨y,hy,g1,g2,g3⟩:=(hm x.1).1 ⟨x,hx,Int.le_refl _,x1.2.1⟩
   obtain⟨y',hy',g1',g2',g3'⟩:=(kindL_in _ z.1).1 ((q2 z.1).1 ⟨z,hz,Int.le_refl _,z1.2.1⟩)
   have:y=y':=up_one_at hu.2 hy hy' (t:=x.1) g2 g3 (by omega) (by omega)
   subst this
   have:=g1.2
   omega
end Go.Am
namespace Go.Am
open Go.Proofs
def evA (L:List (Pc Verd)):Nat→AV
 |0=>.im (.sc (.slice none 0 0))
 |k+1=>.im (.sl 2 ((evJ L (k+1)).map ivI))
def lgA (L:List (Pc Verd)) (k:Nat):Int:=tileSz (kindsL k L)
theorem lgA_bd (n:Nat) {L:List (Pc Verd)} {a b:Int} (hu:(∀x∈L,a≤x.a∧x.a≤x.b∧x.b<b+1)∧L.Pairwise (fun x y=>x.b<y.a)) (h0:0≤a) (hb:b≤1099511627776):0≤lgA L n∧lgA L n≤L.length*1099511627777:=by
 have key:∀M:List (Pc Verd),(∀x∈M,a≤x.a∧x.a≤x.b∧x.b<b+1)→0≤tileSz M∧tileSz M≤M.length*1099511627777:=by
  intro M
  induction M with
  |nil=>intro _;simp[tileSz]
  |cons x M ih=>
   intro h
   obtain⟨i1,i2⟩:=ih fun y hy=>h y (by simp[hy])
   have:=h x (by simp)
   simp only[tileSz,List.length_cons]
   omega
 obtain⟨k1,k2⟩:=key (kindsL n L) fun x hx=>hu.1 x ((List.mem_filter.1 hx).1)
 have:(kindsL n L).length≤L.length:=List.length_filter_le _ _
 unfold lgA
 omega
set_option maxRecDepth 8000 in
set_option maxHeartbeats 8000000 in
theorem windowEver_spec (p:Past) (r:Int) (six:Bool) (x:Addr4) (a b:Int) (hw:p.wf) (hx:x.wf):
  FSpec Tryz.prog 5 [p.av,.int .i64 r,.bool six,x.av,.agg [.int .i64 a,.int .i64 b]] [kindsO] (.bool true) [kindsO]:=by
 have h1:=verdictsP_spec p r six x a b hw hx
 have h2:=fun kd=>everP_spec p r six x a b kd hw hx
 have h3:=lives26_spec
 refine FSpec.of_o (q:=[]) Tryz.func5 (by kernel_rfl) rfl Tryz.ntmps5 Tryz.results5 hP (by kernel_rfl) (by simp) (by first|rfl|simp) ?_
 simp -implicitDefEqProofs [kindsO]
 refine CallO.mk [] [0] h3 (by simp) rfl (by simp[kindsO]) (by simp[kindsO]) (by simp[kindsO]) ?_
 simp -implicitDefEqProofs [kindsO]
 refine CallO.mk [] [0] h1 (by simp) rfl (by simp[kindsO]) (by simp[kindsO]) (by simp[kindsO]) ?_
 simp -implicitDefEqProofs [kindsO]
 refine⟨fun h=>?_,fun h=>?_⟩
 ·refine EndO.ret [] [0] (.bool true) (by simp) ?_
  simp -implicitDefEqProofs [kindsO]
 obtain⟨hup,h0,hb,hl⟩:=verdL_up h
 have hev:=ev_law hup h0 (by omega)
 rw[h]at h2
 unfold everL at h2
 have ha:askV p r six x a b=0:=by
  unfold verdE at h
  split at h
  ·assumption
  ·exact h
 have hvl:verdL p r six x a b=lineP p (fun n=>(wayN n six x r).2) a b:=by unfold verdL;rw[if_pos h]
 obtain⟨hok,hr,ho,q3,q4,q5⟩:=askV_zero ha
 have hab:a≤b:=by simp only[oneI,Bool.and_eq_true,decide_eq_true_eq]at ho;exact ho.1.2
 have htl:Tile a none (verdL p r six x a b) (b+1):=by rw[hvl];exact lineP_tile p _ hab
 have hrv:∀y∈verdL p r six x a b,rightV y.v=true:=by rw[hvl];exact vd_right ha
 clear hvl
 generalize verdL p r six x a b=L at*
 have hkd:∀y∈L,1≤y.v.kind∧y.v.kind≤4:=fun y hy=>by
  have:=hrv y hy
  simp only[rightV,Bool.and_eq_true,decide_eq_true_eq]at this
  omega
 have hL4:kindsL 4 L=L:=by
  unfold kindsL
  rw[List.filter_eq_self]
  intro y hy
  have:=hkd y hy
  simp
  omega
 have hlg:lgA L 4=b-a+1:=by unfold lgA;rw[hL4,tile_sz htl];omega
 have hK0:kindL 0 L=[]:=by
  unfold kindL
  rw[List.map_eq_nil_iff,List.filter_eq_nil_iff]
  intro y hy
  have:=hkd y hy
  simp
  omega
 have hE4:evJ L 4=[(a,b)]:=by
  refine soundI_uniq (hev 4).1 (q:=none) ?_ fun t=>?_
  ·rw[soundI_cons,(okI_iff (a,b)).2 ⟨h0,hab,hb⟩];rfl
  ·rw[(hev 4).2.1 t,inI_one]
   constructor
   ·rintro⟨y,hy,_,g2,g3⟩
    have:=hup.1 y hy
    exact⟨by show a≤t;omega,by show t≤b;omega⟩
   ·rintro⟨g1,g2⟩
    have hc:=Tile.count t htl
    rw[if_pos ⟨g1,by have:t≤b:=g2;omega⟩]at hc
    have hp:0<L.countP (fun x=>decide (x.a≤t)&&decide (t≤x.b)):=by omega
    obtain⟨y,hy,hyy⟩:=List.countP_pos_iff.1 hp
    simp only[Bool.and_eq_true,decide_eq_true_eq]at hyy
    exact⟨y,hy,hkd y hy,hyy⟩
 have hs:=same19_spec [(a,b)] (by simp)
 simp at hs
 have g0:=h2 0
 rw[hK0,show joinF []=[]by simp[joinF,sortF]]at g0
 have hk0:kindsL 0 L=[]:=by
  unfold kindsL
  rw[List.filter_eq_nil_iff]
  intro y _
  simp
  omega
 refine LoopK.os (fun k:Nat=>[(1,.int .i64 r),(2,.bool six),(5,.ptr 1 0),(8,.ptr 2 0),(9,.ptr 3 0),(13,evA L k),(14,.int .i64 (lgA L k)),(38,.row 4),(39,.int .i64 4),(40,.int .i64 k)])
  (fun k=>[kindsO,pastO p,.box 31 [.int .u64 x.hi,.int .u64 x.lo],.box 43 [.int .i64 a,.int .i64 b],.row 33 1 [[.sc (.int .u8 1)],[.sc (.int .u8 2)],[.sc (.int .u8 3)],[.sc (.int .u8 4)]]])
  (fun k=>k≤4) (fun k=>4-k) 0 [0,1,2,3,4] (Nat.zero_le _) (by simp[kindsO,evA,lgA,hk0,tileSz]) ?_
 intro k hk
 by_cases hlt:k<4
 ·have e1:IntKind.i64.wrap (k+1)=(k+1:Nat):=wrap64 (by omega) (by omega)
  obtain⟨v1,v2,v3,v4⟩:=hev k
  obtain⟨w1,w2,w3,w4⟩:=hev (k+1)
  obtain⟨j1,j2,j3⟩:=joinF_law (kindL ((k:Int)+1) L) (kindL_ok hup.1 h0 (by omega) _)
  have n1:=kindL_len ((k:Int)+1) L
  have n2:∀n,(kindsL n L).length≤1024:=fun n=>by have:=List.length_filter_le (fun x:Pc Verd=>decide (1≤x.v.kind)&&decide (x.v.kind≤(n:Int))) L;unfold kindsL;omega
  have n3:=n2 k
  have n4:=n2 (k+1)
  have c1:checkI (joinF (kindL ((k:Int)+1) L))=0:=checkI_zero.2 ⟨by omega,j1⟩
  have c2:checkI (evJ L k)=0:=checkI_zero.2 ⟨by omega,v1⟩
  have g1:=h2 ((k:Int)+1)
  have g2:=longP_spec _ c1
  have g3:=orP_spec _ _ c2 c1 v4 (by show(evJ L (k+1)).length≤1024;omega)
  have sz:lgA L (k+1)=lgA L k+sizeI (joinF (kindL ((k:Int)+1) L)):=by
   unfold lgA
   rw[kinds_sz,joinF_size (kindL_ok hup.1 h0 (by omega) _) (kindL_up _ hup).2]
  change FSpec _ _ _ _ (.tup [.im (.sl 2 ((evJ L (k+1)).map ivI)),_]) _ at g3
  generalize joinF (kindL ((k:Int)+1) L)=T at*
  have hc:k=0∨k=1∨k=2∨k=3:=by omega
  rcases hc with rfl|rfl|rfl|rfl
  ·have ez:IntKind.i64.wrap (lgA L 0+sizeI T)=lgA L 1:=by
    have hbd:=lgA_bd 1 hup h0 hb
    have sz':lgA L 1=lgA L 0+sizeI T:=sz
    rw[←sz']
    exact wrap64 (by omega) (by omega)
   simp[kindsO]at g1 g2 g3
   simp -implicitDefEqProofs [kindsO,evA]
   refine CallO.mk [] [0] g1 (by simp) rfl (by simp[kindsO]) (by simp[kindsO]) (by simp[kindsO]) ?_
   simp -implicitDefEqProofs [kindsO]
   first|refine CallK.same (g2) rfl rfl ?_|refine CallQ.same (g2) rfl rfl ?_|refine CallQG.same _ (g2) rfl ?_|refine CallG.same _ (g2) rfl ?_|refine CallK.pv (g2) rfl rfl ?_
   simp -implicitDefEqProofs [kindsO]
   refine CallK.outs [] g3 rfl (by simp[evJ]) (by simp[AV.flat]) ?_
   simp -implicitDefEqProofs [kindsO,ez]
   refine Again.os 1 [0,1,2,3,4] (by omega) (by omega) ?_
   simp -implicitDefEqProofs [kindsO,evA,show IntKind.i64.wrap 1=1 by decide]
  ·have ez:IntKind.i64.wrap (lgA L 1+sizeI T)=lgA L 2:=by
    have hbd:=lgA_bd 2 hup h0 hb
    have sz':lgA L 2=lgA L 1+sizeI T:=sz
    rw[←sz']
    exact wrap64 (by omega) (by omega)
   simp[kindsO]at g1 g2 g3
   simp -implicitDefEqProofs [kindsO,evA]
   refine CallO.mk [] [0] g1 (by simp) rfl (by simp[kindsO]) (by simp[kindsO]) (by simp[kindsO]) ?_
   simp -implicitDefEqProofs [kindsO]
   first|refine CallK.same (g2) rfl rfl ?_|refine CallQ.same (g2) rfl rfl ?_|refine CallQG.same _ (g2) rfl ?_|refine CallG.same _ (g2) rfl ?_|refine CallK.pv (g2) rfl rfl ?_
   simp -implicitDefEqProofs [kindsO]
   refine CallK.outs [] g3 rfl (by simp[evJ]) (by simp[AV.flat]) ?_
   simp -implicitDefEqProofs [kindsO,ez]
   refine Again.os 2 [0,1,2,3,4] (by omega) (by omega) ?_
   simp -implicitDefEqProofs [kindsO,evA,show IntKind.i64.wrap 2=2 by decide]
  ·have ez:IntKind.i64.wrap (lgA L 2+sizeI T)=lgA L 3:=by
    have hbd:=lgA_bd 3 hup h0 hb
    have sz':lgA L 3=lgA L 2+sizeI T:=sz
    rw[←sz']
    exact wrap64 (by omega) (by omega)
   simp[kindsO]at g1 g2 g3
   simp -implicitDefEqProofs [kindsO,evA]
   refine CallO.mk [] [0] g1 (by simp) rfl (by simp[kindsO]) (by simp[kindsO]) (by simp[kindsO]) ?_
   simp -implicitDefEqProofs [kindsO]
   first|refine CallK.same (g2) rfl rfl ?_|refine CallQ.same (g2) rfl rfl ?_|refine CallQG.same _ (g2) rfl ?_|refine CallG.same _ (g2) rfl ?_|refine CallK.pv (g2) rfl rfl ?_
   simp -implicitDefEqProofs [kindsO]
   refine CallK.outs [] g3 rfl (by simp[evJ]) (by simp[AV.flat]) ?_
   simp -implicitDefEqProofs [kindsO,ez]
   refine Again.os 3 [0,1,2,3,4] (by omega) (by omega) ?_
   simp -implicitDefEqProofs [kindsO,evA,show IntKind.i64.wrap 3=3 by decide]
  ·have ez:IntKind.i64.wrap (lgA L 3+sizeI T)=lgA L 4:=by
    have hbd:=lgA_bd 4 hup h0 hb
    have sz':lgA L 4=lgA L 3+sizeI T:=sz
    rw[←sz']
    exact wrap64 (by omega) (by omega)
   simp[kindsO]at g1 g2 g3
   simp -implicitDefEqProofs [kindsO,evA]
   refine CallO.mk [] [0] g1 (by simp) rfl (by simp[kindsO]) (by simp[kindsO]) (by simp[kindsO]) ?_
   simp -implicitDefEqProofs [kindsO]
   first|refine CallK.same (g2) rfl rfl ?_|refine CallQ.same (g2) rfl rfl ?_|refine CallQG.same _ (g2) rfl ?_|refine CallG.same _ (g2) rfl ?_|refine CallK.pv (g2) rfl rfl ?_
   simp -implicitDefEqProofs [kindsO]
   refine CallK.outs [] g3 rfl (by simp[evJ]) (by simp[AV.flat]) ?_
   simp -implicitDefEqProofs [kindsO,ez]
   refine Again.os 4 [0,1,2,3,4] (by omega) (by omega) ?_
   simp -implicitDefEqProofs [kindsO,evA,show IntKind.i64.wrap 4=4 by decide]
 ·have hkk:k=4:=by omega
  subst hkk
  simp -implicitDefEqProofs [kindsO,evA]
  simp[kindsO]at g0
  refine CallO.mk [] [0] g0 (by simp) rfl (by simp[kindsO]) (by simp[kindsO]) (by simp[kindsO]) ?_
  simp -implicitDefEqProofs [kindsO,hE4,hlg]
  have z1:IntKind.i64.wrap (b-a)=b-a:=wrap64 (by omega) (by omega)
  have z2:IntKind.i64.wrap (b-a+1)=b-a+1:=wrap64 (by omega) (by omega)
  refine CallG.on ?_
  refine CallK.fz [5] hs rfl (by simp) rfl ?_
  simp -implicitDefEqProofs [kindsO,z1,z2]
  refine EndO.ret [] [0] (.bool true) (by simp) ?_
  simp -implicitDefEqProofs [kindsO]
end Go.Am
namespace Go.Am
open Go.Proofs
def inB (l:List Ivl) (t:Int):Bool:=l.any fun x=>decide (x.1≤t)&&decide (t≤x.2)
theorem inB_iff (l:List Ivl) (t:Int):inB l t=true↔inI t l:=by
 unfold inB inI
 simp
def stepR (s:List Ivl×Option Int) (t:Int) (is:Bool):List Ivl×Option Int:=
 match s.2 with
 |none=>if is then(s.1,some t)else s
 |some a=>if is then s else(s.1++[(a,t-1)],none)
def rowR (g:Int→Bool) (ts:List Int) (s:List Ivl×Option Int):List Ivl×Option Int:=ts.foldl (fun s t=>stepR s t (g t)) s
def outR (s:List Ivl×Option Int):List Ivl:=match s.2 with
 |none=>s.1
 |some a=>s.1++[(a,0)]
theorem soundI_top:∀{l:List Ivl} {pv:Option Int} {u:Int},soundI l pv=true→inI u l→∃y∈l.getLast?,u≤y.2
 |[],_,_,_,⟨x,hx,_⟩=>by simp at hx
 |[x],_,u,_,h=>by
  rw[inI_one]at h
  exact⟨x,by simp,h.2⟩
 |x::z::l,pv,u,hs,h=>by
  obtain⟨⟨a1,a2,a3⟩,_,a5⟩:=soundI_parts hs
  rw[List.getLast?_cons_cons]
  rcases(inI_cons _ _ _).1 h with h|h
  ·have hz:inI z.1 (z::l):=(inI_cons _ _ _).2 (.inl ⟨Int.le_refl _,(soundI_parts a5).1.2.1⟩)
   obtain⟨y,hy,hyy⟩:=soundI_top a5 hz
   have:=soundI_above a5 z.1 hz
   exact⟨y,hy,by omega⟩
  ·exact soundI_top a5 h
structure RowInv (g:Int→Bool) (m:Int) (s:List Ivl×Option Int):Prop where
 snd:soundI s.1 none=true
 top:∀y∈s.1.getLast?,y.2<m∧∀a,s.2=some a→y.2+1<a
 op:∀a,s.2=some a→0≤a∧a≤m
 now:s.2.isSome=g m
 mem:∀u,u≤m→((inI u s.1∨∃a,s.2=some a∧a≤u)↔g u=true)
theorem RowInv.below {g:Int→Bool} {m:Int} {s:List Ivl×Option Int} (h:RowInv g m s) {u:Int} (hu:inI u s.1):u<m:=by
 obtain⟨y,hy,hyy⟩:=soundI_top h.snd hu
 have:=(h.top y hy).1
 omega
theorem RowInv.step {g:Int→Bool} {m t:Int} {s:List Ivl×Option Int} (h:RowInv g m s) (hmt:m<t) (hc:∀u,m≤u→u<t→g u=g m) (h0:0≤t) (h1:t≤1099511627777):RowInv g t (stepR s t (g t)):=by
 have hb:=fun u=>h.below (u:=u)
 obtain⟨C,o⟩:=s
 obtain⟨a1,a2,a3,a4,a5⟩:=h
 simp only at a1 a2 a3 a4 a5 hb
 cases o with
 |none=>
  have hm:g m=false:=by rw[←a4];rfl
  cases hg:g t with
  |true=>
   refine⟨a1,fun y hy=>?_,fun a ha=>?_,by simp[stepR,hg],fun u hu=>?_⟩
   ·have:=(a2 y hy).1
    exact⟨by omega,fun a ha=>by cases ha;omega⟩
   ·cases ha;exact⟨h0,Int.le_refl _⟩
   ·show(inI u C∨∃a,some t=some a∧a≤u)↔_
    by_cases h2:u≤m
    ·rw[←a5 u h2]
     constructor
     ·rintro(h|⟨a,ha,h⟩)
      ·exact .inl h
      ·cases ha;omega
     ·rintro(h|⟨a,ha,h⟩)
      ·exact .inl h
      ·cases ha
    ·by_cases h3:u=t
     ·subst h3;rw[hg];exact⟨fun _=>rfl,fun _=>.inr ⟨_,rfl,Int.le_refl _⟩⟩
     ·rw[hc u (by omega) (by omega),hm]
      refine⟨fun h=>?_,fun h=>by cases h⟩
      rcases h with h|⟨a,ha,h⟩
      ·have:=hb u h;omega
      ·cases ha;omega
  |false=>
   refine⟨a1,fun y hy=>?_,fun a ha=>(by cases ha),by simp[stepR,hg],fun u hu=>?_⟩
   ·have:=(a2 y hy).1
    exact⟨by omega,fun a ha=>by cases ha⟩
   ·show(inI u C∨∃a,none=some a∧a≤u)↔_
    by_cases h2:u≤m
    ·exact a5 u h2
    ·have hgu:g u=false:=by
      by_cases h3:u=t
      ·rw[h3,hg]
      ·rw[hc u (by omega) (by omega),hm]
     rw[hgu]
     refine⟨fun h=>?_,fun h=>by cases h⟩
     rcases h with h|⟨a,ha,h⟩
     ·have:=hb u h;omega
     ·cases ha
 |some b=>
  have hm:g m=true:=by rw[←a4];rfl
  obtain⟨b1,b2⟩:=a3 b rfl
  cases hg:g t with
  |true=>
   refine⟨a1,fun y hy=>?_,fun a ha=>?_,by simp[stepR,hg],fun u hu=>?_⟩
   ·have:=a2 y hy
    exact⟨by omega,this.2⟩
   ·cases ha;exact⟨b1,by omega⟩
   ·show(inI u C∨∃a,some b=some a∧a≤u)↔_
    by_cases h2:u≤m
    ·exact a5 u h2
    ·have hgu:g u=true:=by
      by_cases h3:u=t
      ·rw[h3,hg]
      ·rw[hc u (by omega) (by omega),hm]
     rw[hgu]
     exact⟨fun _=>rfl,fun _=>.inr ⟨b,rfl,by omega⟩⟩
  |false=>
   have hs:stepR (C,some b) t false=(C++[(b,t-1)],none):=rfl
   rw[hs]
   refine⟨?_,fun y hy=>?_,fun a ha=>(by cases ha),by simp[hg],fun u hu=>?_⟩
   ·show soundI (C++[(b,t-1)]) none=true
    rw[soundI_snoc,a1,(okI_iff _).2 ⟨b1,by show b≤t-1;omega,by show t-1≤_;omega⟩]
    unfold lastHi
    cases hl:C.getLast? with
    |none=>rfl
    |some y=>
     have h4:=(a2 y hl).2 b rfl
     have h5:¬y.2=1099511627776:=by omega
     simp[aheadI,h4,h5]
   ·have:(b,t-1)=y:=by simpa using hy
    subst this
    exact⟨by show t-1<t;omega,fun a ha=>by cases ha⟩
   ·show(inI u (C++[(b,t-1)])∨∃a,none=some a∧a≤u)↔_
    rw[inI_app,inI_one]
    by_cases h2:u≤m
    ·rw[←a5 u h2]
     constructor
     ·rintro((h|h)|⟨a,ha,h⟩)
      ·exact .inl h
      ·exact .inr ⟨b,rfl,h.1⟩
      ·cases ha
     ·rintro(h|⟨a,ha,h⟩)
      ·exact .inl (.inl h)
      ·cases ha;exact .inl (.inr ⟨h,by show u≤t-1;omega⟩)
    ·by_cases h3:u=t
     ·subst h3
      rw[hg]
      refine⟨fun h=>?_,fun h=>by cases h⟩
      rcases h with(h|h)|⟨a,ha,h⟩
      ·have:=hb u h;omega
      ·have:u≤u-1:=h.2;omega
      ·cases ha
     ·rw[hc u (by omega) (by omega),hm]
      exact⟨fun _=>rfl,fun _=>.inl (.inr ⟨by show b≤u;omega,by show u≤t-1;omega⟩)⟩
theorem inB_const {l:List Ivl} {m t:Int} (h:∀x∈l,(x.1≤m∨t≤x.1)∧(x.2+1≤m∨t≤x.2+1)) {u:Int} (h1:m≤u) (h2:u<t):inB l u=inB l m:=by
 have:∀x∈l,(decide (x.1≤u)&&decide (u≤x.2))=(decide (x.1≤m)&&decide (m≤x.2)):=by
  intro x hx
  have:=h x hx
  rw[Bool.eq_iff_iff]
  simp only[Bool.and_eq_true,decide_eq_true_eq]
  omega
 unfold inB
 rw[Bool.eq_iff_iff,List.any_eq_true,List.any_eq_true]
 constructor
 ·rintro⟨x,hx,h⟩;exact⟨x,hx,by rw[←this x hx];exact h⟩
 ·rintro⟨x,hx,h⟩;exact⟨x,hx,by rw[this x hx];exact h⟩
theorem rowR_go (l:List Ivl):∀(ts:List Int) (m:Int) (s:List Ivl×Option Int),RowInv (inB l) m s→(m::ts).Pairwise (·<·)→(∀x∈l,(x.1≤m∨x.1∈ts)∧(x.2+1≤m∨x.2+1∈ts))→(∀t∈ts,0≤t∧t≤1099511627777)→
  ∃m',RowInv (inB l) m' (rowR (inB l) ts s)∧∀x∈l,x.1≤m'∧x.2+1≤m'
 |[],m,s,h,_,hx,_=>⟨m,h,fun x hxl=>by have:=hx x hxl;simpa using this⟩
 |t::ts,m,s,h,hp,hx,hb=>by
  obtain⟨p1,p2⟩:=List.pairwise_cons.1 hp
  obtain⟨p3,p4⟩:=List.pairwise_cons.1 p2
  have hmt:=p1 t (by simp)
  have key:∀x∈l,(x.1≤m∨t≤x.1)∧(x.2+1≤m∨t≤x.2+1):=by
   intro x hxl
   obtain⟨h1,h2⟩:=hx x hxl
   refine⟨h1.imp id fun h=>?_,h2.imp id fun h=>?_⟩
   ·rcases List.mem_cons.1 h with h|h
    ·omega
    ·have:=p3 _ h;omega
   ·rcases List.mem_cons.1 h with h|h
    ·omega
    ·have:=p3 _ h;omega
  have hs:=h.step hmt (fun u h1 h2=>inB_const key h1 h2) (hb t (by simp)).1 (hb t (by simp)).2
  exact rowR_go l ts t _ hs p2 (fun x hxl=>by
   obtain⟨h1,h2⟩:=hx x hxl
   refine⟨?_,?_⟩
   ·rcases h1 with h1|h1
    ·exact .inl (by omega)
    ·rcases List.mem_cons.1 h1 with h1|h1
     ·exact .inl (by omega)
     ·exact .inr h1
   ·rcases h2 with h1|h1
    ·exact .inl (by omega)
    ·rcases List.mem_cons.1 h1 with h1|h1
     ·exact .inl (by omega)
     ·exact .inr h1) fun y hy=>hb y (by simp[hy])
theorem inB_none {l:List Ivl} {m:Int} (h:∀x∈l,m<x.1∨x.2+1≤m):inB l m=false:=by
 unfold inB
 rw[List.any_eq_false]
 intro x hx
 have:=h x hx
 simp only[Bool.and_eq_true,decide_eq_true_eq]
 omega
theorem rowR_join (l:List Ivl) (ts:List Int) (hk:∀x∈l,okI x=true) (hs:ts.Pairwise (·<·)) (hm:∀r,r∈ts↔∃x∈l,r=x.1∨r=x.2+1):rowR (inB l) ts ([],none)=(joinF l,none):=by
 have hb:∀t∈ts,0≤t∧t≤1099511627777:=by
  intro t ht
  obtain⟨x,hx,h⟩:=(hm t).1 ht
  have:=(okI_iff x).1 (hk x hx)
  omega
 have hbelow:∃m:Int,(∀t∈ts,m<t):=⟨-1,fun t ht=>by have:=(hb t ht).1;omega⟩
 obtain⟨m,hmt⟩:=hbelow
 have hxl:∀x∈l,x.1∈ts∧x.2+1∈ts:=fun x hx=>⟨(hm _).2 ⟨x,hx,.inl rfl⟩,(hm _).2 ⟨x,hx,.inr rfl⟩⟩
 have h0:∀u,u≤m→inB l u=false:=fun u hu=>inB_none fun x hx=>.inl (by have:=hmt _ (hxl x hx).1;omega)
 have hi:RowInv (inB l) m ([],none):=by
  refine⟨rfl,fun y hy=>by simp at hy,fun a ha=>(by cases ha),by rw[h0 m (Int.le_refl _)];rfl,fun u hu=>?_⟩
  rw[h0 u hu]
  refine⟨fun h=>?_,fun h=>by cases h⟩
  rcases h with⟨x,hx,_⟩|⟨a,ha,_⟩
  ·simp at hx
  ·cases ha
 obtain⟨m',r,hx⟩:=rowR_go l ts m _ hi (List.pairwise_cons.2 ⟨hmt,hs⟩) (fun x hx=>⟨.inr (hxl x hx).1,.inr (hxl x hx).2⟩) hb
 have hg:inB l m'=false:=inB_none fun x hxx=>.inr (hx x hxx).2
 obtain⟨j1,j2,_⟩:=joinF_law l hk
 have ho:(rowR (inB l) ts ([],none)).2=none:=by
  have:=r.now
  rw[hg]at this
  simpa using this
 have he:(rowR (inB l) ts ([],none)).1=joinF l:=by
  refine soundI_uniq r.snd j1 fun u=>?_
  rw[j2]
  by_cases hu:u≤m'
  ·have:=r.mem u hu
   rw[inB_iff]at this
   rw[←this,ho]
   constructor
   ·exact .inl
   ·rintro(h|⟨a,ha,_⟩)
    ·exact h
    ·cases ha
  ·constructor
   ·intro h;have:=r.below h;omega
   ·rintro⟨x,hxx,h1,h2⟩;have:=(hx x hxx).2;omega
 exact Prod.ext he ho
theorem rowR_len (g:Int→Bool):∀(ts:List Int) (s:List Ivl×Option Int),(rowR g ts s).1.length≤s.1.length+ts.length
 |[],s=>Nat.le_refl _
 |t::ts,s=>by
  have h1:=rowR_len g ts (stepR s t (g t))
  have h2:(stepR s t (g t)).1.length≤s.1.length+1:=by
   obtain⟨C,o⟩:=s
   cases o<;>cases g t<;>simp[stepR]
  show(rowR g ts (stepR s t (g t))).1.length≤_
  simp only[List.length_cons]
  omega
theorem rowR_snoc (g:Int→Bool) (ts:List Int) (t:Int) (s:List Ivl×Option Int):rowR g (ts++[t]) s=stepR (rowR g ts s) t (g t):=by simp[rowR]
end Go.Am
namespace Go.Am
open Go.Proofs
@[simp] def markIv (F:Int→Verd) (t:Int):List IV:=[.sc (.int .i64 t),.sc (.int .u8 (F t).kind),.sc (.int .i64 (F t).at_)]
theorem one20_spec (v:Verd):FSpec Tryz.prog 152 [v.av] [] (.bool (rightV v)) []:=by
 refine FSpec.of_flat (q:=[]) Tryz.func152 (by kernel_rfl) rfl Tryz.ntmps152 Tryz.results152 hP (by kernel_rfl) (by simp) (by first|rfl|simp) ?_
 simp -implicitDefEqProofs [rightV]
theorem mark_get (F:Int→Verd) {ts:List Int} {k:Nat} (h:k<ts.length):(ts.map (markIv F))[k]? =some (markIv F ts[k]):=by simp[h]
set_option maxRecDepth 8000 in
set_option maxHeartbeats 4000000 in
theorem make20_spec (ts:List Int) (F:Int→Verd) (a b:Int) (ho:oneI a b=true) (hh:ts.head? =some a) (hp:ts.Pairwise (·<·)) (hb:∀t∈ts,a≤t∧t≤b) (hl:ts.length≤2000) (hv:∀t∈ts,rightV (F t)=true):
  FSpec Tryz.prog 78 [.agg [.int .i64 a,.int .i64 b],.im (.sl 3 (ts.map (markIv F)))] []
   (.tup [.im (.sl 4 ((if 1024<(accE F b ts ts.length).length then[]else accE F b ts ts.length).map Pc.ivVd)),.int .i64 (if 1024<(accE F b ts ts.length).length then 11 else 0)]) []:=by
 have h1:=one_spec a b
 rw[show(decide (0≤a)&&decide (a≤b)&&decide (b≤1099511627776))=oneI a b from rfl,ho]at h1
 have hne:0<ts.length:=by cases ts with|nil=>simp at hh|cons x l=>simp
 have hne':ts≠[]:=by intro h;rw[h]at hne;simp at hne
 have h0:ts[0]=a:=by cases ts with|nil=>simp at hh|cons x l=>simpa using hh
 have hlt2:∀(i j:Nat) (hi:i<ts.length) (hj:j<ts.length),i<j→ts[i]<ts[j]:=fun i j hi hj hij=>List.pairwise_iff_getElem.1 hp i j hi hj hij
 obtain⟨o1,o2,o3⟩:=oneI_le ho
 refine FSpec.of_z (q:=[(6,.n 33),(17,.n 11)]) Tryz.func78 (by kernel_rfl) rfl Tryz.ntmps78 Tryz.results78 hP (by kernel_rfl) (by simp) (by first|rfl|simp) ?_
 simp -implicitDefEqProofs
 first|refine CallK.same (h1) rfl rfl ?_|refine CallQ.same (h1) rfl rfl ?_|refine CallQG.same _ (h1) rfl ?_|refine CallG.same _ (h1) rfl ?_|refine CallK.pv (h1) rfl rfl ?_
 simp -implicitDefEqProofs [hne']
 refine LoopK.os (fun k:Nat=>[(1,.im (.sl 3 (ts.map (markIv F)))),(2,.ptr 0 0),(21,.im (.sl 3 (ts.map (markIv F)))),(22,.int .i64 ts.length),(23,.int .i64 k)])
  (fun k=>[.box 43 [.int .i64 a,.int .i64 b]])
  (fun k=>k≤ts.length) (fun k=>ts.length-k) 0 [0] (Nat.zero_le _) (by simp) ?_
 intro k hk
 by_cases hlt:k<ts.length
 ·have e1:IntKind.i64.wrap (k+1)=(k+1:Nat):=wrap64 (by omega) (by omega)
  have hg:=mark_get F hlt
  have hb1:=hb ts[k] (List.getElem_mem hlt)
  have h2:=one20_spec (F ts[k])
  rw[hv ts[k] (List.getElem_mem hlt)]at h2
  obtain⟨t,ht⟩:∃t,ts[k]=t:=⟨_,rfl⟩
  rw[ht]at hg hb1 h2
  have em:IntKind.i64.wrap (-1)= -1:=by decide
  cases k with
  |zero=>
   have hta:t=a:=by rw[←ht];exact h0
   subst hta
   have hg0:ts[0]? =some t:=by rw[List.getElem?_eq_getElem hlt,ht]
   simp -implicitDefEqProofs [hlt,hg,ht,em,hne,hg0]
   first|refine CallK.same (h2) rfl rfl ?_|refine CallQ.same (h2) rfl rfl ?_|refine CallQG.same _ (h2) rfl ?_|refine CallG.same _ (h2) rfl ?_|refine CallK.pv (h2) rfl rfl ?_
   simp -implicitDefEqProofs [em,hg0]
   refine Again.os 1 [0] hlt (by omega) ?_
   simp -implicitDefEqProofs [show IntKind.i64.wrap 1=1 by decide]
  |succ j=>
   have hj:j<ts.length:=by omega
   have ej:IntKind.i64.wrap (j:Int)=(j:Int):=wrap64 (by omega) (by omega)
   have hlt3:=hlt2 j (j+1) hj hlt (by omega)
   have hgj:=mark_get F hj
   obtain⟨u,hu⟩:∃u,ts[j]=u:=⟨_,rfl⟩
   rw[hu]at hgj hlt3
   rw[ht]at hlt3
   have q1:¬t≤u:=by omega
   have q2:¬b<t:=by omega
   have q3:((j:Int)+1=0)=False:=by simp;omega
   have hgj':ts[j]? =some u:=by rw[List.getElem?_eq_getElem hj,hu]
   have hi:(j:Int)+1<ts.length:=by omega
   have hi0:(0:Int)≤(j:Int)+1:=by omega
   simp -implicitDefEqProofs [hlt,hg,ht,ej,hgj,hj,hu,q1,q2,q3,hgj',hi,hi0]
   first|refine CallK.same (h2) rfl rfl ?_|refine CallQ.same (h2) rfl rfl ?_|refine CallQG.same _ (h2) rfl ?_|refine CallG.same _ (h2) rfl ?_|refine CallK.pv (h2) rfl rfl ?_
   have q1':¬t≤ts[j]:=by rw[hu];exact q1
   have q3':((j:Int)+1==0)=false:=by simp;omega
   simp -implicitDefEqProofs [ej,hgj',q1',q2,q3,q3',hj,impB]
   refine Again.os (j+1+1) [0] hlt (by omega) ?_
   simp -implicitDefEqProofs at e1
   simp -implicitDefEqProofs [e1]
 ·have hkk:k=ts.length:=by omega
  subst hkk
  simp -implicitDefEqProofs
  refine LoopK.nil (.sl 8 71 4) ?_
  simp -implicitDefEqProofs
  refine LoopK.os (fun k:Nat=>[(1,.im (.sl 3 (ts.map (markIv F)))),(2,.ptr 0 0),(8,.row 1),(66,.im (.sl 3 (ts.map (markIv F)))),(67,.int .i64 ts.length),(68,.int .i64 k)])
   (fun k=>[.box 43 [.int .i64 a,.int .i64 b],.row 71 4 ((accE F b ts k).map Pc.ivVd)])
   (fun k=>k≤ts.length) (fun k=>ts.length-k) 0 [0,1] (Nat.zero_le _) (by simp[accE]) ?_
  intro k hk
  by_cases hlt:k<ts.length
  ·have e1:IntKind.i64.wrap (k+1)=(k+1:Nat):=wrap64 (by omega) (by omega)
   have hg:=mark_get F hlt
   have hacc:accE F b ts (k+1)=addPc (accE F b ts k) ts[k] (endT b ts k) (F ts[k]):=by
    rw[accE,List.getD_eq_getElem?_getD,List.getElem?_eq_getElem hlt];rfl
   have hal:=accE_len F b ts k
   have hend:(k+1<ts.length→∃v,ts[k+1]? =some v∧IntKind.i64.wrap (v-1)=endT b ts k)∧(¬k+1<ts.length→endT b ts k=b):=by
    refine⟨fun h=>⟨ts[k+1],List.getElem?_eq_getElem h,?_⟩,fun h=>by unfold endT;rw[if_neg h]⟩
    have:=hb ts[k+1] (List.getElem_mem h)
    rw[wrap64 (by omega) (by omega)]
    unfold endT
    rw[if_pos h,List.getD_eq_getElem?_getD,List.getElem?_eq_getElem h]
    rfl
   generalize accE F b ts k=L at*
   generalize endT b ts k=E at*
   obtain⟨t,ht⟩:∃t,ts[k]=t:=⟨_,rfl⟩
   rw[ht]at hg hacc
   have hi0:(0:Int)≤(k:Int)+1:=by omega
   by_cases hn:k+1<ts.length
   ·obtain⟨v,hv1,hv2⟩:=hend.1 hn
    have hi:(k:Int)+1<ts.length:=by omega
    rcases List.eq_nil_or_concat L with rfl|⟨L',y,rfl⟩
    ·simp -implicitDefEqProofs [hlt,hg,ht,e1,hi,hi0,hv1,hv2]
     refine⟨by unfold maxLen;omega,?_⟩
     refine Again.os (k+1) [0,4] hlt (by omega) ?_
     simp -implicitDefEqProofs [e1,hacc,addPc]
    ·rw[List.concat_eq_append]at hacc hal⊢
     rw[List.length_append,List.length_singleton]at hal
     have e2:IntKind.i64.wrap (L'.length:Int)=(L'.length:Int):=wrap64 (by omega) (by omega)
     have hg2:=get_end Pc.ivVd L' (Pc.ivVd y)
     have hm:=fun g=>mod_end g (Pc.ivVd y) (L'.map Pc.ivVd)
     simp at hg2 hm
     simp -implicitDefEqProofs [hlt,hg,ht,e1,hi,hi0,hv1,hv2,e2,hg2,hm]
     refine⟨by omega,fun h1 h2=>⟨by omega,?_⟩,fun hne=>⟨⟨by omega,by unfold maxLen;omega⟩,?_⟩⟩
     ·have hv:y.v=F t:=by
       obtain⟨c,d,⟨u,w⟩⟩:=y
       generalize F t=H at*
       obtain⟨u',w'⟩:=H
       simp only at h1 h2
       rw[h1,h2]
      rw[←hv,addPc_ext]at hacc
      refine Again.os (k+1) [0,1] hlt (by omega) ?_
      simp -implicitDefEqProofs [e1,hacc]
     ·have hv:y.v≠F t:=fun e=>by rw[e]at hne;exact hne rfl rfl
      rw[addPc_new _ _ _ _ (fun z hz=>by simp at hz;rw[←hz];exact hv)]at hacc
      refine Again.os (k+1) [0,4] hlt (by omega) ?_
      simp -implicitDefEqProofs [e1,hacc]
   ·have hE:=hend.2 hn
    rw[hE]at hacc
    have hi:¬(k:Int)+1<ts.length:=by omega
    rcases List.eq_nil_or_concat L with rfl|⟨L',y,rfl⟩
    ·simp -implicitDefEqProofs [hlt,hg,ht,e1,hi,hi0]
     refine⟨by unfold maxLen;omega,?_⟩
     refine Again.os (k+1) [0,4] hlt (by omega) ?_
     simp -implicitDefEqProofs [e1,hacc,addPc]
    ·rw[List.concat_eq_append]at hacc hal⊢
     rw[List.length_append,List.length_singleton]at hal
     have e2:IntKind.i64.wrap (L'.length:Int)=(L'.length:Int):=wrap64 (by omega) (by omega)
     have hg2:=get_end Pc.ivVd L' (Pc.ivVd y)
     have hm:=fun g=>mod_end g (Pc.ivVd y) (L'.map Pc.ivVd)
     simp at hg2 hm
     simp -implicitDefEqProofs [hlt,hg,ht,e1,hi,hi0,e2,hg2,hm]
     refine⟨by omega,fun h1 h2=>⟨by omega,?_⟩,fun hne=>⟨⟨by omega,by unfold maxLen;omega⟩,?_⟩⟩
     ·have hv:y.v=F t:=by
       obtain⟨c,d,⟨u,w⟩⟩:=y
       generalize F t=H at*
       obtain⟨u',w'⟩:=H
       simp only at h1 h2
       rw[h1,h2]
      rw[←hv,addPc_ext]at hacc
      refine Again.os (k+1) [0,1] hlt (by omega) ?_
      simp -implicitDefEqProofs [e1,hacc]
     ·have hv:y.v≠F t:=fun e=>by rw[e]at hne;exact hne rfl rfl
      rw[addPc_new _ _ _ _ (fun z hz=>by simp at hz;rw[←hz];exact hv)]at hacc
      refine Again.os (k+1) [0,4] hlt (by omega) ?_
      simp -implicitDefEqProofs [e1,hacc]
  ·have hkk:k=ts.length:=by omega
   subst hkk
   have hfl:=accE_len F b ts ts.length
   generalize accE F b ts ts.length=L at*
   simp -implicitDefEqProofs
   refine⟨fun h=>?_,fun h=>?_⟩
   ·have hb:1024<L.length:=by omega
    refine EndZ.ret [] (.tup [.im (.sc (.slice none 0 0)),.int .i64 11]) (by simp) (by simp[hb])
   ·have hb:¬1024<L.length:=by omega
    refine EndZ.ret [1] (.tup [.row 1,.int .i64 0]) (by simp) (by simp[hb])
end Go.Am
namespace Go.Am
open Go.Proofs
set_option maxRecDepth 8000 in
set_option maxHeartbeats 4000000 in
theorem verdictsD_spec (p:Past) (r:Int) (six:Bool) (x:Addr4) (a b:Int) (hw:p.wf) (hx:x.wf):
  FSpec Tryz.prog 26 [p.av,.int .i64 r,.bool six,x.av,.agg [.int .i64 a,.int .i64 b]] []
   (.tup [.im (.sl 4 ((verdL p r six x a b).map Pc.ivVd)),.int .i64 (verdE p r six x a b)]) []:=by
 have h1:=askedVr_spec p r six x a b hw hx
 refine FSpec.of_z (q:=[(8,.m [.p [] [],.p [] [],.e [36,37],.p [0] [],.p [0] [],.p [0] [],.e [38,39,40,41],.p [] [],.p [] [],.p [] [],.a 0 2,.p [] []])]) Tryz.func26 (by kernel_rfl) rfl Tryz.ntmps26 Tryz.results26 hP (by kernel_rfl) (by simp) (by first|rfl|simp) ?_
 simp -implicitDefEqProofs
 first|refine CallK.same (h1) rfl rfl ?_|refine CallQ.same (h1) rfl rfl ?_|refine CallQG.same _ (h1) rfl ?_|refine CallG.same _ (h1) rfl ?_|refine CallK.pv (h1) rfl rfl ?_
 simp -implicitDefEqProofs
 refine⟨fun h=>?_,fun h=>?_⟩
 ·refine EndZ.ret [] (.tup [.im (.sc (.slice none 0 0)),.int .i64 (askV p r six x a b)]) (by simp) (by simp[verdL,verdE,h])
 obtain⟨hok,hr,ho,h3,h4,h5⟩:=askV_zero h
 have htm:=timesD_spec p a b hw (ask_timesW h) hok
 have hbd:∀t∈a::timesF p.evs a b,a≤t∧t≤b:=fun t ht=>by
  rcases List.mem_cons.1 ht with rfl|ht
  ·have:=oneI_le ho;omega
  ·have:=timesF_in ht;omega
 have hl:=okP_len hok
 have hl2:=timesF_len p.evs a b
 have hE:verdE p r six x a b=if 1024<(lineP p (fun n=>(wayN n six x r).2) a b).length then 11 else 0:=by unfold verdE;rw[if_pos h]
 have hL:verdL p r six x a b=if 1024<(lineP p (fun n=>(wayN n six x r).2) a b).length then[]else lineP p (fun n=>(wayN n six x r).2) a b:=by
  unfold verdL;rw[hE];split<;>simp
 have hlen:(a::timesF p.evs a b).length≤2000:=by simp;omega
 have hmk:=make20_spec (a::timesF p.evs a b) (fun t=>(wayN (thenF p t) six x r).2) a b ho rfl (times_pw _ a b) hbd hlen (fun t _=>by
  obtain⟨k1,k2,k3,k4⟩:=way_right (six:=six) (a:=x) (thenF_all hok t).2.2 h3 h4
  simp only[rightV,Bool.and_eq_true,decide_eq_true_eq]
  omega)
 rw[accE_p p (fun n=>(wayN n six x r).2) a b,←hE,←hL]at hmk
 generalize verdE p r six x a b=W at*
 generalize verdL p r six x a b=L at*
 clear hE hL
 generalize a::timesF p.evs a b=ts at*
 first|refine CallK.same (htm) rfl rfl ?_|refine CallQ.same (htm) rfl rfl ?_|refine CallQG.same _ (htm) rfl ?_|refine CallG.same _ (htm) rfl ?_|refine CallK.pv (htm) rfl rfl ?_
 simp -implicitDefEqProofs
 refine LoopK.nil (.sl 13 145 3) ?_
 simp -implicitDefEqProofs
 refine LoopK.os (fun k:Nat=>[(1,.int .i64 r),(2,.bool six),(5,.ptr 0 0),(8,.ptr 1 0),(9,.ptr 2 0),(13,.row 3),(29,.im (.sl 1 (rowN ts))),(30,.int .i64 ts.length),(31,.int .i64 k)])
  (fun k=>[pastO p,.box 31 [.int .u64 x.hi,.int .u64 x.lo],.box 43 [.int .i64 a,.int .i64 b],.row 145 3 ((ts.take k).map (markIv fun t=>(wayN (thenF p t) six x r).2))])
  (fun k=>k≤ts.length) (fun k=>ts.length-k) 0 [0,1,2,3] (Nat.zero_le _) (by simp) ?_
 intro k hk
 by_cases hlt:k<ts.length
 ·have e1:IntKind.i64.wrap (k+1)=(k+1:Nat):=wrap64 (by omega) (by omega)
  have hg:=rowN_get hlt
  have htk:ts.take (k+1)=ts.take k++[ts[k]]:=by rw[List.take_add_one,List.getElem?_eq_getElem hlt];rfl
  obtain⟨t,ht⟩:∃t,ts[k]=t:=⟨_,rfl⟩
  rw[ht]at hg htk
  have htk2:=congrArg (List.map (markIv fun t=>(wayN (thenF p t) six x r).2)) htk
  simp at htk2
  have g1:=thenr_spec p t hw.1 (fun e he=>(hw.2 e he).2) (by omega)
  have g2:FSpec Tryz.prog 61 [(thenF p t).av,.int .i64 r,.bool six,x.av] [] (.tup [.im (.sl 1 (rowI (wayN (thenF p t) six x r).1)),(wayN (thenF p t) six x r).2.av]) []:=way_spec (thenF p t) r six x (thenF_all hok t).2.2 (then_wf hw t) hx
  generalize hH:wayN (thenF p t) six x r=H at*
  generalize thenF p t=N at*
  simp -implicitDefEqProofs [hlt,hg,ht]
  first|refine CallK.same (g1) rfl rfl ?_|refine CallQ.same (g1) rfl rfl ?_|refine CallQG.same _ (g1) rfl ?_|refine CallG.same _ (g1) rfl ?_|refine CallK.pv (g1) rfl rfl ?_
  simp -implicitDefEqProofs
  first|refine CallK.same (g2) rfl rfl ?_|refine CallQ.same (g2) rfl rfl ?_|refine CallQG.same _ (g2) rfl ?_|refine CallG.same _ (g2) rfl ?_|refine CallK.pv (g2) rfl rfl ?_
  simp -implicitDefEqProofs
  refine⟨⟨by omega,by unfold maxLen;omega⟩,?_⟩
  refine Again.os (k+1) [0,1,2,6] hlt (by omega) ?_
  simp -implicitDefEqProofs [e1,htk2]
 ·have hkk:k=ts.length:=by omega
  subst hkk
  simp -implicitDefEqProofs
  refine CallK.outs [3] hmk rfl (by simp) (by simp[AV.flat]) ?_
  simp -implicitDefEqProofs
  refine EndZ.ret [] (.tup [.im (.sl 4 (L.map Pc.ivVd)),.int .i64 W]) (by simp) (by simp)
end Go.Am
namespace Go.Am
open Go.Proofs
theorem in19_spec (l:List Ivl) (t:Int) (hl:l.length≤100000):FSpec Tryz.prog 219 [.im (.sl 2 (l.map ivI)),.int .i64 t] [] (.bool (inB l t)) []:=by
 refine FSpec.of_flat (q:=[]) Tryz.func219 (by kernel_rfl) rfl Tryz.ntmps219 Tryz.results219 hP (by kernel_rfl) (by simp) (by first|rfl|simp) ?_
 simp -implicitDefEqProofs
 refine LoopK.os (fun k:Nat=>[(1,.int .i64 t),(7,.im (.sl 2 (l.map ivI))),(8,.int .i64 l.length),(9,.int .i64 k)])
  (fun k=>[]) (fun k=>k≤l.length∧inB (l.drop k) t=inB l t) (fun k=>l.length-k) 0 [] ⟨Nat.zero_le _,by simp⟩ (by simp) ?_
 rintro k ⟨hk,hR⟩
 by_cases hlt:k<l.length
 ·have e1:IntKind.i64.wrap (k+1)=(k+1:Nat):=wrap64 (by omega) (by omega)
  rw[List.drop_eq_getElem_cons hlt]at hR
  obtain⟨y,hy⟩:∃y,l[k]=y:=⟨_,rfl⟩
  rw[hy]at hR
  have hs:inB (y::l.drop (k+1)) t=((decide (y.1≤t)&&decide (t≤y.2))||inB (l.drop (k+1)) t):=rfl
  rw[hs]at hR
  simp -implicitDefEqProofs [hlt,hy]
  refine⟨fun h1 h2=>?_,fun h=>?_⟩
  ·rw[←hR];simp[h1,h2]
  ·have hf:(decide (y.1≤t)&&decide (t≤y.2))=false:=by
    rw[Bool.and_eq_false_iff]
    by_cases h1:y.1≤t
    ·right;have:=h h1;simp;omega
    ·left;simp[h1]
   rw[hf,Bool.false_or]at hR
   refine Again.os (k+1) [] ⟨hlt,hR⟩ (by omega) ?_
   simp -implicitDefEqProofs [e1]
 ·have hkk:k=l.length:=by omega
  subst hkk
  rw[List.drop_length]at hR
  simp -implicitDefEqProofs [←hR]
  rfl
def endsI (l:List Ivl):List Int:=l.flatMap fun x=>[x.1,x.2+1]
theorem endsI_len:∀l:List Ivl,(endsI l).length=2*l.length
 |[]=>rfl
 |x::l=>by
  have:=endsI_len l
  show(x.1::(x.2+1)::endsI l).length=_
  simp only[List.length_cons]
  omega
theorem endsI_app (l m:List Ivl):endsI (l++m)=endsI l++endsI m:=by simp[endsI]
theorem endsI_mem (l:List Ivl) (r:Int):r∈endsI l↔∃x∈l,r=x.1∨r=x.2+1:=by
 unfold endsI
 simp
set_option maxRecDepth 8000 in
set_option maxHeartbeats 4000000 in
theorem row19_spec (l:List Ivl) (hl:l.length≤1024) (hk:∀x∈l,okI x=true):
  FSpec Tryz.prog 153 [.int .i64 0,.im (.sl 2 (l.map ivI)),.im (.sc (.slice none 0 0))] [] (.im (.sl 2 ((joinF l).map ivI))) []:=by
 have h1:=sorted19_spec (endsI l) (by rw[endsI_len];omega) (dedup (sortI (endsI l))) (dedup_sorted (sortI_sorted _)) (fun r=>by rw[dedup_mem];exact(sortI_perm _).mem_iff)
 have hj:=rowR_join l (dedup (sortI (endsI l))) hk (dedup_sorted (sortI_sorted _)) (fun r=>by rw[dedup_mem,(sortI_perm _).mem_iff,endsI_mem])
 have hdl:(dedup (sortI (endsI l))).length≤2048:=by
  have h1:=dedup_len (sortI (endsI l))
  rw[(sortI_perm _).length_eq,endsI_len]at h1
  omega
 have hin:=fun t=>in19_spec l t (by omega)
 have hDb:∀t∈dedup (sortI (endsI l)),0≤t∧t≤1099511627777:=by
  intro t ht
  rw[dedup_mem,(sortI_perm _).mem_iff,endsI_mem]at ht
  obtain⟨x,hx,h⟩:=ht
  have:=(okI_iff x).1 (hk x hx)
  omega
 generalize dedup (sortI (endsI l))=D at*
 refine FSpec.of_z (q:=[]) Tryz.func153 (by kernel_rfl) rfl Tryz.ntmps153 Tryz.results153 hP (by kernel_rfl) (by simp) (by first|rfl|simp) ?_
 simp -implicitDefEqProofs
 refine⟨⟨by omega,by unfold maxLen;omega⟩,?_⟩
 refine LoopK.nil (.sl 7 2 1) ?_
 simp -implicitDefEqProofs
 refine LoopK.os (fun k:Nat=>[(0,.int .i64 0),(1,.im (.sl 2 (l.map ivI))),(2,.im (.sc (.slice none 0 0))),(7,.row 1),(21,.row 0),(22,.int .i64 l.length),(23,.int .i64 k)])
  (fun k=>[.row 43 2 (l.map ivI),.row 2 1 (rowI (endsI (l.take k)))])
  (fun k=>k≤l.length) (fun k=>l.length-k) 0 [2,3] (Nat.zero_le _) (by simp[endsI,rowI]) ?_
 intro k hkl
 by_cases hlt:k<l.length
 ·have e1:IntKind.i64.wrap (k+1)=(k+1:Nat):=wrap64 (by omega) (by omega)
  have ht:l.take (k+1)=l.take k++[l[k]]:=by rw[List.take_add_one,List.getElem?_eq_getElem hlt];rfl
  have hy0:=(okI_iff _).1 (hk l[k] (List.getElem_mem hlt))
  obtain⟨y,hy⟩:∃y,l[k]=y:=⟨_,rfl⟩
  rw[hy]at ht hy0
  have e3:IntKind.i64.wrap (y.2+1)=y.2+1:=wrap64 (by omega) (by omega)
  have hel:rowI (endsI (l.take (k+1)))=rowI (endsI (l.take k))++[[.sc (.int .i64 y.1)],[.sc (.int .i64 (y.2+1))]]:=by rw[ht,endsI_app];simp[rowI,endsI]
  have hll:(endsI (l.take k)).length=2*k:=by rw[endsI_len,List.length_take];omega
  have hll2:(rowI (endsI (l.take k))).length=2*k:=by simpa [rowI]using hll
  simp -implicitDefEqProofs [hlt,hy,e1,e3]
  refine⟨⟨by omega,by unfold maxLen;omega⟩,?_⟩
  refine Again.os (k+1) [0,4] hlt (by omega) ?_
  simp -implicitDefEqProofs [e1,hel]
 ·have hkk:k=l.length:=by omega
  subst hkk
  simp -implicitDefEqProofs
  refine CallK.outs [1] h1 rfl (by simp) (by simp[AV.flat]) ?_
  simp -implicitDefEqProofs
  refine LoopK.nil (.sl 10 43 2) ?_
  simp -implicitDefEqProofs
  refine LoopK.os (fun k:Nat=>[(0,.int .i64 0),(1,.im (.sl 2 (l.map ivI))),(2,.im (.sc (.slice none 0 0))),(10,.row 0),(11,.bool (rowR (inB l) (D.take k) ([],none)).2.isSome),(37,.im (.sl 1 (rowI D))),(38,.int .i64 D.length),(39,.int .i64 k)])
   (fun k=>[.row 43 2 ((outR (rowR (inB l) (D.take k) ([],none))).map ivI)])
   (fun k=>k≤D.length) (fun k=>D.length-k) 0 [2] (Nat.zero_le _) (by simp[rowR,outR]) ?_
  intro k hkl
  by_cases hlt:k<D.length
  ·have e1:IntKind.i64.wrap (k+1)=(k+1:Nat):=wrap64 (by omega) (by omega)
   have ht:D.take (k+1)=D.take k++[D[k]]:=by rw[List.take_add_one,List.getElem?_eq_getElem hlt];rfl
   have hb:=hDb D[k] (List.getElem_mem hlt)
   obtain⟨t,hy⟩:∃t,D[k]=t:=⟨_,rfl⟩
   have hg:(rowI D)[k]? =some [.sc (.int .i64 t)]:=by simp[rowI,hlt,hy]
   rw[hy]at ht hb
   have hs:=rowR_snoc (inB l) (D.take k) t ([],none)
   rw[←ht]at hs
   have hrl:=rowR_len (inB l) (D.take k) ([],none)
   rw[List.length_take]at hrl
   simp only[List.length_nil]at hrl
   have i1:=hin t
   have i2:=in19_spec [] t (by simp)
   rw[show inB [] t=false from rfl]at i2
   generalize rowR (inB l) (D.take k) ([],none)=S at*
   generalize inB l t=B at*
   have e3:IntKind.i64.wrap (t-1)=t-1:=wrap64 (by omega) (by omega)
   obtain⟨C,o⟩:=S
   have hrl:C.length≤2048:=by
    have h2:C.length≤0+min k D.length:=hrl
    omega
   cases o with
   |none=>
    cases B with
    |true=>
     simp -implicitDefEqProofs [hlt,hg,hy,outR]
     first|refine CallK.same (i1) rfl rfl ?_|refine CallQ.same (i1) rfl rfl ?_|refine CallQG.same _ (i1) rfl ?_|refine CallG.same _ (i1) rfl ?_|refine CallK.pv (i1) rfl rfl ?_
     simp -implicitDefEqProofs
     refine CallK.v0 i2 rfl (by simp) rfl ?_
     simp -implicitDefEqProofs
     refine⟨⟨by omega,by unfold maxLen;omega⟩,?_⟩
     refine Again.os (k+1) [2] hlt (by omega) ?_
     simp -implicitDefEqProofs [e1,hs,stepR]
    |false=>
     simp -implicitDefEqProofs [hlt,hg,hy,outR]
     first|refine CallK.same (i1) rfl rfl ?_|refine CallQ.same (i1) rfl rfl ?_|refine CallQG.same _ (i1) rfl ?_|refine CallG.same _ (i1) rfl ?_|refine CallK.pv (i1) rfl rfl ?_
     simp -implicitDefEqProofs
     refine CallK.v0 i2 rfl (by simp) rfl ?_
     simp -implicitDefEqProofs
     refine Again.os (k+1) [0] hlt (by omega) ?_
     simp -implicitDefEqProofs [e1,hs,stepR]
   |some a=>
    have hm:=fun g=>mod_end g (ivI (a,0)) (C.map ivI)
    simp at hm
    have e2:IntKind.i64.wrap (C.length:Int)=(C.length:Int):=wrap64 (by omega) (by omega)
    cases B with
    |true=>
     simp -implicitDefEqProofs [hlt,hg,hy,outR]
     first|refine CallK.same (i1) rfl rfl ?_|refine CallQ.same (i1) rfl rfl ?_|refine CallQG.same _ (i1) rfl ?_|refine CallG.same _ (i1) rfl ?_|refine CallK.pv (i1) rfl rfl ?_
     simp -implicitDefEqProofs
     refine CallK.v0 i2 rfl (by simp) rfl ?_
     simp -implicitDefEqProofs
     refine Again.os (k+1) [0] hlt (by omega) ?_
     simp -implicitDefEqProofs [e1,hs,stepR]
    |false=>
     simp -implicitDefEqProofs [hlt,hg,hy,outR]
     first|refine CallK.same (i1) rfl rfl ?_|refine CallQ.same (i1) rfl rfl ?_|refine CallQG.same _ (i1) rfl ?_|refine CallG.same _ (i1) rfl ?_|refine CallK.pv (i1) rfl rfl ?_
     simp -implicitDefEqProofs
     refine CallK.v0 i2 rfl (by simp) rfl ?_
     simp -implicitDefEqProofs [e2,e3,hm]
     refine⟨by omega,?_⟩
     refine Again.os (k+1) [0] hlt (by omega) ?_
     simp -implicitDefEqProofs [e1,hs,stepR]
  ·have hkk:k=D.length:=by omega
   subst hkk
   rw[List.take_length,hj]
   simp -implicitDefEqProofs [outR]
   refine EndZ.ret [0] (.row 0) (by simp) (by simp)
set_option maxRecDepth 8000 in
theorem make19_spec (l:List Ivl) (hl:l.length≤1024) (hk:∀x∈l,okI x=true):
  FSpec Tryz.prog 79 [.im (.sl 2 (l.map ivI))] [] (.tup [.im (.sl 2 ((joinF l).map ivI)),.int .i64 0]) []:=by
 have h1:=row19_spec l hl hk
 have hl':¬(1024:Int)<l.length:=by omega
 refine FSpec.of_z (q:=[]) Tryz.func79 (by kernel_rfl) rfl Tryz.ntmps79 Tryz.results79 hP (by kernel_rfl) (by simp) (by first|rfl|simp) ?_
 simp -implicitDefEqProofs [hl']
 refine LoopK.os (fun k:Nat=>[(0,.im (.sl 2 (l.map ivI))),(9,.im (.sl 2 (l.map ivI))),(10,.int .i64 l.length),(11,.int .i64 k)])
  (fun k=>[]) (fun k=>k≤l.length) (fun k=>l.length-k) 0 [] (Nat.zero_le _) (by simp) ?_
 intro k hkl
 by_cases hlt:k<l.length
 ·have e1:IntKind.i64.wrap (k+1)=(k+1:Nat):=wrap64 (by omega) (by omega)
  have hy0:=(okI_iff _).1 (hk l[k] (List.getElem_mem hlt))
  obtain⟨y,hy⟩:∃y,l[k]=y:=⟨_,rfl⟩
  rw[hy]at hy0
  have h2:=one_spec y.1 y.2
  rw[show(decide (0≤y.1)&&decide (y.1≤y.2)&&decide (y.2≤1099511627776))=true by simp[hy0]]at h2
  simp -implicitDefEqProofs [hlt,hy]
  first|refine CallK.same (h2) rfl rfl ?_|refine CallQ.same (h2) rfl rfl ?_|refine CallQG.same _ (h2) rfl ?_|refine CallG.same _ (h2) rfl ?_|refine CallK.pv (h2) rfl rfl ?_
  simp -implicitDefEqProofs
  refine Again.os (k+1) [] hlt (by omega) ?_
  simp -implicitDefEqProofs [e1]
 ·have hkk:k=l.length:=by omega
  subst hkk
  simp -implicitDefEqProofs
  refine CallK.v0 h1 rfl (by simp) rfl ?_
  simp -implicitDefEqProofs
  refine EndZ.ret [] (.tup [.im (.sl 2 ((joinF l).map ivI)),.int .i64 0]) (by simp) (by simp)
set_option maxRecDepth 8000 in
set_option maxHeartbeats 4000000 in
theorem everD_spec (p:Past) (r:Int) (six:Bool) (x:Addr4) (a b kd:Int) (hw:p.wf) (hx:x.wf):
  FSpec Tryz.prog 27 [p.av,.int .i64 r,.bool six,x.av,.agg [.int .i64 a,.int .i64 b],.int .u8 kd] []
   (.tup [.im (.sl 2 ((everL p r six x a b kd).map ivI)),.int .i64 (verdE p r six x a b)]) []:=by
 have h1:=verdictsD_spec p r six x a b hw hx
 refine FSpec.of_z (q:=[]) Tryz.func27 (by kernel_rfl) rfl Tryz.ntmps27 Tryz.results27 hP (by kernel_rfl) (by simp) (by first|rfl|simp) ?_
 simp -implicitDefEqProofs
 first|refine CallK.same (h1) rfl rfl ?_|refine CallQ.same (h1) rfl rfl ?_|refine CallQG.same _ (h1) rfl ?_|refine CallG.same _ (h1) rfl ?_|refine CallK.pv (h1) rfl rfl ?_
 simp -implicitDefEqProofs
 refine⟨fun h=>?_,fun h=>?_⟩
 ·have hv:verdL p r six x a b=[]:=by unfold verdL;rw[if_neg h]
  have he:everL p r six x a b kd=[]:=by unfold everL;rw[hv];simp[kindL,joinF,sortF]
  refine EndZ.ret [] (.tup [.im (.sc (.slice none 0 0)),.int .i64 (verdE p r six x a b)]) (by simp) (by simp[he])
 obtain⟨hup,h0,h2,hl⟩:=verdL_up h
 have hk:=kindL_up kd hup
 have hm:=make19_spec (kindL kd (verdL p r six x a b)) (by have:=kindL_len kd (verdL p r six x a b);omega) (fun y hy=>(okI_iff y).2 (by have:=hk.1 y hy;omega))
 unfold everL
 rw[h]
 generalize verdL p r six x a b=L at*
 refine LoopK.nil (.sl 16 43 2) ?_
 simp -implicitDefEqProofs
 refine LoopK.os (fun k:Nat=>[(5,.int .u8 kd),(16,.row 0),(31,.im (.sl 4 (L.map Pc.ivVd))),(32,.int .i64 L.length),(33,.int .i64 k)])
  (fun k=>[.row 43 2 ((kindL kd (L.take k)).map ivI)])
  (fun k=>k≤L.length) (fun k=>L.length-k) 0 [3] (Nat.zero_le _) (by simp[kindL]) ?_
 intro k hk
 by_cases hlt:k<L.length
 ·have e1:IntKind.i64.wrap (k+1)=(k+1:Nat):=wrap64 (by omega) (by omega)
  have ht:L.take (k+1)=L.take k++[L[k]]:=by rw[List.take_add_one,List.getElem?_eq_getElem hlt];rfl
  obtain⟨y,hy⟩:∃y,L[k]=y:=⟨_,rfl⟩
  rw[hy]at ht
  have ht2:kindL kd (L.take (k+1))=kindL kd (L.take k)++(if y.v.kind=kd then[(y.a,y.b)]else[]):=by
   rw[ht,kindL_app]
   congr 1
   by_cases h:y.v.kind=kd<;>simp[kindL,h]
  have hkl:=kindL_len kd (L.take k)
  rw[List.length_take]at hkl
  generalize kindL kd (L.take k)=out at*
  simp -implicitDefEqProofs [hlt,hy]
  refine⟨fun h'=>?_,fun h'=>?_⟩
  ·rw[if_pos h']at ht2
   refine⟨⟨by omega,by unfold maxLen;omega⟩,?_⟩
   refine Again.os (k+1) [3] hlt (by omega) ?_
   simp -implicitDefEqProofs [e1,ht2]
  ·rw[if_neg h',List.append_nil]at ht2
   refine Again.os (k+1) [0] hlt (by omega) ?_
   simp -implicitDefEqProofs [e1,ht2]
 ·have hkk:k=L.length:=by omega
  subst hkk
  simp -implicitDefEqProofs
  refine CallK.outs [0] hm rfl (by simp) (by simp[AV.flat]) ?_
  simp -implicitDefEqProofs
  refine EndZ.ret [] (.tup [.im (.sl 2 ((joinF (kindL kd L)).map ivI)),.int .i64 0]) (by simp) (by simp)
set_option maxRecDepth 8000 in
set_option maxHeartbeats 4000000 in
theorem windowTells_spec (p:Past) (r:Int) (six:Bool) (x:Addr4) (a b kd:Int) (hw:p.wf) (hx:x.wf):
  FSpec Tryz.prog 6 [p.av,.int .i64 r,.bool six,x.av,.agg [.int .i64 a,.int .i64 b],.int .u8 kd] [kindsO] (.bool true) [kindsO]:=by
 have h1:=verdictsP_spec p r six x a b hw hx
 have h2:=verdictsD_spec p r six x a b hw hx
 have h3:=everP_spec p r six x a b kd hw hx
 have h4:=everD_spec p r six x a b kd hw hx
 have h5:=lives26_spec
 have hl1:(verdL p r six x a b).length≤1024∧(everL p r six x a b kd).length≤1024:=by
  by_cases h:verdE p r six x a b=0
  ·have hl:=(verdL_up h).2.2.2
   refine⟨hl,?_⟩
   have h1:=foldJ_len (sortF (kindL kd (verdL p r six x a b))) []
   have h2:=(sortF_perm (kindL kd (verdL p r six x a b))).length_eq
   have h3:=kindL_len kd (verdL p r six x a b)
   unfold everL joinF
   simp only[List.length_nil]at h1
   omega
  ·have hv:verdL p r six x a b=[]:=by unfold verdL;rw[if_neg h]
   unfold everL
   rw[hv]
   simp[kindL,joinF,sortF]
 have h6:=same20_spec (verdL p r six x a b) (by omega)
 have h7:=same19_spec (everL p r six x a b kd) (by omega)
 generalize verdL p r six x a b=L at*
 generalize everL p r six x a b kd=M at*
 generalize verdE p r six x a b=E at*
 refine FSpec.of_o (q:=[]) Tryz.func6 (by kernel_rfl) rfl Tryz.ntmps6 Tryz.results6 hP (by kernel_rfl) (by simp) (by first|rfl|simp) ?_
 simp -implicitDefEqProofs [kindsO]
 refine CallO.mk [] [0] h1 (by simp) rfl (by simp[kindsO]) (by simp[kindsO]) (by simp[kindsO]) ?_
 simp -implicitDefEqProofs [kindsO]
 refine CallK.v0 h2 rfl (by simp) rfl ?_
 simp -implicitDefEqProofs [kindsO]
 refine CallO.mk [] [0] h3 (by simp) rfl (by simp[kindsO]) (by simp[kindsO]) (by simp[kindsO]) ?_
 simp -implicitDefEqProofs [kindsO]
 refine CallK.v0 h4 rfl (by simp) rfl ?_
 simp -implicitDefEqProofs [kindsO]
 refine CallO.mk [] [0] h5 (by simp) rfl (by simp[kindsO]) (by simp[kindsO]) (by simp[kindsO]) ?_
 simp -implicitDefEqProofs [kindsO]
 refine CallG.on ?_
 first|refine CallK.same (h6) rfl rfl ?_|refine CallQ.same (h6) rfl rfl ?_|refine CallQG.same _ (h6) rfl ?_|refine CallG.same _ (h6) rfl ?_|refine CallK.pv (h6) rfl rfl ?_
 simp -implicitDefEqProofs [kindsO]
 refine CallG.on ?_
 first|refine CallK.same (h7) rfl rfl ?_|refine CallQ.same (h7) rfl rfl ?_|refine CallQG.same _ (h7) rfl ?_|refine CallG.same _ (h7) rfl ?_|refine CallK.pv (h7) rfl rfl ?_
 simp -implicitDefEqProofs [kindsO]
 refine EndO.ret [] [0] (.bool true) (by simp) ?_
 simp -implicitDefEqProofs [kindsO]
end Go.Am
namespace Go.Am
open Go.Proofs
def idxE (t:Int):List (Pc Verd)→Int→Int
 |[],_=> -1
 |x::l,k=>if t≤x.b then k else idxE t l (k+1)
theorem idxE_at {t e:Int}:∀{L:List (Pc Verd)} {n:Int} {pv:Option Verd} (k:Int),Tile n pv L e→n≤t→t<e→∃(i:Nat) (h:i<L.length),idxE t L k=k+i∧L[i].a≤t∧t≤L[i].b
 |[],n,pv,k,h,h1,h2=>by have h:n=e:=h;omega
 |x::L,n,pv,k,h,h1,h2=>by
  obtain⟨a1,a2,a3,a4⟩:=h
  rw[idxE]
  by_cases hx:t≤x.b
  ·rw[if_pos hx]
   exact⟨0,by simp,by omega,by show x.a≤t;omega,hx⟩
  ·rw[if_neg hx]
   obtain⟨i,hi,g1,g2,g3⟩:=idxE_at (k+1) a4 (by omega) h2
   exact⟨i+1,by simpa using hi,by omega,g2,g3⟩
theorem at1_spec (y:Pc Verd) (t:Int):FSpec Tryz.prog 82 [.agg [.int .i64 y.a,.int .i64 y.b,.int .u8 y.v.kind,.int .i64 y.v.at_],.ptr 0 0] [.box 2 [.int .i64 t]] (.bool (decide (t≤y.b))) [.box 2 [.int .i64 t]]:=by
 refine FSpec.of_o (q:=[]) Tryz.func82 (by kernel_rfl) rfl Tryz.ntmps82 Tryz.results82 hP (by kernel_rfl) (by simp) (by first|rfl|simp) ?_
 simp
 refine EndO.ret [] [0] (.bool (decide (t≤y.b))) (by simp) ?_
 simp
theorem indexE_spec (l:List (Pc Verd)) (t:Int) (hl:l.length≤100000):
  FSpec Tryz.prog 81 [.im (.sl 4 (l.map Pc.ivVd)),.fn 82 [.ptr 0 0]] [.box 2 [.int .i64 t]] (.int .i64 (idxE t l 0)) [.box 2 [.int .i64 t]]:=by
 refine FSpec.of_o (q:=[]) Tryz.func81 (by kernel_rfl) rfl Tryz.ntmps81 Tryz.results81 hP (by kernel_rfl) (by simp) (by first|rfl|simp) ?_
 simp
 refine LoopK.os (fun k:Nat=>[(0,.im (.sl 4 (l.map Pc.ivVd))),(1,.fn 82 [.ptr 0 0]),(7,.int .i64 l.length),(8,.int .i64 k)])
  (fun _=>[.box 2 [.int .i64 t]])
  (fun k=>k≤l.length∧idxE t (l.drop k) k=idxE t l 0) (fun k=>l.length-k) 0 [0] ⟨Nat.zero_le _,by simp⟩ (by simp) ?_
 rintro k ⟨hk,hR⟩
 by_cases hlt:k<l.length
 ·have e1:IntKind.i64.wrap (k+1)=(k+1:Nat):=wrap64 (by omega) (by omega)
  rw[List.drop_eq_getElem_cons hlt,idxE]at hR
  obtain⟨y,hy⟩:∃y,l[k]=y:=⟨_,rfl⟩
  rw[hy]at hR
  simp -implicitDefEqProofs [hlt,e1,hy]
  refine CallO.mk [] [0] (at1_spec y t) (by simp) rfl (by simp) (by simp) (by simp) ?_
  simp -implicitDefEqProofs
  refine⟨fun h=>?_,fun h=>?_⟩
  ·rw[if_pos h]at hR
   refine EndO.ret [] [0] _ rfl ?_
   simp[←hR]
  ·rw[if_neg (by omega)]at hR
   refine Again.os (k+1) [0] ⟨hlt,by simpa using hR⟩ (by omega) ?_
   simp[e1]
 ·have hkk:k=l.length:=by omega
  subst hkk
  rw[List.drop_length,idxE]at hR
  simp
  refine EndO.ret [] [0] _ rfl ?_
  simp[←hR]
set_option maxRecDepth 8000 in
theorem atW_spec (L:List (Pc Verd)) (a b t:Int) (g:Int→Verd) (ho:oneI a b=true) (ht:Tile a none L (b+1)) (hl:L.length≤1024) (hr:∀x∈L,rightV x.v=true) (hg:PcVal g L):
  FSpec Tryz.prog 29 [.agg [.int .i64 a,.int .i64 b],.im (.sl 4 (L.map Pc.ivVd)),.int .i64 t] []
   (.tup [(if a≤t∧t≤b then g t else⟨0,0⟩).av,.int .i64 (if a≤t∧t≤b then 0 else 1)]) []:=by
 have h1:=checkW_spec L a b ho ht hl hr
 have h2:=indexE_spec L t (by omega)
 by_cases hin:a≤t∧t≤b
 ·obtain⟨i,hi,g1,g2,g3⟩:=idxE_at 0 ht hin.1 (by omega)
  rw[g1]at h2
  have hv:=hg _ (List.getElem_mem hi) t g2 g3
  rw[if_pos hin,if_pos hin,hv]
  obtain⟨y,hy⟩:∃y,L[i]=y:=⟨_,rfl⟩
  have q1:¬t<a:=by omega
  have q2:¬b<t:=by omega
  refine FSpec.of_z (q:=[]) Tryz.func29 (by kernel_rfl) rfl Tryz.ntmps29 Tryz.results29 hP (by kernel_rfl) (by simp) (by first|rfl|simp) ?_
  simp -implicitDefEqProofs
  first|refine CallK.same (h1) rfl rfl ?_|refine CallQ.same (h1) rfl rfl ?_|refine CallQG.same _ (h1) rfl ?_|refine CallG.same _ (h1) rfl ?_|refine CallK.pv (h1) rfl rfl ?_
  simp -implicitDefEqProofs [q1,q2]
  refine CallO.mk [] [1] h2 (by simp) rfl (by simp) (by simp) (by simp) ?_
  simp -implicitDefEqProofs [hi,hy]
  refine EndZ.ret [] (.tup [y.v.av,.int .i64 0]) (by simp) (by simp[hy])
 ·rw[if_neg hin,if_neg hin]
  refine FSpec.of_z (q:=[]) Tryz.func29 (by kernel_rfl) rfl Tryz.ntmps29 Tryz.results29 hP (by kernel_rfl) (by simp) (by first|rfl|simp) ?_
  simp -implicitDefEqProofs
  first|refine CallK.same (h1) rfl rfl ?_|refine CallQ.same (h1) rfl rfl ?_|refine CallQG.same _ (h1) rfl ?_|refine CallG.same _ (h1) rfl ?_|refine CallK.pv (h1) rfl rfl ?_
  simp -implicitDefEqProofs
  refine⟨fun _=>?_,fun q1 q2=>absurd ⟨by omega,by omega⟩ hin⟩
  refine EndZ.ret [] (.tup [.agg [.int .u8 0,.int .i64 0],.int .i64 1]) (by simp) (by simp)
set_option maxRecDepth 8000 in
set_option maxHeartbeats 4000000 in
theorem windowAt_spec (p:Past) (r:Int) (six:Bool) (x:Addr4) (a b t:Int) (hw:p.wf) (hx:x.wf):
  FSpec Tryz.prog 7 [p.av,.int .i64 r,.bool six,x.av,.agg [.int .i64 a,.int .i64 b],.int .i64 t] [kindsO] (.bool true) [kindsO]:=by
 have h1:=verdictsP_spec p r six x a b hw hx
 have h3:=lives26_spec
 refine FSpec.of_o (q:=[]) Tryz.func7 (by kernel_rfl) rfl Tryz.ntmps7 Tryz.results7 hP (by kernel_rfl) (by simp) (by first|rfl|simp) ?_
 simp -implicitDefEqProofs [kindsO]
 refine CallO.mk [] [0] h3 (by simp) rfl (by simp[kindsO]) (by simp[kindsO]) (by simp[kindsO]) ?_
 simp -implicitDefEqProofs [kindsO]
 refine CallO.mk [] [0] h1 (by simp) rfl (by simp[kindsO]) (by simp[kindsO]) (by simp[kindsO]) ?_
 simp -implicitDefEqProofs [kindsO]
 refine⟨fun h=>?_,fun h=>?_⟩
 ·have hv:verdL p r six x a b=[]:=by unfold verdL;rw[if_neg h]
  refine EndO.ret [] [0] (.bool true) (by simp[hv]) ?_
  simp -implicitDefEqProofs [kindsO]
 have ha:askV p r six x a b=0:=by
  unfold verdE at h
  split at h
  ·assumption
  ·exact h
 have hup:=verdL_up h
 have hvl:verdL p r six x a b=lineP p (fun n=>(wayN n six x r).2) a b:=by unfold verdL;rw[if_pos h]
 obtain⟨hok,hr,ho,g3,g4,g5⟩:=askV_zero ha
 have hab:=oneI_le ho
 have hti:Tile a none (verdL p r six x a b) (b+1):=by rw[hvl];exact lineP_tile p _ hab.2.1
 have hri:∀y∈verdL p r six x a b,rightV y.v=true:=by rw[hvl];exact vd_right ha
 have hva:PcVal (fun t=>(wayN (thenF p t) six x r).2) (verdL p r six x a b):=by rw[hvl];exact lineP_val p _ hab.2.1
 have h4:=checkW_spec (verdL p r six x a b) a b ho hti hup.2.2.2 hri
 have h5:=atW_spec (verdL p r six x a b) a b t _ ho hti hup.2.2.2 hri hva
 generalize verdL p r six x a b=L at*
 first|refine CallK.same (h4) rfl rfl ?_|refine CallQ.same (h4) rfl rfl ?_|refine CallQG.same _ (h4) rfl ?_|refine CallG.same _ (h4) rfl ?_|refine CallK.pv (h4) rfl rfl ?_
 simp -implicitDefEqProofs [kindsO]
 by_cases hin:a≤t∧t≤b
 ·rw[if_pos hin,if_pos hin]at h5
  have q1:¬t<a:=by omega
  have q2:¬b<t:=by omega
  have hT:askT p t=0:=by unfold askT;rw[if_neg (by omega),if_neg (by omega)]
  have h6:=atO_spec p t (fun e he=>(hw.2 e he).1)
  rw[if_pos hok,if_pos ⟨hok,hT⟩,hT]at h6
  have hN:=(thenF_all hok t).2.2
  have h7:=walk_spec (thenF p t) six x r (then_wf hw t) hx (rightN_of hN hr) ⟨by omega,by omega⟩
  have h8:=traceP_spec p r six x t hw hx
  have hE:traceE p r six x t=0:=by unfold traceE;rw[if_pos ⟨hok,hr⟩,if_neg (by omega),hT]
  have hR:traceR p r six x t=wayN (thenF p t) six x r:=by unfold traceR;rw[if_pos hE]
  rw[hE,hR]at h8
  change FSpec _ _ _ _ (.tup [(wayN (thenF p t) six x r).2.av,_]) _ at h5
  generalize thenF p t=N at*
  generalize wayN N six x r=W at*
  refine CallK.v0 h5 rfl (by simp) rfl ?_
  simp -implicitDefEqProofs [kindsO,q1,q2]
  refine CallK.v0 h6 rfl (by simp) rfl ?_
  simp -implicitDefEqProofs [kindsO]
  refine CallO.mk [] [0] h7 (by simp) rfl (by simp[kindsO]) (by simp[kindsO]) (by simp[kindsO]) ?_
  simp -implicitDefEqProofs [kindsO]
  refine CallO.mk [] [0] h8 (by simp) rfl (by simp[kindsO]) (by simp[kindsO]) (by simp[kindsO]) ?_
  simp -implicitDefEqProofs [kindsO]
  refine EndO.ret [] [0] (.bool true) (by simp) ?_
  simp -implicitDefEqProofs [kindsO]
 ·rw[if_neg hin,if_neg hin]at h5
  refine CallK.v0 h5 rfl (by simp) rfl ?_
  simp -implicitDefEqProofs [kindsO]
  refine⟨fun _=>?_,fun q1 q2=>absurd ⟨by omega,by omega⟩ hin⟩
  refine EndO.ret [] [0] (.bool true) (by simp) ?_
  simp -implicitDefEqProofs [kindsO]
end Go.Am
namespace Go.Am
open Go.Proofs
theorem args_wat {xs:List (List IV)} (h:hasArgs [pastSh,[.int .i64],[.bool],addrSh,ivlSh,[.int .i64]] xs):∃(p:Past) (r:Int) (s:Bool) (x:Addr4) (w:Int×Int) (t:Int),p.wf∧x.wf∧argsAV Tryz.prog [28,3,4,31,43,2] xs=[p.av,.int .i64 r,.bool s,x.av,.agg [.int .i64 w.1,.int .i64 w.2],.int .i64 t]:=by
 obtain⟨y0,_,rfl,g0,h⟩:=hasArgs_cons h
 obtain⟨y1,_,rfl,g1,h⟩:=hasArgs_cons h
 obtain⟨y2,_,rfl,g2,h⟩:=hasArgs_cons h
 obtain⟨y3,_,rfl,g3,h⟩:=hasArgs_cons h
 obtain⟨y4,_,rfl,g4,h⟩:=hasArgs_cons h
 obtain⟨y5,_,rfl,g5,h⟩:=hasArgs_cons h
 cases h
 obtain⟨p,h0,e0⟩:=past_arg y0 g0
 obtain⟨r,e1⟩:=num_arg y1 g1
 obtain⟨s,e2⟩:=boolV_arg y2 g2
 obtain⟨x,h3,e3⟩:=addrV_arg y3 g3
 obtain⟨w,e4⟩:=ivlP_arg y4 g4
 obtain⟨t,e5⟩:=int_arg y5 g5
 refine⟨p,r,s,x,w,t,h0,h3,?_⟩
 simp only[argsAV,e0,e1,e2,e3,e4,e5]
end Go.Am
