import Derived.Test.YtcognmloglhpcaaGreatDoorWD6
import Derived.Test.YtcognmloglhpcaaGreatDoorWD7
import Derived.Test.YtcognmloglhpcaaGreatDoorWD8
set_option linter.unusedVariables false
set_option linter.unusedSimpArgs false
set_option linter.unusedSectionVars false
namespace Go.Am
open Go.Proofs
attribute [local simp] kindsO
theorem contI_spec (l:List Int) (x:Int):FSpec Tryz.prog 91 [.im (.sl 1 (rowI l)),.int .i64 x] [] (.bool (decide (0≤onL l x 0))) []:=by
 have h1:=indexI_spec l x
 refine FSpec.of_flat (q:=[]) Tryz.func91 (by kernel_rfl) rfl Tryz.ntmps91 Tryz.results91 hP (by kernel_rfl) (by simp) (by first|rfl|simp) ?_
 simp -implicitDefEqProofs
 first|refine CallK.same (h1) rfl rfl ?_|refine CallQ.same (h1) rfl rfl ?_|refine CallQG.same _ (h1) rfl ?_|refine CallG.same _ (h1) rfl ?_|refine CallK.pv (h1) rfl rfl ?_
 simp -implicitDefEqProofs
def hitB (e:Ev) (s:Int×List Int):Bool:=decide (s.1=e.time)&&decide (0≤onL s.2 e.router 0)
@[simp] def evB (e:Ev):AObj:=.box 79 (e.iv.map .im)
theorem cause1_spec (s:Int×List Int) (e:Ev):FSpec Tryz.prog 90 [.agg [.int .i64 s.1,.im (.sl 1 (rowI s.2))],.ptr 0 0] [evB e] (.bool (hitB e s)) [evB e]:=by
 have h1:=contI_spec s.2 e.router
 refine FSpec.of_o (q:=[]) Tryz.func90 (by kernel_rfl) rfl Tryz.ntmps90 Tryz.results90 hP (by kernel_rfl) (by simp) (by first|rfl|simp) ?_
 simp -implicitDefEqProofs
 first|refine CallK.same (h1) rfl rfl ?_|refine CallQ.same (h1) rfl rfl ?_|refine CallQG.same _ (h1) rfl ?_|refine CallG.same _ (h1) rfl ?_|refine CallK.pv (h1) rfl rfl ?_
 simp -implicitDefEqProofs
 refine EndO.ret [] [0] (.bool (hitB e s)) (by
  have:(s.1==e.time)=decide (s.1=e.time):=by by_cases h:s.1=e.time<;>simp[h]
  simp[hitB,pk,this]) ?_
 simp -implicitDefEqProofs
def idxS (e:Ev):List (Int×List Int)→Int→Int
 |[],_=> -1
 |x::l,k=>if hitB e x=true then k else idxS e l (k+1)
theorem idxS_any (e:Ev):∀(l:List (Int×List Int)) (k:Int),0≤k→l.any (hitB e)=decide (0≤idxS e l k)
 |[],k,_=>by simp[idxS]
 |x::l,k,hk=>by
  rw[idxS,List.any_cons]
  by_cases h:hitB e x=true
  ·rw[if_pos h,h];simp[hk]
  ·rw[if_neg h,←idxS_any e l (k+1) (by omega)];simp[h]
theorem indexS_spec (l:List (Int×List Int)) (e:Ev) (hl:l.length≤100000):
  FSpec Tryz.prog 165 [.im (.sl 2 (l.map stepIv)),.fn 90 [.ptr 0 0]] [evB e] (.int .i64 (idxS e l 0)) [evB e]:=by
 refine FSpec.of_o (q:=[]) Tryz.func165 (by kernel_rfl) rfl Tryz.ntmps165 Tryz.results165 hP (by kernel_rfl) (by simp) (by first|rfl|simp) ?_
 simp
 refine LoopK.os (fun k:Nat=>[(0,.im (.sl 2 (l.map stepIv))),(1,.fn 90 [.ptr 0 0]),(7,.int .i64 l.length),(8,.int .i64 k)])
  (fun _=>[evB e])
  (fun k=>k≤l.length∧idxS e (l.drop k) k=idxS e l 0) (fun k=>l.length-k) 0 [0] ⟨Nat.zero_le _,by simp⟩ (by simp) ?_
 rintro k ⟨hk,hR⟩
 by_cases hlt:k<l.length
 ·have e1:IntKind.i64.wrap (k+1)=(k+1:Nat):=wrap64 (by omega) (by omega)
  rw[List.drop_eq_getElem_cons hlt,idxS]at hR
  obtain⟨y,hy⟩:∃y,l[k]=y:=⟨_,rfl⟩
  rw[hy]at hR
  have h1:=cause1_spec y e
  simp -implicitDefEqProofs [hlt,e1,hy]
  refine CallO.mk [] [0] h1 (by simp) rfl (by simp) (by simp) (by simp) ?_
  simp -implicitDefEqProofs
  refine⟨fun h=>?_,fun h=>?_⟩
  ·rw[if_pos h]at hR
   refine EndO.ret [] [0] _ rfl ?_
   simp[←hR]
  ·rw[if_neg (by simp[h])]at hR
   refine Again.os (k+1) [0] ⟨hlt,by simpa using hR⟩ (by omega) ?_
   simp[e1]
 ·have hkk:k=l.length:=by omega
  subst hkk
  rw[List.drop_length,idxS]at hR
  simp
  refine EndO.ret [] [0] _ rfl ?_
  simp[←hR]
theorem containsS_spec (l:List (Int×List Int)) (e:Ev) (hl:l.length≤100000):
  FSpec Tryz.prog 89 [.im (.sl 2 (l.map stepIv)),.fn 90 [.ptr 0 0]] [evB e] (.bool (l.any (hitB e))) [evB e]:=by
 rw[idxS_any e l 0 (Int.le_refl _)]
 refine FSpec.of_o (q:=[]) Tryz.func89 (by kernel_rfl) rfl Tryz.ntmps89 Tryz.results89 hP (by kernel_rfl) (by simp) (by first|rfl|simp) ?_
 simp
 refine CallO.mk [] [0] (indexS_spec l e hl) (by simp) rfl (by simp) (by simp) (by simp) ?_
 simp
 refine EndO.ret [] [0] (.bool (decide (0≤idxS e l 0))) (by simp) ?_
 simp
def causeL (p:Past) (r:Int) (six:Bool) (x:Addr4) (a b:Int):List Ev:=if verdE p r six x a b=0 then p.evs.filter fun e=>(stepsPk p r six x (lineP p (fun n=>(wayN n six x r).2) a b)).any (hitB e)else[]
set_option maxRecDepth 8000 in
set_option maxHeartbeats 4000000 in
theorem causesP_spec (p:Past) (r:Int) (six:Bool) (x:Addr4) (a b:Int) (hw:p.wf) (hx:x.wf):
  FSpec Tryz.prog 32 [p.av,.int .i64 r,.bool six,x.av,.agg [.int .i64 a,.int .i64 b]] [kindsO]
   (.tup [.im (.sl 12 ((causeL p r six x a b).map Ev.iv)),.int .i64 (verdE p r six x a b)]) [kindsO]:=by
 have h1:=verdictsP_spec p r six x a b hw hx
 refine FSpec.of_o (q:=[(5,.m [.p [1] [],.p [1] [],.p [] [],.p [] [],.p [] [],.e [38,39,40]])]) Tryz.func32 (by kernel_rfl) rfl Tryz.ntmps32 Tryz.results32 hP (by kernel_rfl) (by simp) (by first|rfl|simp) ?_
 simp -implicitDefEqProofs
 refine CallO.mk [] [0] h1 (by simp) rfl (by simp) (by simp) (by simp) ?_
 simp -implicitDefEqProofs
 refine⟨fun h=>?_,fun h=>?_⟩
 ·refine EndO.ret [] [0] (.tup [.im (.sc (.slice none 0 0)),.int .i64 (verdE p r six x a b)]) (by simp) ?_
  simp -implicitDefEqProofs [causeL,h]
 have ha:askV p r six x a b=0:=by
  unfold verdE at h
  split at h
  ·assumption
  ·exact h
 obtain⟨hok,hr,ho,h3,h4,h5⟩:=askV_zero ha
 have hab:=oneI_le ho
 have h6:=verdPk_spec p r six x a b hw hx ha
 have hll:=lineP_len p (fun n=>(wayN n six x r).2) a b
 have hl1:=okP_len hok
 have hl2:=timesF_len p.evs a b
 have h7:=stepsPk_spec p r six x (lineP p (fun n=>(wayN n six x r).2) a b) a b hw hx ha (lineP_tile p _ hab.2.1) (by omega)
 have hsl:(stepsPk p r six x (lineP p (fun n=>(wayN n six x r).2) a b)).length≤2000:=by unfold stepsPk;simp;omega
 unfold causeL
 rw[if_pos h,h]
 generalize stepsPk p r six x (lineP p (fun n=>(wayN n six x r).2) a b)=S at*
 generalize lineP p (fun n=>(wayN n six x r).2) a b=L at*
 refine CallO.mk [] [0] h6 (by simp) rfl (by simp) (by simp) (by simp) ?_
 simp -implicitDefEqProofs
 refine CallO.mk [] [0,5,6] h7 (by simp) rfl (by simp) (by simp) (by simp) ?_
 simp -implicitDefEqProofs
 refine LoopK.nil (.sl 16 79 12) ?_
 simp -implicitDefEqProofs
 refine LoopK.os (fun k:Nat=>[(15,.im (.sl 2 (S.map stepIv))),(16,.row 1),(44,.im (.sl 12 (p.evs.map Ev.iv))),(45,.int .i64 p.evs.length),(46,.int .i64 k)])
  (fun k=>[kindsO,.row 79 12 (((p.evs.take k).filter fun e=>S.any (hitB e)).map Ev.iv)])
  (fun k=>k≤p.evs.length) (fun k=>p.evs.length-k) 0 [0,7] (Nat.zero_le _) (by simp) ?_
 intro k hk
 by_cases hlt:k<p.evs.length
 ·have e1:IntKind.i64.wrap (k+1)=(k+1:Nat):=wrap64 (by omega) (by omega)
  have ht:p.evs.take (k+1)=p.evs.take k++[p.evs[k]]:=by rw[List.take_add_one,List.getElem?_eq_getElem hlt];rfl
  obtain⟨y,hy⟩:∃y,p.evs[k]=y:=⟨_,rfl⟩
  rw[hy]at ht
  have g1:=containsS_spec S y (by omega)
  have ht2:((p.evs.take (k+1)).filter fun e=>S.any (hitB e))=((p.evs.take k).filter fun e=>S.any (hitB e))++(if S.any (hitB y)=true then[y]else[]):=by
   rw[ht,List.filter_append,List.filter_cons]
   by_cases h:S.any (hitB y)=true<;>simp[h]
  have hfl:((p.evs.take k).filter fun e=>S.any (hitB e)).length≤1024:=by
   have:=List.length_filter_le (fun e=>S.any (hitB e)) (p.evs.take k)
   rw[List.length_take]at this
   omega
  generalize ((p.evs.take k).filter fun e=>S.any (hitB e))=out at*
  generalize S.any (hitB y)=B at*
  simp -implicitDefEqProofs [hlt,hy]
  refine CallO.mk [] [2] g1 (by simp) rfl (by simp) (by simp) (by simp) ?_
  simp -implicitDefEqProofs
  refine⟨fun h=>⟨⟨by omega,by unfold maxLen;omega⟩,?_⟩,fun h=>?_⟩
  ·rw[if_pos h]at ht2
   refine Again.os (k+1) [0,4] hlt (by omega) ?_
   simp -implicitDefEqProofs [e1,ht2]
  ·rw[if_neg (by simp[h])]at ht2
   refine Again.os (k+1) [0,1] hlt (by omega) ?_
   simp -implicitDefEqProofs [e1,ht2]
 ·have hkk:k=p.evs.length:=by omega
  subst hkk
  simp -implicitDefEqProofs
  refine EndO.ret [1] [0] (.tup [.row 1,.int .i64 0]) (by simp) ?_
  simp -implicitDefEqProofs
end Go.Am
namespace Go.Am
open Go.Proofs
def condD (p:Past) (r:Int) (six:Bool) (x:Addr4) (e:Ev):Bool:=(wayN (thenF p (e.time-1)) six x r).1.any (fun y=>decide (y=e.router))&&decide (doesF (thenF p (e.time-1)) e.router six x≠doesF (thenF p e.time) e.router six x)
def innerD (c:Bool) (e:Ev) (l:List (Pc Verd)):List Ev:=(l.filter fun y=>decide (y.a=e.time)&&c).map fun _=>e
theorem innerD_len (c:Bool) (e:Ev) (l:List (Pc Verd)):(innerD c e l).length≤l.length:=by
 unfold innerD
 rw[List.length_map]
 exact List.length_filter_le _ _
def docC (p:Past) (r:Int) (six:Bool) (x:Addr4) (L:List (Pc Verd)) (es:List Ev):List Ev:=es.flatMap fun e=>innerD (condD p r six x e) e L.tail
theorem docC_len (p:Past) (r:Int) (six:Bool) (x:Addr4) (L:List (Pc Verd)):∀es:List Ev,(docC p r six x L es).length≤es.length*L.length
 |[]=>by simp[docC]
 |e::es=>by
  have h1:=docC_len p r six x L es
  have h2:=innerD_len (condD p r six x e) e L.tail
  rw[List.length_tail]at h2
  have:docC p r six x L (e::es)=innerD (condD p r six x e) e L.tail++docC p r six x L es:=rfl
  rw[this,List.length_append,List.length_cons,Nat.add_mul]
  omega
theorem innerD_one (c:Bool) (e:Ev):∀{l:List (Pc Verd)},(l.Pairwise fun x y=>x.b<y.a)→(∀y∈l,y.a≤y.b)→innerD c e l=if l.any (fun y=>decide (y.a=e.time)&&c)=true then[e]else[]
 |[],_,_=>rfl
 |y::l,hp,hb=>by
  obtain⟨p1,p2⟩:=List.pairwise_cons.1 hp
  have ih:=innerD_one c e p2 fun z hz=>hb z (by simp[hz])
  have hs:innerD c e (y::l)=(if(decide (y.a=e.time)&&c)=true then[e]else[])++innerD c e l:=by
   unfold innerD
   rw[List.filter_cons]
   split<;>simp
  rw[hs,List.any_cons]
  by_cases h:(decide (y.a=e.time)&&c)=true
  ·have hn:l.any (fun y=>decide (y.a=e.time)&&c)=false:=by
    rw[List.any_eq_false]
    intro z hz
    have h1:=p1 z hz
    have h2:=hb y (by simp)
    simp only[Bool.and_eq_true,decide_eq_true_eq]at h⊢
    omega
   rw[ih,hn,if_pos h,h]
   simp
  ·rw[ih,if_neg h]
   simp only[Bool.not_eq_true]at h
   rw[h]
   simp
theorem hit_cond (p:Past) (r:Int) (six:Bool) (x:Addr4) (e:Ev) (y:Pc Verd):hitB e (y.a,turnPk (thenF p (y.a-1)) (thenF p y.a) r six x)=(decide (y.a=e.time)&&condD p r six x e):=by
 unfold hitB condD
 by_cases h:y.a=e.time
 ·simp only[h,decide_true,Bool.true_and]
  rw[Bool.eq_iff_iff]
  simp only[decide_eq_true_eq,onL_neg _ _ _ (Int.le_refl _),turnPk,List.mem_filter,Bool.and_eq_true,List.any_eq_true,ne_eq]
  constructor
  ·rintro⟨h1,h2⟩;exact⟨⟨_,h1,rfl⟩,h2⟩
  ·rintro⟨⟨z,h1,rfl⟩,h2⟩;exact⟨h1,h2⟩
 ·simp[h]
theorem docC_eq (p:Past) (r:Int) (six:Bool) (x:Addr4) {L:List (Pc Verd)} {a e:Int} (ht:Tile a none L e) (es:List Ev):docC p r six x L es=es.filter fun e=>(stepsPk p r six x L).any (hitB e):=by
 have hu:=tile_up ht
 have key:∀e,innerD (condD p r six x e) e L.tail=if(stepsPk p r six x L).any (hitB e)=true then[e]else[]:=by
  intro e
  rw[innerD_one _ _ (hu.2.sublist (List.tail_sublist L)) (fun y hy=>(hu.1 y (List.mem_of_mem_tail hy)).2.1)]
  have:(stepsPk p r six x L).any (hitB e)=L.tail.any fun y=>decide (y.a=e.time)&&condD p r six x e:=by
   unfold stepsPk
   rw[List.any_map]
   congr 1
   funext y
   exact hit_cond p r six x e y
  rw[this]
 induction es with
 |nil=>rfl
 |cons e es ih=>
  have:docC p r six x L (e::es)=innerD (condD p r six x e) e L.tail++docC p r six x L es:=rfl
  rw[this,ih,key,List.filter_cons]
  split<;>simp
set_option maxRecDepth 8000 in
set_option maxHeartbeats 4000000 in
theorem causesD_spec (p:Past) (r:Int) (six:Bool) (x:Addr4) (a b:Int) (hw:p.wf) (hx:x.wf):
  FSpec Tryz.prog 33 [p.av,.int .i64 r,.bool six,x.av,.agg [.int .i64 a,.int .i64 b]] []
   (.tup [.im (.sl 12 ((causeL p r six x a b).map Ev.iv)),.int .i64 (verdE p r six x a b)]) []:=by
 have h1:=verdictsD_spec p r six x a b hw hx
 refine FSpec.of_z (q:=[(12,.m [.p [] [],.p [] [],.p [] [],.p [] [],.e [64,67],.p [0] [],.p [0] [],.p [0] [],.e [69,71],.a 0 2,.a 1 2]),(14,.m [.p [] [],.p [] [],.p [] [],.p [] [],.p [] [],.e [81,83,84,85],.p [0] [],.p [0] [],.p [0] [],.p [0] [],.p [0] [],.e [87,89,90,91],.a 0 2,.a 1 2])]) Tryz.func33 (by kernel_rfl) rfl Tryz.ntmps33 Tryz.results33 hP (by kernel_rfl) (by simp) (by first|rfl|simp) ?_
 simp -implicitDefEqProofs
 first|refine CallK.same (h1) rfl rfl ?_|refine CallQ.same (h1) rfl rfl ?_|refine CallQG.same _ (h1) rfl ?_|refine CallG.same _ (h1) rfl ?_|refine CallK.pv (h1) rfl rfl ?_
 simp -implicitDefEqProofs
 refine⟨fun h=>?_,fun h=>?_⟩
 ·refine EndZ.ret [] (.tup [.im (.sc (.slice none 0 0)),.int .i64 (verdE p r six x a b)]) (by simp) (by simp[causeL,h])
 have ha:askV p r six x a b=0:=by
  unfold verdE at h
  split at h
  ·assumption
  ·exact h
 obtain⟨hok,hr,ho,h3,h4,h5⟩:=askV_zero ha
 have hab:=oneI_le ho
 have hvl:verdL p r six x a b=lineP p (fun n=>(wayN n six x r).2) a b:=by unfold verdL;rw[if_pos h]
 have hti:=lineP_tile p (fun n=>(wayN n six x r).2) hab.2.1
 have hll:=(verdL_up h).2.2.2
 have hl1:=okP_len hok
 have hC:causeL p r six x a b=docC p r six x (verdL p r six x a b) p.evs:=by
  unfold causeL
  rw[if_pos h,hvl,docC_eq p r six x hti]
 rw[hC,h]
 rw[←hvl]at hti
 have hi:=tile_at hti
 generalize verdL p r six x a b=L at*
 refine LoopK.nil (.sl 14 79 12) ?_
 simp -implicitDefEqProofs
 refine LoopK.os (fun k:Nat=>[(1,.int .i64 r),(2,.bool six),(5,.ptr 0 0),(8,.ptr 1 0),(12,.im (.sl 4 (L.map Pc.ivVd))),(14,.row 2),(41,.im (.sl 12 (p.evs.map Ev.iv))),(42,.int .i64 p.evs.length),(43,.int .i64 k)])
  (fun k=>[pastO p,.box 31 [.int .u64 x.hi,.int .u64 x.lo],.row 79 12 ((docC p r six x L (p.evs.take k)).map Ev.iv)])
  (fun k=>k≤p.evs.length) (fun k=>p.evs.length-k) 0 [0,1,3] (Nat.zero_le _) (by simp[docC]) ?_
 intro k hk
 by_cases hlt:k<p.evs.length
 ·have e1:IntKind.i64.wrap (k+1)=(k+1:Nat):=wrap64 (by omega) (by omega)
  have ht:p.evs.take (k+1)=p.evs.take k++[p.evs[k]]:=by rw[List.take_add_one,List.getElem?_eq_getElem hlt];rfl
  obtain⟨e,he⟩:∃e,p.evs[k]=e:=⟨_,rfl⟩
  rw[he]at ht
  have hdl:=docC_len p r six x L (p.evs.take k)
  rw[List.length_take]at hdl
  have hdl':(docC p r six x L (p.evs.take k)).length≤1048576:=Nat.le_trans hdl (Nat.mul_le_mul (by omega:min k p.evs.length≤1024) hll)
  have hs:docC p r six x L (p.evs.take (k+1))=docC p r six x L (p.evs.take k)++innerD (condD p r six x e) e L.tail:=by
   rw[ht];simp[docC]
  generalize docC p r six x L (p.evs.take k)=D at*
  simp -implicitDefEqProofs [hlt,he]
  refine LoopK.os (fun i:Nat=>[(1,.int .i64 r),(2,.bool six),(5,.ptr 0 0),(8,.ptr 1 0),(12,.im (.sl 4 (L.map Pc.ivVd))),(14,.row 2),(16,.ptr 3 0),(41,.im (.sl 12 (p.evs.map Ev.iv))),(42,.int .i64 p.evs.length),(43,.int .i64 k),(47,.im (.sl 4 (L.map Pc.ivVd))),(48,.int .i64 L.length),(49,.int .i64 i)])
   (fun i=>[pastO p,.box 31 [.int .u64 x.hi,.int .u64 x.lo],.row 79 12 ((D++innerD (condD p r six x e) e (L.take i).tail).map Ev.iv),.box 79 (e.iv.map .im)])
   (fun i=>i≤L.length) (fun i=>L.length-i) 0 [0,1,2,3] (Nat.zero_le _) (by simp[innerD]) ?_
  intro i hi'
  by_cases hil:i<L.length
  ·have e1i:IntKind.i64.wrap (i+1)=(i+1:Nat):=wrap64 (by omega) (by omega)
   have hti:L.take (i+1)=L.take i++[L[i]]:=by rw[List.take_add_one,List.getElem?_eq_getElem hil];rfl
   obtain⟨i1,i2,i3,_,_,i6⟩:=hi i hil
   obtain⟨y,hy⟩:∃y,L[i]=y:=⟨_,rfl⟩
   have hIl:=innerD_len (condD p r six x e) e (L.take i).tail
   rw[List.length_tail,List.length_take]at hIl
   cases i with
   |zero=>
    simp -implicitDefEqProofs [hil,hy]
    refine Again.os 1 [0,1,2,3] hil (by omega) ?_
    rw[hy]at hti
    simp -implicitDefEqProofs [show IntKind.i64.wrap 1=1 by decide,hti,innerD]
   |succ j=>
    obtain⟨i7,_⟩:=i6 j (by omega) rfl
    obtain⟨z1,z2,_⟩:=hi j (by omega)
    rw[hy]at hti i1 i2 i3 i7
    have hst:innerD (condD p r six x e) e (L.take (j+1+1)).tail=innerD (condD p r six x e) e (L.take (j+1)).tail++(if(decide (y.a=e.time)&&condD p r six x e)=true then[e]else[]):=by
     rw[hti]
     have:(L.take (j+1)++[y]).tail=(L.take (j+1)).tail++[y]:=by
      cases L with
      |nil=>simp at hil
      |cons z L=>simp
     rw[this]
     unfold innerD
     rw[List.filter_append,List.map_append,List.filter_cons]
     split<;>simp
    generalize innerD (condD p r six x e) e (L.take (j+1)).tail=I at*
    have hj1:(j:Int)+1<L.length:=by omega
    have hj0:0≤(j:Int)+1:=by omega
    have hjn:¬(j:Int)+1=0:=by omega
    by_cases hya:y.a=e.time
    ·have heb:a<e.time:=by omega
     have e3:IntKind.i64.wrap (e.time-1)=e.time-1:=wrap64 (by omega) (by omega)
     have hA1:=okP_len hok
     have g1:=thenr_spec p (e.time-1) hw.1 (fun e he=>(hw.2 e he).2) (by omega)
     have g2:=thenr_spec p e.time hw.1 (fun e he=>(hw.2 e he).2) (by omega)
     have g3:FSpec Tryz.prog 61 [(thenF p (e.time-1)).av,.int .i64 r,.bool six,x.av] [] (.tup [.im (.sl 1 (rowI (wayN (thenF p (e.time-1)) six x r).1)),(wayN (thenF p (e.time-1)) six x r).2.av]) []:=way_spec (thenF p (e.time-1)) r six x (thenF_all hok _).2.2 (then_wf hw _) hx
     have g4:=doesNr_spec (thenF p (e.time-1)) e.router six x (then_wf hw _) hx
     have g5:=doesNr_spec (thenF p e.time) e.router six x (then_wf hw _) hx
     have hwl:=wayN_len (thenF p (e.time-1)) six x r (thenF_all hok _).2.2
     have hcd:condD p r six x e=((wayN (thenF p (e.time-1)) six x r).1.any (fun y=>decide (y=e.router))&&decide (doesF (thenF p (e.time-1)) e.router six x≠doesF (thenF p e.time) e.router six x)):=rfl
     conv at hst=>rhs;rw[hcd]
     generalize wayN (thenF p (e.time-1)) six x r=W at*
     generalize doesF (thenF p (e.time-1)) e.router six x=A at*
     generalize doesF (thenF p e.time) e.router six x=B at*
     generalize thenF p (e.time-1)=M at*
     generalize thenF p e.time=N at*
     obtain⟨W,v⟩:=W
     simp only at g3 hwl hst
     simp -implicitDefEqProofs [hil,hy,hj1,hj0,hjn,hya,e3]
     first|refine CallK.same (g1) rfl rfl ?_|refine CallQ.same (g1) rfl rfl ?_|refine CallQG.same _ (g1) rfl ?_|refine CallG.same _ (g1) rfl ?_|refine CallK.pv (g1) rfl rfl ?_
     simp -implicitDefEqProofs
     first|refine CallK.same (g2) rfl rfl ?_|refine CallQ.same (g2) rfl rfl ?_|refine CallQG.same _ (g2) rfl ?_|refine CallG.same _ (g2) rfl ?_|refine CallK.pv (g2) rfl rfl ?_
     simp -implicitDefEqProofs
     first|refine CallK.same (g3) rfl rfl ?_|refine CallQ.same (g3) rfl rfl ?_|refine CallQG.same _ (g3) rfl ?_|refine CallG.same _ (g3) rfl ?_|refine CallK.pv (g3) rfl rfl ?_
     simp -implicitDefEqProofs
     first|refine CallK.same (g4) rfl rfl ?_|refine CallQ.same (g4) rfl rfl ?_|refine CallQG.same _ (g4) rfl ?_|refine CallG.same _ (g4) rfl ?_|refine CallK.pv (g4) rfl rfl ?_
     simp -implicitDefEqProofs
     first|refine CallK.same (g5) rfl rfl ?_|refine CallQ.same (g5) rfl rfl ?_|refine CallQG.same _ (g5) rfl ?_|refine CallG.same _ (g5) rfl ?_|refine CallK.pv (g5) rfl rfl ?_
     simp -implicitDefEqProofs
     refine LoopK.os (fun q:Nat=>[(1,.int .i64 r),(2,.bool six),(5,.ptr 0 0),(8,.ptr 1 0),(12,.im (.sl 4 (L.map Pc.ivVd))),(14,.row 2),(16,.ptr 3 0),(23,.ptr 4 0),(24,.ptr 5 0),(25,.bool ((W.take q).any fun y=>decide (y=e.router))),(41,.im (.sl 12 (p.evs.map Ev.iv))),(42,.int .i64 p.evs.length),(43,.int .i64 k),(47,.im (.sl 4 (L.map Pc.ivVd))),(48,.int .i64 L.length),(49,.int .i64 (j+1:Nat)),(93,.im (.sl 1 (rowI W))),(94,.int .i64 W.length),(95,.int .i64 q)])
      (fun q=>[pastO p,.box 31 [.int .u64 x.hi,.int .u64 x.lo],.row 79 12 ((D++I).map Ev.iv),.box 79 (e.iv.map .im),.box 171 [.int .u8 A.kind,.int .i64 A.peer],.box 171 [.int .u8 B.kind,.int .i64 B.peer]])
      (fun q=>q≤W.length) (fun q=>W.length-q) 0 [0,1,2,3,8,9] (Nat.zero_le _) (by simp) ?_
     intro q hq
     by_cases hql:q<W.length
     ·have e1q:IntKind.i64.wrap (q+1)=(q+1:Nat):=wrap64 (by omega) (by omega)
      have htq:W.take (q+1)=W.take q++[W[q]]:=by rw[List.take_add_one,List.getElem?_eq_getElem hql];rfl
      obtain⟨z,hz⟩:∃z,W[q]=z:=⟨_,rfl⟩
      have hgz:(rowI W)[q]? =some [.sc (.int .i64 z)]:=by simp[rowI,hql,hz]
      rw[hz]at htq
      have hany:(W.take (q+1)).any (fun y=>decide (y=e.router))=((W.take q).any (fun y=>decide (y=e.router))||decide (z=e.router)):=by rw[htq];simp
      generalize (W.take q).any (fun y=>decide (y=e.router))=O at*
      simp -implicitDefEqProofs [hql,hgz,hz]
      refine Again.os (q+1) [0,1,2,3,4,5] hql (by omega) ?_
      cases O with
      |true=>simp -implicitDefEqProofs [e1q,hany,pk]
      |false=>
       have:(z==e.router)=decide (z=e.router):=by by_cases h:z=e.router<;>simp[h]
       simp -implicitDefEqProofs [e1q,hany,pk,this]
     ·have hqq:q=W.length:=by omega
      subst hqq
      rw[List.take_length]
      generalize (W.any fun y=>decide (y=e.router))=O at*
      simp -implicitDefEqProofs
      simp -implicitDefEqProofs at e1i
      refine⟨fun hO hne=>⟨⟨by omega,by unfold maxLen;omega⟩,?_⟩,fun hn=>?_⟩
      ·have hAB:A≠B:=fun h=>by rw[h]at hne;simp at hne
       rw[if_pos (by simp[hya,hO,hAB])]at hst
       refine Again.os (j+1+1) [0,1,7,3] hil (by omega) ?_
       simp -implicitDefEqProofs [e1i,hst]
      ·rw[if_neg (by
        simp only[Bool.and_eq_true,decide_eq_true_eq]
        rintro⟨_,hO,hAB⟩
        obtain⟨q1,q2⟩:=hn hO
        exact hAB (Hop_ext q1 q2)),List.append_nil]at hst
       refine Again.os (j+1+1) [0,1,2,3] hil (by omega) ?_
       simp -implicitDefEqProofs [e1i,hst]
    ·have hs0:innerD (condD p r six x e) e (L.take (j+1+1)).tail=I:=by rw[hst];simp[hya]
     simp -implicitDefEqProofs [hil,hy,hj1,hj0,hjn,hya]
     refine Again.os (j+1+1) [0,1,2,3] hil (by omega) ?_
     simp -implicitDefEqProofs at e1i
     simp -implicitDefEqProofs [e1i,hs0]
  ·have hii:i=L.length:=by omega
   subst hii
   rw[List.take_length]
   simp -implicitDefEqProofs
   refine Again.os (k+1) [0,1,2] hlt (by omega) ?_
   simp -implicitDefEqProofs [e1,hs]
 ·have hkk:k=p.evs.length:=by omega
  subst hkk
  simp -implicitDefEqProofs
  refine EndZ.ret [2] (.tup [.row 2,.int .i64 0]) (by simp) (by simp)
end Go.Am
namespace Go.Am
open Go.Proofs
attribute [local simp] kindsO
theorem turn_cause {p:Past} (hok:okP p=true) {r:Int} {six:Bool} {x:Addr4} {t:Int} (h:(wayN (thenF p (t-1)) six x r).2≠(wayN (thenF p t) six x r).2):
  ∃e∈p.evs,e.time=t∧hitB e (t,turnPk (thenF p (t-1)) (thenF p t) r six x)=true:=by
 have h1:∃z∈(wayN (thenF p (t-1)) six x r).1,doesF (thenF p (t-1)) z six x≠doesF (thenF p t) z six x:=by
  apply Classical.byContradiction
  intro hn
  exact h (congrArg Prod.snd (way_agree (fun z hz=>Classical.byContradiction fun hd=>hn ⟨z,hz,hd⟩)).symm)
 obtain⟨z,hz,hd⟩:=h1
 have h2:∃e∈p.evs,e.router=z∧¬(e.time≤t-1↔e.time≤t):=by
  apply Classical.byContradiction
  intro hn
  exact hd (then_agree hok (fun e he hr=>Classical.byContradiction fun hc=>hn ⟨e,he,hr,hc⟩) six x)
 obtain⟨e,he,hr,hc⟩:=h2
 have ht:e.time=t:=by omega
 refine⟨e,he,ht,?_⟩
 unfold hitB turnPk
 simp only[Bool.and_eq_true,decide_eq_true_eq,onL_neg _ _ _ (Int.le_refl _),List.mem_filter]
 exact⟨ht.symm,by rw[hr];exact hz,by rw[hr];exact hd⟩
theorem cause_turns {p:Past} {r:Int} {six:Bool} {x:Addr4} {a b:Int} (h:verdE p r six x a b=0):
  (∀(j:Nat) (hj:j+1<(verdL p r six x a b).length),0<(causeL p r six x a b).countP fun e=>decide (e.time=(verdL p r six x a b)[j+1].a))∧
  ∀e∈causeL p r six x a b,(verdL p r six x a b).tail.any (fun y=>decide (y.a=e.time))=true:=by
 have ha:askV p r six x a b=0:=by
  unfold verdE at h
  split at h
  ·assumption
  ·exact h
 obtain⟨hok,hr,ho,h3,h4,h5⟩:=askV_zero ha
 have hab:=oneI_le ho
 have hvl:verdL p r six x a b=lineP p (fun n=>(wayN n six x r).2) a b:=by unfold verdL;rw[if_pos h]
 have hC:causeL p r six x a b=p.evs.filter fun e=>(stepsPk p r six x (verdL p r six x a b)).any (hitB e):=by
  unfold causeL
  rw[if_pos h,hvl]
 have hti:=lineP_tile p (fun n=>(wayN n six x r).2) hab.2.1
 have hva:=lineP_val p (fun n=>(wayN n six x r).2) hab.2.1
 rw[←hvl]at hti hva
 rw[hC]
 generalize verdL p r six x a b=L at*
 have hi:=tile_at hti
 refine⟨fun j hj=>?_,fun e he=>?_⟩
 ·obtain⟨i1,i2,i3,_,_,i6⟩:=hi (j+1) hj
  obtain⟨i7,i8⟩:=i6 j (by omega) rfl
  obtain⟨z1,z2,z3,_⟩:=hi j (by omega)
  have v1:=hva L[j+1] (List.getElem_mem hj) L[j+1].a (Int.le_refl _) i1
  have v2:=hva L[j] (List.getElem_mem _) (L[j+1].a-1) (by omega) (by omega)
  obtain⟨e,he,het,hh⟩:=turn_cause hok (r:=r) (six:=six) (x:=x) (t:=L[j+1].a) (fun hc=>i8 (by rw[←v1,←v2];exact hc.symm))
  rw[List.countP_pos_iff]
  refine⟨e,List.mem_filter.2 ⟨he,?_⟩,by simpa using het⟩
  rw[List.any_eq_true]
  refine⟨_,?_,hh⟩
  unfold stepsPk
  refine List.mem_map.2 ⟨L[j+1],?_,rfl⟩
  cases L with
  |nil=>simp at hj
  |cons z L=>simp
 ·have:=(List.mem_filter.1 he).2
  rw[List.any_eq_true]at this
  obtain⟨s,hs,hh⟩:=this
  unfold stepsPk at hs
  obtain⟨y,hy,rfl⟩:=List.mem_map.1 hs
  rw[List.any_eq_true]
  refine⟨y,hy,?_⟩
  unfold hitB at hh
  simp only[Bool.and_eq_true]at hh
  exact hh.1
end Go.Am
namespace Go.Am
open Go.Proofs
attribute [local simp] kindsO
theorem countP_take {α:Type} (P:α→Bool) {l:List α} {k:Nat} (h:k<l.length):(l.take (k+1)).countP P=(l.take k).countP P+if P l[k]=true then 1 else 0:=by
 rw[List.take_add_one,List.getElem?_eq_getElem h,Option.toList_some,List.countP_append,List.countP_singleton]
set_option maxRecDepth 8000 in
set_option maxHeartbeats 8000000 in
theorem windowCauses_spec (p:Past) (r:Int) (six:Bool) (x:Addr4) (a b:Int) (hw:p.wf) (hx:x.wf):
  FSpec Tryz.prog 8 [p.av,.int .i64 r,.bool six,x.av,.agg [.int .i64 a,.int .i64 b]] [kindsO] (.bool true) [kindsO]:=by
 have h1:=causesP_spec p r six x a b hw hx
 have h2:=causesD_spec p r six x a b hw hx
 have h3:=lives26_spec
 have h4:=verdictsP_spec p r six x a b hw hx
 have h5:=same11_spec (causeL p r six x a b)
 have hcl:(causeL p r six x a b).length≤1024:=by
  unfold causeL
  split
  ·rename_i h
   have ha:askV p r six x a b=0:=by
    unfold verdE at h
    split at h
    ·assumption
    ·exact h
   have h1:=okP_len (askV_zero ha).1
   have h2:=List.length_filter_le (fun e=>(stepsPk p r six x (lineP p (fun n=>(wayN n six x r).2) a b)).any (hitB e)) p.evs
   omega
  ·simp
 have hbad:¬verdE p r six x a b=0→causeL p r six x a b=[]:=fun h=>by unfold causeL;rw[if_neg h]
 have hct:=fun h=>cause_turns (p:=p) (r:=r) (six:=six) (x:=x) (a:=a) (b:=b) h
 have hll:(verdL p r six x a b).length≤1024:=by
  by_cases h:verdE p r six x a b=0
  ·exact(verdL_up h).2.2.2
  ·unfold verdL;rw[if_neg h];simp
 generalize causeL p r six x a b=C at*
 generalize verdL p r six x a b=L at*
 generalize verdE p r six x a b=E at*
 refine FSpec.of_o (q:=[]) Tryz.func8 (by kernel_rfl) rfl Tryz.ntmps8 Tryz.results8 hP (by kernel_rfl) (by simp) (by first|rfl|simp) ?_
 simp -implicitDefEqProofs
 refine CallO.mk [] [0] h1 (by simp) rfl (by simp) (by simp) (by simp) ?_
 simp -implicitDefEqProofs
 refine CallK.v0 h2 rfl (by simp) rfl ?_
 simp -implicitDefEqProofs
 refine CallO.mk [] [0] h3 (by simp) rfl (by simp) (by simp) (by simp) ?_
 simp -implicitDefEqProofs
 refine CallG.on ?_
 first|refine CallK.same (h5) rfl rfl ?_|refine CallQ.same (h5) rfl rfl ?_|refine CallQG.same _ (h5) rfl ?_|refine CallG.same _ (h5) rfl ?_|refine CallK.pv (h5) rfl rfl ?_
 simp -implicitDefEqProofs
 refine CallO.mk [] [0] h4 (by simp) rfl (by simp) (by simp) (by simp) ?_
 simp -implicitDefEqProofs
 refine⟨fun h=>?_,fun h=>?_⟩
 ·refine EndO.ret [] [0] (.bool true) (by simp[hbad h]) ?_
  simp -implicitDefEqProofs
 obtain⟨hc1,hc2⟩:=hct h
 refine LoopK.os (fun k:Nat=>[(11,.im (.sl 12 (C.map Ev.iv))),(15,.im (.sl 4 (L.map Pc.ivVd))),(82,.im (.sl 4 (L.map Pc.ivVd))),(83,.int .i64 L.length),(84,.int .i64 k)])
  (fun k=>[kindsO]) (fun k=>k≤L.length) (fun k=>L.length-k) 0 [0] (Nat.zero_le _) (by simp) ?_
 intro k hk
 by_cases hlt:k<L.length
 ·have e1:IntKind.i64.wrap (k+1)=(k+1:Nat):=wrap64 (by omega) (by omega)
  obtain⟨y,hy⟩:∃y,L[k]=y:=⟨_,rfl⟩
  simp -implicitDefEqProofs [hlt,hy]
  refine LoopK.os (fun q:Nat=>[(11,.im (.sl 12 (C.map Ev.iv))),(15,.im (.sl 4 (L.map Pc.ivVd))),(17,.int .i64 k),(18,.ptr 1 0),(19,.int .i64 ((C.take q).countP fun e=>decide (e.time=y.a))),(82,.im (.sl 4 (L.map Pc.ivVd))),(83,.int .i64 L.length),(84,.int .i64 k),(89,.im (.sl 12 (C.map Ev.iv))),(90,.int .i64 C.length),(91,.int .i64 q)])
   (fun q=>[kindsO,.box 71 [.int .i64 y.a,.int .i64 y.b,.int .u8 y.v.kind,.int .i64 y.v.at_]]) (fun q=>q≤C.length) (fun q=>C.length-q) 0 [0,1] (Nat.zero_le _) (by simp) ?_
  intro q hq
  by_cases hql:q<C.length
  ·have e1q:IntKind.i64.wrap (q+1)=(q+1:Nat):=wrap64 (by omega) (by omega)
   have hcq:=countP_take (fun e:Ev=>decide (e.time=y.a)) hql
   obtain⟨z,hz⟩:∃z,C[q]=z:=⟨_,rfl⟩
   rw[hz]at hcq
   have hcb:(C.take q).countP (fun e=>decide (e.time=y.a))≤q:=by
    have:=List.countP_le_length (p:=fun e:Ev=>decide (e.time=y.a)) (l:=C.take q)
    rw[List.length_take]at this
    omega
   generalize (C.take q).countP (fun e=>decide (e.time=y.a))=m at*
   have e1m:IntKind.i64.wrap (m+1)=(m+1:Nat):=wrap64 (by omega) (by omega)
   simp -implicitDefEqProofs [hql,hz]
   refine⟨fun h'=>?_,fun h'=>?_⟩
   ·refine Again.os (q+1) [0,1] hql (by omega) ?_
    simp -implicitDefEqProofs [e1q,hcq,h',e1m]
   ·refine Again.os (q+1) [0,1] hql (by omega) ?_
    simp -implicitDefEqProofs [e1q,hcq,h']
  ·have hqq:q=C.length:=by omega
   subst hqq
   rw[List.take_length]
   cases k with
   |zero=>
    simp -implicitDefEqProofs
    refine Again.os 1 [0] hlt (by omega) ?_
    simp -implicitDefEqProofs [show IntKind.i64.wrap 1=1 by decide]
   |succ j=>
    have hp:=hc1 j hlt
    rw[hy]at hp
    generalize (C.countP fun e=>decide (e.time=y.a))=m at*
    simp -implicitDefEqProofs
    refine⟨fun h0=>by omega,fun _=>?_⟩
    simp -implicitDefEqProofs at e1
    refine Again.os (j+1+1) [0] hlt (by omega) ?_
    simp -implicitDefEqProofs [e1]
 ·have hkk:k=L.length:=by omega
  subst hkk
  simp -implicitDefEqProofs
  refine LoopK.os (fun k:Nat=>[(15,.im (.sl 4 (L.map Pc.ivVd))),(111,.im (.sl 12 (C.map Ev.iv))),(112,.int .i64 C.length),(113,.int .i64 k)])
   (fun k=>[kindsO]) (fun k=>k≤C.length) (fun k=>C.length-k) 0 [0] (Nat.zero_le _) (by simp) ?_
  intro k hk
  by_cases hlt:k<C.length
  ·have e1:IntKind.i64.wrap (k+1)=(k+1:Nat):=wrap64 (by omega) (by omega)
   have hct:=hc2 C[k] (List.getElem_mem hlt)
   obtain⟨z,hz⟩:∃z,C[k]=z:=⟨_,rfl⟩
   rw[hz]at hct
   simp -implicitDefEqProofs [hlt,hz]
   refine LoopK.os (fun q:Nat=>[(15,.im (.sl 4 (L.map Pc.ivVd))),(23,.ptr 1 0),(24,.bool ((L.take q).tail.any fun y=>decide (y.a=z.time))),(111,.im (.sl 12 (C.map Ev.iv))),(112,.int .i64 C.length),(113,.int .i64 k),(117,.im (.sl 4 (L.map Pc.ivVd))),(118,.int .i64 L.length),(119,.int .i64 q)])
    (fun q=>[kindsO,.box 79 (z.iv.map .im)]) (fun q=>q≤L.length) (fun q=>L.length-q) 0 [0,1] (Nat.zero_le _) (by simp) ?_
   intro q hq
   by_cases hql:q<L.length
   ·have e1q:IntKind.i64.wrap (q+1)=(q+1:Nat):=wrap64 (by omega) (by omega)
    have htq:L.take (q+1)=L.take q++[L[q]]:=by rw[List.take_add_one,List.getElem?_eq_getElem hql];rfl
    obtain⟨y,hy⟩:∃y,L[q]=y:=⟨_,rfl⟩
    rw[hy]at htq
    cases q with
    |zero=>
     simp -implicitDefEqProofs [hql,hy]
     refine Again.os 1 [0,1] hql (by omega) ?_
     simp -implicitDefEqProofs [show IntKind.i64.wrap 1=1 by decide,htq,pk]
    |succ j=>
     have hany:((L.take (j+1+1)).tail.any fun y=>decide (y.a=z.time))=(((L.take (j+1)).tail.any fun y=>decide (y.a=z.time))||decide (y.a=z.time)):=by
      rw[htq]
      have:(L.take (j+1)++[y]).tail=(L.take (j+1)).tail++[y]:=by
       cases L with
       |nil=>simp at hql
       |cons z L=>simp
      rw[this]
      simp
     generalize ((L.take (j+1)).tail.any fun y=>decide (y.a=z.time))=O at*
     have hj1:(j:Int)+1<L.length:=by omega
     have hj0:0≤(j:Int)+1:=by omega
     have hbe:(y.a==z.time)=decide (y.a=z.time):=by by_cases h:y.a=z.time<;>simp[h]
     simp -implicitDefEqProofs at e1q
     simp -implicitDefEqProofs [hql,hy,hj1,hj0]
     refine⟨fun hO=>by simp[hO,impB],?_⟩
     refine Again.os (j+1+1) [0,1] hql (by omega) ?_
     simp -implicitDefEqProofs [e1q,hany,hbe]
   ·have hqq:q=L.length:=by omega
    subst hqq
    rw[List.take_length,hct]
    simp -implicitDefEqProofs
    refine Again.os (k+1) [0] hlt (by omega) ?_
    simp -implicitDefEqProofs [e1]
  ·have hkk:k=C.length:=by omega
   subst hkk
   simp -implicitDefEqProofs
   refine EndO.ret [] [0] (.bool true) (by simp) ?_
   simp -implicitDefEqProofs
end Go.Am
namespace Go.Am
open Go.Proofs
theorem args_walike {xs:List (List IV)} (h:hasArgs [pastSh,[.int .i64],[.bool],addrSh,addrSh,ivlSh] xs):∃(p:Past) (r:Int) (s:Bool) (x:Addr4) (x2:Addr4) (w:Int×Int),p.wf∧x.wf∧x2.wf∧argsAV Tryz.prog [28,3,4,31,31,43] xs=[p.av,.int .i64 r,.bool s,x.av,x2.av,.agg [.int .i64 w.1,.int .i64 w.2]]:=by
 obtain⟨y0,_,rfl,g0,h⟩:=hasArgs_cons h
 obtain⟨y1,_,rfl,g1,h⟩:=hasArgs_cons h
 obtain⟨y2,_,rfl,g2,h⟩:=hasArgs_cons h
 obtain⟨y3,_,rfl,g3,h⟩:=hasArgs_cons h
 obtain⟨y4,_,rfl,g4,h⟩:=hasArgs_cons h
 obtain⟨y5,_,rfl,g5,h⟩:=hasArgs_cons h
 cases h
 obtain⟨p,h0,e0⟩:=past_arg y0 g0
 obtain⟨r,e1⟩:=num_arg y1 g1
 obtain⟨s,e2⟩:=boolV_arg y2 g2
 obtain⟨x,h3,e3⟩:=addrV_arg y3 g3
 obtain⟨x2,h4,e4⟩:=addrV_arg y4 g4
 obtain⟨w,e5⟩:=ivlP_arg y5 g5
 refine⟨p,r,s,x,x2,w,h0,h3,h4,?_⟩
 simp only[argsAV,e0,e1,e2,e3,e4,e5]
end Go.Am
namespace Go.Am
open Go.Proofs
theorem whereF_zero {six:Bool} {l:List Addr4} {a:Addr4} (h:(whereF six l a).2=0):checkC six l=0∧rightA six a=true∧(whereF six l a).1=whereN a l:=by
 unfold whereF at h⊢
 split at h
 ·cases h
 ·rename_i hc
  rw[if_neg hc]
  refine⟨by apply Classical.byContradiction;intro h';exact hc (.inl h'),?_,rfl⟩
  cases hr:rightA six a with
  |true=>rfl
  |false=>exact absurd (.inr hr) hc
set_option maxRecDepth 8000 in
set_option maxHeartbeats 4000000 in
theorem windowAlike_spec (p:Past) (r:Int) (six:Bool) (x y:Addr4) (a b:Int) (hw:p.wf) (hx:x.wf) (hy:y.wf):
  FSpec Tryz.prog 9 [p.av,.int .i64 r,.bool six,x.av,y.av,.agg [.int .i64 a,.int .i64 b]] [kindsO] (.bool true) [kindsO]:=by
 have h1:=verdictsP_spec p r six x a b hw hx
 have h2:=verdictsP_spec p r six y a b hw hy
 have h3:=lives26_spec
 have h4:=cuts_spec p six hw
 have hcw:wfL (if okP p then cutsF p six else[]):=by
  split
  ·rename_i hok;exact(sortA_all (rawC_wf hw hok six)).1
  ·intro c hc;cases hc
 have h5:=where_spec six (if okP p then cutsF p six else[]) x hcw hx
 have h6:=where_spec six (if okP p then cutsF p six else[]) y hcw hy
 have key:okP p=true→(whereF six (if okP p then cutsF p six else[]) x).2=0→(whereF six (if okP p then cutsF p six else[]) y).2=0→(whereF six (if okP p then cutsF p six else[]) x).1=(whereF six (if okP p then cutsF p six else[]) y).1→
   verdE p r six x a b=verdE p r six y a b∧verdL p r six x a b=verdL p r six y a b:=by
  intro hok g1 g2 g3
  obtain⟨c1,c2,c3⟩:=whereF_zero g1
  obtain⟨d1,d2,d3⟩:=whereF_zero g2
  rw[c3,d3]at g3
  have:=where_eq hcw c1 g3
  rw[if_pos hok]at this
  exact verd_same hw hx hy c2 d2 this r a b
 generalize whereF six (if okP p then cutsF p six else[]) x=X at*
 generalize whereF six (if okP p then cutsF p six else[]) y=Y at*
 generalize (if okP p then cutsF p six else[])=C at*
 obtain⟨i,wx⟩:=X
 obtain⟨k,wy⟩:=Y
 simp only at h5 h6 key
 refine FSpec.of_o (q:=[]) Tryz.func9 (by kernel_rfl) rfl Tryz.ntmps9 Tryz.results9 hP (by kernel_rfl) (by simp) (by first|rfl|simp) ?_
 simp -implicitDefEqProofs [kindsO]
 refine CallO.mk [] [0] h3 (by simp) rfl (by simp[kindsO]) (by simp[kindsO]) (by simp[kindsO]) ?_
 simp -implicitDefEqProofs [kindsO]
 refine CallK.v0 h4 rfl (by simp) rfl ?_
 simp -implicitDefEqProofs [kindsO]
 refine CallK.v0 h5 rfl (by simp) rfl ?_
 simp -implicitDefEqProofs [kindsO]
 refine CallK.v0 h6 rfl (by simp) rfl ?_
 simp -implicitDefEqProofs [kindsO]
 refine⟨fun _=>?_,fun g1 g2 g3 g4=>?_⟩
 ·refine EndO.ret [] [0] (.bool true) (by simp) ?_
  simp -implicitDefEqProofs [kindsO]
 obtain⟨q1,q2⟩:=key g1 g2 g3 (by omega)
 have hl1:(verdL p r six x a b).length≤1024:=by
  by_cases h:verdE p r six x a b=0
  ·exact(verdL_up h).2.2.2
  ·unfold verdL;rw[if_neg h];simp
 have h7:=same20_spec (verdL p r six x a b) (by omega)
 rw[←q1,←q2]at h2
 generalize verdL p r six x a b=L at*
 generalize verdE p r six x a b=E at*
 refine CallO.mk [] [0] h1 (by simp) rfl (by simp[kindsO]) (by simp[kindsO]) (by simp[kindsO]) ?_
 simp -implicitDefEqProofs [kindsO]
 refine CallO.mk [] [0] h2 (by simp) rfl (by simp[kindsO]) (by simp[kindsO]) (by simp[kindsO]) ?_
 simp -implicitDefEqProofs [kindsO]
 refine CallG.on ?_
 first|refine CallK.same (h7) rfl rfl ?_|refine CallQ.same (h7) rfl rfl ?_|refine CallQG.same _ (h7) rfl ?_|refine CallG.same _ (h7) rfl ?_|refine CallK.pv (h7) rfl rfl ?_
 simp -implicitDefEqProofs [kindsO]
 refine EndO.ret [] [0] (.bool true) (by simp) ?_
 simp -implicitDefEqProofs [kindsO]
end Go.Am
