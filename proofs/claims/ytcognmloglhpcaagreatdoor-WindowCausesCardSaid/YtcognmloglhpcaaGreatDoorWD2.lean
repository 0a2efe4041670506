import Derived.Lib.AppendZerosOnto
import Derived.Laws.Append
import Derived.Lib.Overlaps
import Derived.Deep.LoopGhost
import Derived.Orders
import Derived.Test.YtcognmloglhpcaaGreatDoorWD1
set_option linter.unusedVariables false
set_option linter.unusedSimpArgs false
set_option linter.unusedSectionVars false
namespace Go.Am
open Go.RowKit
variable {P:Program} {E:Env} {st:St} {m:Nm} {w:World} {a:Act}
def srcP (st:St) (len:Nat):AV→Option (Nat×Nat×List (List IV))
 |.sub n k lo2 len2=>match st.obj n with
  |some (.rowP _ k' _ _ xs)=>if k'=k∧lo2+min len2 len≤xs.length then some (k,len2,(xs.drop lo2).take (min len2 len))else none
  |_=>(rowAt st (.sub n k lo2 len2)).map fun q=>(q.1,q.2.length,q.2.take (min q.2.length len))
 |x=>(rowAt st x).map fun q=>(q.1,q.2.length,q.2.take (min q.2.length len))
def aRP (P:Program) (st:St) (o:Oper):Option (Bool×St):=
 match o.op with
 |.slice t x none (some h) none=>match st.ev x with
  |.row n=>match st.obj n,elt P t,st.ev h with
   |some (.rowP e k l c xs),some e',.im (.sc (.int _ hv))=>if tsz P e'=some k then
     some (decide (0≤hv∧hv≤c),((st.setObj n .gone).new (.rowP e k hv.toNat c xs)).put o.dst (.row st.next))else none
   |_,_,_=>none
  |_=>none
 |.call cl=>match cl.callee,cl.args.toList,cl.argTypes.toList with
  |.builtin .append,[s,x],[t,t']=>match st.ev s with
   |.sub n k lo len=>match st.obj n,elt P t with
    |some (.rowP e k1 l c xs),some e'=>match tsz P e',zcells P e',byt P e' with
     |some k2,some zs,some by'=>if k1=k∧k2=k∧zs.length=k∧0<k then(match st.ev x with
       |.im (.sc (.int _ q))=>if(tint P t').isSome∧zs.all Value.oneCell'=true then
         some (decide (0<q∧lo+len≤xs.length∧c<lo+len+q.toNat∧len+q.toNat≤maxLen∧(len+q.toNat)*by'≤140737488355328),(st.new (.row e' k ((xs.drop lo).take len++List.replicate q.toNat (zs.map .sc)))).put o.dst (.row st.next))else none
       |.sub n2 k3 lo2 len2=>if n2=n∧k3=k∧t'=t then
         some (decide (0<c∧lo=0∧len≤xs.length∧lo2+len2≤xs.length∧len+len2≤c),((st.setObj n .gone).new (.rowP e k (len+len2) c (xs.take len++(xs.drop lo2).take len2++xs.drop (len+len2)))).put o.dst (.row st.next))else none
       |_=>none)else none
     |_,_,_=>none
    |_,_=>none
   |.cut n len=>match rowAt st (.row n),elt P t with
    |some (k,xs),some e'=>match tsz P e',zcells P e',byt P e' with
     |some k2,some zs,some by'=>if k2=k∧zs.length=k∧0<k∧t'=t then(match srcOf st k none (st.ev x)with
       |some ys=>some (decide (len≤xs.length∧0<ys.length∧len+ys.length≤maxLen∧(len+ys.length)*by'≤140737488355328),(st.new (.row e' k (xs.take len++ys))).put o.dst (.row st.next))
       |none=>none)else none
     |_,_,_=>none
    |_,_=>none
   |_=>none
  |.builtin .copy,[d,s],[t,t']=>match subP st (st.ev d),elt P t with
   |some (n,k,lo,len,c),some e'=>match st.obj n,srcP st len (st.ev s)with
    |some (.rowP e k1 l c1 xs),some (k2,sl,ys)=>if k1=k∧c1=c∧tsz P e'=some k∧(k2=k∨ys=[])∧0<k then
      some (decide (lo≤xs.length),(st.setObj n (.rowP e k l c (xs.take lo++ys++xs.drop (lo+ys.length)))).put o.dst (.int .i64 (min sl len:Nat)))else none
    |_,_=>none
   |_,_=>none
  |.builtin .clear,[d],[t]=>match (match st.ev d with
    |.sub n k lo len=>(match st.obj n with
     |some (.row e k1 xs)=>if k1=k then some (n,k,lo,len,e,xs)else none
     |_=>none)
    |_=>none),elt P t with
   |some (n,k,lo,len,e,xs),some e'=>match tsz P e',zcells P e' with
    |some k2,some zs=>if k2=k∧zs.length=k∧zs.all Value.oneCell'=true∧0<k then
      some (decide (lo+len≤xs.length),(st.setObj n (.row e k (xs.take lo++List.replicate len (zs.map .sc)++xs.drop (lo+len)))).put o.dst (.tup []))else none
    |_,_=>none
   |_,_=>match subP st (st.ev d),elt P t with
   |some (n,k,lo,len,c),some e'=>match st.obj n,tsz P e',zcells P e' with
    |some (.rowP e k1 l c1 xs),some k2,some zs=>if k1=k∧c1=c∧k2=k∧zs.length=k∧zs.all Value.oneCell'=true∧0<k then
      some (decide (lo≤xs.length),(st.setObj n (.rowP e k l c (xs.take lo++List.replicate len (zs.map .sc)++xs.drop (lo+len)))).put o.dst (.tup []))else none
    |_,_,_=>none
   |_,_=>none
  |_,_,_=>none
 |_=>none
theorem rowAt_news {Y:Nat→Prop} (sim:SimO Y st m w) {x:AV} {v:Value} (hv:VRep m (seen w (st.X m Y)) x v) {k k2:Nat} {ys:List (List IV)} (hse:rowAt st x=some (k2,ys)) (hk2:k2=k∨ys=[]) {M:Nat} (hMl:M≤ys.length):
  ∃(A2:Option Addr) (c2:Nat) (news:List Value),v=.slice A2 ys.length c2∧news.length=M*k∧(∀w',w'.heap=w.heap→(Builtin.firstCells k M v).run P w'=.ok news.toArray w')∧(∀u∈news,u.oneCell'=true)∧(∀(i:Nat) (z:List IV),ys[i]? =some z→z.length=k)∧
   (∀(i:Nat) (x:List IV) (j:Nat) (y:IV) (u:Value),(ys.take M)[i]? =some x→x[j]? =some y→news[i*k+j]? =some u→IRep (seen w (st.X m Y)) y u):=by
 obtain⟨A2,c2,rfl,hkl,hcells⟩:=rowAt_sound sim hv hse
 by_cases hys:ys=[]
 ·subst hys
  have:M=0:=by simpa using hMl
  subst this
  refine⟨A2,c2,[],rfl,by simp,fun w' _=>?_,by simp,by simp,by simp⟩
  cases A2<;>simp[Builtin.firstCells,loadCells,loadCellsFrom]
 ·have hk2:k2=k:=hk2.resolve_right hys
  subst hk2
  obtain⟨ad,u,rfl,hc⟩:=hcells hys
  have hat:∀p,p<M*k2→∃x y,ys[p / k2]? =some x∧x[p % k2]? =some y:=by
   intro p hp
   have hkp:0<k2:=by
    rcases Nat.eq_zero_or_pos k2 with e|e
    ·subst e;simp at hp
    ·exact e
   have h1:p / k2<M:=(Nat.div_lt_iff_lt_mul hkp).2 hp
   have h2:p % k2<k2:=Nat.mod_lt _ hkp
   have hx:=List.getElem?_eq_getElem (show p / k2<ys.length by omega)
   have hl:=hkl _ _ hx
   exact⟨_,_,hx,List.getElem?_eq_getElem (by omega)⟩
  refine⟨some ad,c2,(List.range (M*k2)).map fun p=>u (p / k2) (p % k2),rfl,by simp,fun w' hw'=>?_,?_,hkl,?_⟩
  ·have hcl:∀p,p<M*k2→w'.cell? (ad.add p)=some (u (p / k2) (p % k2)):=by
    intro p hp
    obtain⟨x,y,h1,h2⟩:=hat p hp
    have:=(hc _ x _ y h1 h2).1
    rw[Nat.mul_comm,Nat.div_add_mod]at this
    exact cell_same (w':=w') (fun b _=>by rw[hw']) this
   simp only[Builtin.firstCells]
   rw[run_loadCells w' ad (M*k2) (fun p=>u (p / k2) (p % k2)) hcl]
  ·intro z hz
   simp only[List.mem_map,List.mem_range]at hz
   obtain⟨p,hp,rfl⟩:=hz
   obtain⟨x,y,h1,h2⟩:=hat p hp
   exact(hc _ x _ y h1 h2).2.2.1
  ·intro i x j y z g1 g2 g3
   rw[List.getElem?_take]at g1
   split at g1
   ·rename_i hiM
    have hxl:=hkl i x g1
    have hj:j<k2:=by have:=(List.getElem?_eq_some_iff.1 g2).1;omega
    have hk2:0<k2:=by omega
    simp only[List.getElem?_map,Option.map_eq_some_iff]at g3
    obtain⟨p,hp,rfl⟩:=g3
    obtain⟨hp,rfl⟩:=range_get hp
    have e1:(i*k2+j) / k2=i:=by rw[Nat.mul_comm,Nat.mul_add_div hk2,Nat.div_eq_of_lt hj,Nat.add_zero]
    have e2:(i*k2+j) % k2=j:=by rw[Nat.mul_comm,Nat.mul_add_mod,Nat.mod_eq_of_lt hj]
    rw[e1,e2]
    exact(hc _ x _ y g1 g2).2.1
   ·cases g1
theorem srcP_news {Y:Nat→Prop} (sim:SimO Y st m w) {x:AV} {v:Value} (hv:VRep m (seen w (st.X m Y)) x v) {k k2 len sl:Nat} {ys:List (List IV)} (hse:srcP st len x=some (k2,sl,ys)) (hk2:k2=k∨ys=[]):
  ∃(A2:Option Addr) (c2:Nat) (news:List Value),v=.slice A2 sl c2∧ys.length=min sl len∧news.length=ys.length*k∧(∀w',w'.heap=w.heap→(Builtin.firstCells k ys.length v).run P w'=.ok news.toArray w')∧(∀u∈news,u.oneCell'=true)∧(∀(i:Nat) (z:List IV),ys[i]? =some z→z.length=k)∧
   (∀(i:Nat) (x:List IV) (j:Nat) (y:IV) (u:Value),ys[i]? =some x→x[j]? =some y→news[i*k+j]? =some u→IRep (seen w (st.X m Y)) y u):=by
 have gen:∀{q:Nat×List (List IV)},rowAt st x=some q→(q.1,q.2.length,q.2.take (min q.2.length len))=(k2,sl,ys)→∃(A2:Option Addr) (c2:Nat) (news:List Value),v=.slice A2 sl c2∧ys.length=min sl len∧news.length=ys.length*k∧(∀w',w'.heap=w.heap→(Builtin.firstCells k ys.length v).run P w'=.ok news.toArray w')∧(∀u∈news,u.oneCell'=true)∧(∀(i:Nat) (z:List IV),ys[i]? =some z→z.length=k)∧
   (∀(i:Nat) (x:List IV) (j:Nat) (y:IV) (u:Value),ys[i]? =some x→x[j]? =some y→news[i*k+j]? =some u→IRep (seen w (st.X m Y)) y u):=by
  rintro⟨k3,zs⟩ hq e
  simp only[Prod.mk.injEq]at e
  obtain⟨rfl,rfl,rfl⟩:=e
  have hl:(zs.take (min zs.length len)).length=min zs.length len:=by simp
  by_cases hk3:k3=k
  ·obtain⟨A2,c2,news,g1,g2,g3,g4,g5,g6⟩:=rowAt_news (P:=P) sim hv hq (.inl hk3) (M:=min zs.length len) (Nat.min_le_left _ _)
   refine⟨A2,c2,news,g1,hl,by rw[hl];exact g2,by rw[hl];exact g3,g4,fun i z hz=>?_,g6⟩
   rw[List.getElem?_take]at hz
   split at hz
   ·exact g5 i z hz
   ·cases hz
  ·have hn:=hk2.resolve_left hk3
   obtain⟨A2,c2,hve,_,_⟩:=rowAt_sound sim hv hq
   refine⟨A2,c2,[],hve,hl,by rw[hn];simp,fun w' _=>?_,by simp,by rw[hn];simp,by rw[hn];simp⟩
   rw[hn,hve]
   cases A2<;>simp[Builtin.firstCells,loadCells,loadCellsFrom]
 unfold srcP at hse
 split at hse
 ·rename_i n k3 lo2 len2
  split at hse
  ·rename_i e k' l c xs ho
   split at hse
   ·rename_i hc
    obtain⟨rfl,hle⟩:=hc
    cases hse
    obtain⟨l0,hl,A,flat,rfl,hlc,hown,hone,hlen,hr⟩:=sim.objs n _ ho
    cases hv with|@sub _ _ _ _ _ _ _ B hm h1 hB=>
    rw[hl]at hm;cases hm
    have hM:min sl len≤sl:=Nat.min_le_left _ _
    have hv2:VRep m (seen w (st.X m Y)) (.sub n k2 lo2 (min sl len)) (.slice B (min sl len) (c-lo2)):=.sub hl (by omega) hB
    have hq:rowAt st (.sub n k2 lo2 (min sl len))=some (k2,(xs.drop lo2).take (min sl len)):=by simp[rowAt,ho,hle]
    have hlt:((xs.drop lo2).take (min sl len)).length=min sl len:=by simp;omega
    obtain⟨A2,c2,news,g1,g2,g3,g4,g5,g6⟩:=rowAt_news (P:=P) sim hv2 hq hk2 (M:=min sl len) (by omega)
    rw[List.take_take,Nat.min_self]at g6
    refine⟨B,c-lo2,news,rfl,hlt,by rw[hlt];exact g2,fun w' hw=>?_,g4,g5,g6⟩
    rw[hlt]
    have:=g3 w' hw
    cases B<;>simpa [Builtin.firstCells]using this
   ·cases hse
  ·simp only[Option.map_eq_some_iff]at hse
   obtain⟨q,hq,e⟩:=hse
   exact gen hq e
 ·simp only[Option.map_eq_some_iff]at hse
  obtain⟨q,hq,e⟩:=hse
  exact gen hq e
theorem rowP_store {C:Addr→Value→Prop} {e:TypeId} {k c g:Nat} {xs ys:List (List IV)} {flat news:List Value} {cur:Array Value} (hh:w.heap[g]? =some (.cells cur e (0,0))) (hcs:cur.size=c*k) (hnc:xs.length≤c) (hcm:c≤maxLen) (hfl:flat.length=xs.length*k) (htake:cur.toList.take (xs.length*k)=flat)
  (hone:∀u,u∈flat→u.oneCell'=true) (hlen:∀(i:Nat) (x:List IV),xs[i]? =some x→x.length=k)
  (hr:∀(i:Nat) (x:List IV) (j:Nat) (y:IV) (u:Value),xs[i]? =some x→x[j]? =some y→flat[i*k+j]? =some u→IRep C y u)
  (hnl:news.length=ys.length*k) (hnone:∀u∈news,u.oneCell'=true) (hyk:∀(i:Nat) (x:List IV),ys[i]? =some x→x.length=k)
  (hyr:∀(i:Nat) (x:List IV) (j:Nat) (y:IV) (u:Value),ys[i]? =some x→x[j]? =some y→news[i*k+j]? =some u→IRep C y u) {lo:Nat} (hlo:lo≤xs.length) (hfit:lo+ys.length≤c):
  (storeCells ⟨g,lo*k,none⟩ news).run P w=.ok () (w.setRow g (cur.toList.take (lo*k)++news++cur.toList.drop (lo*k+news.length)).toArray)∧
  ∃flat',(w.setRow g (cur.toList.take (lo*k)++news++cur.toList.drop (lo*k+news.length)).toArray).ownsRow 0 e k (.slice (some ⟨g,0,none⟩) (xs.take lo++ys++xs.drop (lo+ys.length)).length c) (xs.take lo++ys++xs.drop (lo+ys.length)).length flat'∧
   (∀u,u∈flat'→u.oneCell'=true)∧(∀(i:Nat) (x:List IV),(xs.take lo++ys++xs.drop (lo+ys.length))[i]? =some x→x.length=k)∧
   ∀(i:Nat) (x:List IV) (j:Nat) (y:IV) (u:Value),(xs.take lo++ys++xs.drop (lo+ys.length))[i]? =some x→x[j]? =some y→flat'[i*k+j]? =some u→IRep C y u:=by
 have b1:lo*k≤xs.length*k:=Nat.mul_le_mul_right _ hlo
 have b2:xs.length*k≤c*k:=Nat.mul_le_mul_right _ hnc
 have b3:(lo+ys.length)*k≤c*k:=Nat.mul_le_mul_right _ hfit
 have b4:(lo+ys.length)*k=lo*k+ys.length*k:=Nat.add_mul _ _ _
 have hst:=run_storeCells_at P g (lo*k) e news 0 cur w hh (by omega) hnone
 simp only[Nat.add_zero]at hst
 refine⟨hst,?_⟩
 have hXk:∀(i:Nat) (x:List IV),(xs.take lo++ys++xs.drop (lo+ys.length))[i]? =some x→x.length=k:=by
  intro i x hx
  have hmem:=List.mem_of_getElem? hx
  simp only[List.mem_append]at hmem
  rcases hmem with(h1|h1)|h1
  ·obtain⟨j,hj⟩:=List.getElem?_of_mem (List.mem_of_mem_take h1);exact hlen j x hj
  ·obtain⟨j,hj⟩:=List.getElem?_of_mem h1;exact hyk j x hj
  ·obtain⟨j,hj⟩:=List.getElem?_of_mem (List.mem_of_mem_drop h1);exact hlen j x hj
 have hXl:(xs.take lo++ys++xs.drop (lo+ys.length)).length=max xs.length (lo+ys.length):=by simp;omega
 have hXc:(xs.take lo++ys++xs.drop (lo+ys.length)).length≤c:=by rw[hXl];omega
 generalize hXS:xs.take lo++ys++xs.drop (lo+ys.length)=XS at*
 have hXb:XS.length*k≤c*k:=Nat.mul_le_mul_right _ hXc
 have hflat:flat.take (lo*k)++news++flat.drop (lo*k+news.length)=(cur.toList.take (lo*k)++news++cur.toList.drop (lo*k+news.length)).take (XS.length*k):=by
  have hXm:XS.length*k=max (xs.length*k) (lo*k+ys.length*k):=by
   rw[hXl,←b4]
   rcases Nat.le_total xs.length (lo+ys.length)with h1|h1
   ·rw[Nat.max_eq_right h1,Nat.max_eq_right (Nat.mul_le_mul_right _ h1)]
   ·rw[Nat.max_eq_left h1,Nat.max_eq_left (Nat.mul_le_mul_right _ h1)]
  have hcl:cur.toList.length=c*k:=by simpa using hcs
  apply List.ext_getElem?
  intro p
  rw[List.getElem?_take]
  simp only[List.getElem?_append,List.length_append,List.length_take,hcl,hfl,hnl,List.getElem?_take,List.getElem?_drop]
  rw[Nat.min_eq_left (show lo*k≤xs.length*k by omega),Nat.min_eq_left (show lo*k≤c*k by omega)]
  have hfp:∀p,p<xs.length*k→flat[p]? =cur.toList[p]?:=fun p hp=>by
   rw[←htake,List.getElem?_take,if_pos hp]
  by_cases c1:p<lo*k
  ·have d1:p<lo*k+ys.length*k:=by omega
   have d3:p<XS.length*k:=by omega
   simp only[c1,d1,d3,if_true]
   exact hfp p (by omega)
  ·by_cases c2:p<lo*k+ys.length*k
   ·have d3:p<XS.length*k:=by omega
    simp only[c1,c2,d3,if_true,if_false]
   ·have e1:lo*k+ys.length*k+(p-(lo*k+ys.length*k))=p:=by omega
    by_cases c3:p<xs.length*k
    ·have d3:p<XS.length*k:=by omega
     simp only[c1,c2,d3,if_true,if_false,e1]
     exact hfp p c3
    ·have d3:¬p<XS.length*k:=by omega
     simp only[c1,c2,d3,if_true,if_false,e1]
     refine List.getElem?_eq_none ?_
     omega
 refine⟨flat.take (lo*k)++news++flat.drop (lo*k+news.length),⟨?_,.inr ⟨g,c,_,rfl,Nat.zero_le _,setRow_heap w g cur _ e _ hh,hXc,hcm,?_,?_⟩⟩,?_,hXk,?_⟩
 ·rw[hflat,List.length_take]
  simp only[List.length_append,List.length_take,List.length_drop,Array.length_toList,hcs,hnl]
  omega
 ·simp only[List.size_toArray,List.length_append,List.length_take,List.length_drop,Array.length_toList,hcs,hnl];omega
 ·simp only[List.toList_toArray]
  exact hflat.symm
 ·intro u hu
  simp only[List.mem_append]at hu
  rcases hu with(hu|hu)|hu
  ·exact hone u (List.mem_of_mem_take hu)
  ·exact hnone u hu
  ·exact hone u (List.mem_of_mem_drop hu)
 ·intro i x j y u g1 g2 g3
  have hj:j<k:=by have:=(List.getElem?_eq_some_iff.1 g2).1;rw[hXk i x g1]at this;exact this
  rw[←hXS]at g1
  rw[List.getElem?_append,List.getElem?_append]at g1
  rw[List.getElem?_append,List.getElem?_append]at g3
  simp only[List.length_append,List.length_take,Nat.min_eq_left hlo,hfl,hnl,Nat.min_eq_left b1]at g1 g3
  have hik:∀q,i<q→i*k+j<q*k:=by
   intro q hq
   calc i*k+j<i*k+k:=by omega
    _=(i+1)*k:=by rw[Nat.succ_mul]
    _≤q*k:=Nat.mul_le_mul_right _ hq
  have hik':∀q,q≤i→q*k≤i*k+j:=fun q hq=>Nat.le_trans (Nat.mul_le_mul_right _ hq) (by omega)
  by_cases c1:i<lo
  ·have:=hik lo c1
   rw[if_pos (by omega),if_pos c1,List.getElem?_take,if_pos c1]at g1
   rw[if_pos (by omega),if_pos this,List.getElem?_take,if_pos this]at g3
   exact hr i x j y u g1 g2 g3
  ·have h1:=hik' lo (by omega)
   have h3:lo*k≤i*k:=Nat.mul_le_mul_right _ (by omega)
   by_cases c2:i<lo+ys.length
   ·have h2:=hik (lo+ys.length) c2
    rw[if_pos c2,if_neg c1]at g1
    rw[if_pos (by omega),if_neg (by omega)]at g3
    refine hyr (i-lo) x j y u g1 g2 ?_
    rw[←g3,Nat.sub_mul]
    congr 1
    omega
   ·have h2:=hik' (lo+ys.length) (by omega)
    rw[if_neg c2,List.getElem?_drop]at g1
    rw[if_neg (by omega),List.getElem?_drop]at g3
    refine hr i x j y u ?_ g2 ?_
    ·rw[←g1];congr 1;omega
    ·rw[←g3];congr 1;omega
theorem SimF.layP (h:SimF E st m a w) {n:Nat} {e:TypeId} {k l c:Nat} {xs:List (List IV)} (ho:st.obj n=some (.rowP e k l c xs)) {A B:Option Addr} (hm:m n=some (.hdr A l c)) {lo:Nat} (hB:lo<c→B=A.map (·.add (lo*k))) (hk1:0<k)
  {ys:List (List IV)} {news:List Value} (hnl:news.length=ys.length*k) (hnone:∀u∈news,u.oneCell'=true) (hyk:∀(i:Nat) (x:List IV),ys[i]? =some x→x.length=k)
  (hyr:∀(i:Nat) (x:List IV) (j:Nat) (y:IV) (u:Value),ys[i]? =some x→x[j]? =some y→news[i*k+j]? =some u→IRep (seen w (st.X m E.Y)) y u) (hlo:lo≤xs.length) (hfit:lo+ys.length≤c):
  ∃w',(match B with|some b=>storeCells b news|none=>pure ()).run P w=.ok () w'∧w'.drawn=w.drawn∧SimF E (st.setObj n (.rowP e k l c (xs.take lo++ys++xs.drop (lo+ys.length)))) m a w'∧
   (∀l',l'≤c→SimF E ((st.setObj n .gone).new (.rowP e k l' c (xs.take lo++ys++xs.drop (lo+ys.length)))) (fun x=>if x=st.next then some (.hdr A l' c)else m x) a w'):=by
 obtain⟨l0,hl,A0,flat,rfl,hlc,hown,hone,hlen,hr⟩:=h.objs n _ ho
 rw[hm]at hl;cases hl
 have hcx:xs.length≤c:=by
  rcases hown.2 with⟨hv,hz⟩|⟨g,cap,cur,hv,_,_,h1,_⟩
  ·injection hv with _ _ e3;omega
  ·injection hv with _ _ e3;omega
 by_cases hM:ys.length=0
 ·
  have hys:ys=[]:=List.eq_nil_of_length_eq_zero hM
  subst hys
  have hn0:news=[]:=List.eq_nil_of_length_eq_zero (by rw[hnl];simp)
  subst hn0
  have hX:xs.take lo++[]++xs.drop (lo+([]:List (List IV)).length)=xs:=by simp
  refine⟨w,?_,rfl,?_,fun l' hl'=>?_⟩
  ·cases B<;>simp[storeCells]
  ·rw[hX]
   refine h.same (fun _=>rfl) (fun x=>?_) (Nat.le_refl _) rfl h.grd
   rw[setObj_obj]
   split
   ·rename_i e';subst e';exact ho.symm
   ·rfl
  ·rw[hX]
   exact h.swap ho rfl hm (w':=w) ⟨rfl,rfl,rfl,Nat.le_refl _,fun _ _ _=>rfl⟩ (.rowP e k l' c xs) rfl (.hdr A l' c) (.inl rfl)
    (fun m' c' hc=>⟨A,flat,rfl,hl',hown,hone,hlen,fun i x j y u g1 g2 g3=>(hr i x j y u g1 g2 g3).mono hc⟩)
 ·rcases hown.2 with⟨hv',hz⟩|⟨g,cap,cur,hv',hbg,hh,hnc,hcm,hcs,htake⟩
  ·injection hv' with _ _ e3
   omega
  ·injection hv' with e1 _ e3
   subst e3 e1
   obtain⟨hst,flat',q1,q2,q3,q4⟩:=rowP_store (P:=P) (w:=w) (C:=seen w (st.X m E.Y)) hh hcs hnc hcm hown.1 htake hone hlen hr hnl hnone hyk hyr hlo hfit
   have hBB:B=some ⟨g,lo*k,none⟩:=by rw[hB (by omega)];simp[add_at]
   subst hBB
   refine⟨_,hst,rfl,?_,fun l' hl'=>?_⟩
   ·have hX:=h.upd (w':=w.setRow g (cur.toList.take (lo*k)++news++cur.toList.drop (lo*k+news.length)).toArray) ho rfl hm rfl (grownBy_setRow _ _ _) (.rowP e k l c (xs.take lo++ys++xs.drop (lo+ys.length))) rfl
     ⟨some ⟨g,0,none⟩,flat',rfl,hlc,q1,q2,q3,q4⟩
    exact hX
   ·exact h.swap ho rfl hm (w':=w.setRow g (cur.toList.take (lo*k)++news++cur.toList.drop (lo*k+news.length)).toArray) (grownBy_setRow _ _ _) (.rowP e k l' c (xs.take lo++ys++xs.drop (lo+ys.length))) rfl (.hdr (some ⟨g,0,none⟩) l' c) (.inl rfl)
     (fun m' c' hc=>⟨some ⟨g,0,none⟩,flat',rfl,hl',q1,q2,q3,fun i x j y u g1 g2 g3=>(q4 i x j y u g1 g2 g3).mono hc⟩)
theorem SimF.layR (h:SimF E st m a w) {n:Nat} {e:TypeId} {k c:Nat} {xs:List (List IV)} (ho:st.obj n=some (.row e k xs)) {A B:Option Addr} (hm:m n=some (.hdr A xs.length c)) {lo:Nat} (hB:lo<c→B=A.map (·.add (lo*k))) (hk1:0<k)
  {ys:List (List IV)} {news:List Value} (hnl:news.length=ys.length*k) (hnone:∀u∈news,u.oneCell'=true) (hyk:∀(i:Nat) (x:List IV),ys[i]? =some x→x.length=k)
  (hyr:∀(i:Nat) (x:List IV) (j:Nat) (y:IV) (u:Value),ys[i]? =some x→x[j]? =some y→news[i*k+j]? =some u→IRep (seen w (st.X m E.Y)) y u) (hfit:lo+ys.length≤xs.length):
  ∃w',(match B with|some b=>storeCells b news|none=>pure ()).run P w=.ok () w'∧SimF E (st.setObj n (.row e k (xs.take lo++ys++xs.drop (lo+ys.length)))) m a w':=by
 obtain⟨l0,hl,A0,c0,flat,rfl,hown,hone,hlen,hr⟩:=h.objs n _ ho
 rw[hm]at hl;cases hl
 by_cases hM:ys.length=0
 ·have hys:ys=[]:=List.eq_nil_of_length_eq_zero hM
  subst hys
  have hn0:news=[]:=List.eq_nil_of_length_eq_zero (by rw[hnl];simp)
  subst hn0
  have hX:xs.take lo++[]++xs.drop (lo+([]:List (List IV)).length)=xs:=by simp
  refine⟨w,?_,?_⟩
  ·cases B<;>simp[storeCells]
  ·rw[hX]
   refine h.same (fun _=>rfl) (fun x=>?_) (Nat.le_refl _) rfl h.grd
   rw[setObj_obj]
   split
   ·rename_i e';subst e';exact ho.symm
   ·rfl
 ·rcases hown.2 with⟨hv',hz⟩|⟨g,cap,cur,hv',hbg,hh,hnc,hcm,hcs,htake⟩
  ·omega
  ·injection hv' with e1 _ e3
   subst e3 e1
   obtain⟨hst,flat',q1,q2,q3,q4⟩:=rowP_store (P:=P) (w:=w) (C:=seen w (st.X m E.Y)) hh hcs hnc hcm hown.1 htake hone hlen hr hnl hnone hyk hyr (lo:=lo) (by omega) (by omega)
   have hBB:B=some ⟨g,lo*k,none⟩:=by rw[hB (by omega)];simp[add_at]
   subst hBB
   have hXl:(xs.take lo++ys++xs.drop (lo+ys.length)).length=xs.length:=by simp;omega
   refine⟨_,hst,?_⟩
   exact h.upd (w':=w.setRow g (cur.toList.take (lo*k)++news++cur.toList.drop (lo*k+news.length)).toArray) ho rfl hm rfl (grownBy_setRow _ _ _) (.row e k (xs.take lo++ys++xs.drop (lo+ys.length))) rfl
    ⟨some ⟨g,0,none⟩,_,flat',by rw[hXl],q1,q2,q3,q4⟩
theorem zero_news {e':TypeId} {k2 len:Nat} {zs:List Value} {i:TypeInfo} {z:Value} (hzl:zs.length=k2) (hzc:z.cells.toList=zs) (hzone:zs.all Value.oneCell'=true) (hk0:0<k2) {C:Addr→Value→Prop}:
  ((Builtin.zeroCells z.cells len).toList).length=(List.replicate len (zs.map IV.sc)).length*k2∧(∀u∈(Builtin.zeroCells z.cells len).toList,u.oneCell'=true)∧(∀(i:Nat) (x:List IV),(List.replicate len (zs.map IV.sc))[i]? =some x→x.length=k2)∧
  ∀(i:Nat) (x:List IV) (j:Nat) (y:IV) (u:Value),(List.replicate len (zs.map IV.sc))[i]? =some x→x[j]? =some y→(Builtin.zeroCells z.cells len).toList[i*k2+j]? =some u→IRep C y u:=by
 have hsz:z.cells.size=k2:=by rw[←hzl,←hzc];simp
 have hzget:∀(p:Nat) (u:Value),(Builtin.zeroCells z.cells len).toList[p]? =some u→u=z.cells[p % k2]!∧p % k2<z.cells.size:=by
  intro p u hu
  simp only[Builtin.zeroCells,Array.toList_map,List.getElem?_map,Option.map_eq_some_iff]at hu
  obtain⟨q',hq,rfl⟩:=hu
  rw[Array.toList_range]at hq
  obtain⟨_,rfl⟩:=range_get hq
  rw[hsz]
  exact⟨rfl,Nat.mod_lt _ hk0⟩
 refine⟨by simp[size_zeroCells,hsz],fun u hu=>?_,fun i x hx=>?_,fun i x j y u g1 g2 g3=>?_⟩
 ·obtain⟨p,hp,hpe⟩:=List.mem_iff_getElem.1 hu
  obtain⟨rfl,hlt⟩:=hzget p u (by rw[List.getElem?_eq_getElem hp,hpe])
  rw[getElem!_pos z.cells _ hlt]
  refine List.all_eq_true.1 hzone _ ?_
  rw[←hzc];simp
 ·rw[List.getElem?_replicate]at hx
  split at hx
  ·cases hx;simp[hzl]
  ·cases hx
 ·rw[List.getElem?_replicate]at g1
  split at g1
  ·cases g1
   simp only[List.getElem?_map,Option.map_eq_some_iff]at g2
   obtain⟨v,hv,rfl⟩:=g2
   have hj:j<k2:=by have:=(List.getElem?_eq_some_iff.1 hv).1;omega
   obtain⟨rfl,hlt2⟩:=hzget _ _ g3
   have e2:(i*k2+j) % k2=j:=by rw[Nat.mul_comm,Nat.mul_add_mod,Nat.mod_eq_of_lt hj]
   rw[e2]at hlt2⊢
   rw[getElem!_pos z.cells j hlt2]
   rw[←hzc]at hv
   have:z.cells[j]=v:=by
    have h1:z.cells.toList[j]? =some z.cells[j]:=by simp[hlt2]
    rw[h1]at hv;cases hv;rfl
   rw[this]
   exact .sc
  ·cases g1
theorem call2_exec {dst:Option Tmp} {c:Call} {ty:TypeId} {pos:String} {after:Array Edge} {guard:Option (Nat×Bool)} {b:Builtin} {x y:Operand} {t t':TypeId} (hcal:c.callee=.builtin b) (hargs:c.args.toList=[x,y]) (htys:c.argTypes.toList=[t,t']) {v:Value} {w':World}
  (hb:b=.append∨b=.copy) (hrun:(if b=.append then Builtin.append_ #[t,t'] ty #[a.eval x,a.eval y]else Builtin.copy_ #[t,t'] ty #[a.eval x,a.eval y]).run P w=.ok v w'):(execOp a.eval ⟨dst,.call c,ty,pos,after,guard⟩).run P w=.ok (.value v) w':=by
 obtain⟨cal,args,tys⟩:=c
 simp only at hcal hargs htys
 subst hcal
 have h1:args=#[x,y]:=by rw[←Array.toList_inj];exact hargs
 have h2:tys=#[t,t']:=by rw[←Array.toList_inj];exact htys
 subst h1 h2
 rcases hb with rfl|rfl
 ·simp at hrun
  simp[execOp,resolve,invoke,builtin,hrun]
 ·simp at hrun
  simp[execOp,resolve,invoke,builtin,hrun]
theorem aRP_sound {o:Oper} {s:Bool} {st':St} {K:Act→World→Prop} {Q:Exit→Act→World→Prop} (h:SimF E st m a w) (hd:aRP P st o=some (s,st')) (hs:s=true)
  (hk:∀m' a' w',SimF E st' m' a' w'→K a' w'):o.wp P a w K Q:=by
 obtain⟨dst,op,ty,pos,after,guard⟩:=o
 have hget:=h.get
 unfold aRP at hd
 split at hd
 ·rename_i t x hx0 hop
  simp only at hop
  subst hop
  split at hd
  ·rename_i n hxe
   split at hd
   ·rename_i e k l c xs e' kh hv ho he hhe
    split at hd
    ·rename_i hsz
     cases hd
     obtain⟨h0,h1⟩:=of_decide_eq_true hs
     have hx:=ev_rep hget x
     rw[hxe]at hx
     have hh:=ev_rep hget hx0
     rw[hhe]at hh
     have hhv:=hh.sc_inv
     generalize hxv:a.eval x=xv at hx
     obtain⟨l0,hl,A,flat,rfl,hlc,hown,hone,hlen,hr⟩:=h.objs n _ ho
     cases hx with|row hm=>
     rw[hl]at hm;cases hm
     have h2:=h.swap ho rfl hl (w':=w) ⟨rfl,rfl,rfl,Nat.le_refl _,fun _ _ _=>rfl⟩ (.rowP e k hv.toNat c xs) rfl (.hdr A hv.toNat c) (.inl rfl)
      (fun m' c' hc=>⟨A,flat,rfl,by omega,hown,hone,hlen,fun i x j y u g1 g2 g3=>(hr i x j y u g1 g2 g3).mono hc⟩)
     refine wp_of_value (v:=.slice A hv.toNat c) (w':=w) ?_ (hk _ _ _ (h2.put dst (.row (by simp))))
     have hA:(if c=0 then A else A.map fun a=>a.add 0)=A:=by
      split
      ·rfl
      ·cases A with
       |none=>rfl
       |some ad=>simp[Addr.add]
     simp[execOp,Instr.sliceAt,Instr.slice,run_underlying (elt_under he),hxv,Instr.sliceBounds,Instr.sliceBound,hhv,asIntOf,h0,h1,run_tsz hsz,hA]
    ·cases hd
   ·cases hd
  ·cases hd
 ·rename_i cl hop
  simp only at hop
  subst hop
  split at hd
  ·rename_i s0 x t t' hcal hargs htys
   split at hd
   ·rename_i n k lo len hse
    split at hd
    ·rename_i e k1 l c xs e' ho he
     split at hd
     ·rename_i k2 zs by' hk0 hz hb
      split at hd
      ·rename_i hc
       obtain⟨rfl,rfl,hzl,hk1⟩:=hc
       have hsv:=ev_rep hget s0
       rw[hse]at hsv
       have hsub:subP st (.sub n k2 lo len)=some (n,k2,lo,len,c):=by simp[subP,ho]
       obtain⟨A,B,l',e1,xs',ho',hm,hfit,hB,hse2⟩:=subP_sound h.toSimO hsv hsub
       rw[ho]at ho';cases ho'
       obtain⟨i,z,hi,hzz,hzc⟩:=zcells_of hz
       obtain⟨i',hi',hbi⟩:=byt_of hb
       rw[hi]at hi';cases hi'
       obtain⟨i',hi',hsi⟩:=tsz_of hk0
       rw[hi]at hi';cases hi'
       have hsz:z.cells.size=k2:=by rw[←hzl,←hzc];simp
       split at hd
       ·rename_i kq q hxe
        split at hd
        ·rename_i hc2
         obtain⟨htn,hzone⟩:=hc2
         cases hd
         obtain⟨hq0,hle,hcc,hml,hby⟩:=of_decide_eq_true hs
         obtain⟨kn,hkn⟩:=Option.isSome_iff_exists.1 htn
         have hxv:=ev_rep hget x
         rw[hxe]at hxv
         have hxv:=hxv.sc_inv
         have hra:rowAt st (.sub n k2 lo len)=some (k2,(xs.drop lo).take len):=by simp[rowAt,ho,hle]
         have hlt:((xs.drop lo).take len).length=len:=by simp;omega
         obtain⟨A2,c2,olds,hve,hol,hload,hoone,hok,hor⟩:=rowAt_news (P:=P) h.toSimO hsv hra (.inl rfl) (M:=len) (by omega)
         rw[hse2]at hload
         have hnn:q=(q.toNat:Int):=by omega
         have hneed:len+q.toNat≤9223372036854775807:=by simpa [maxLen]using hml
         have hg:c-lo<len+q.toNat:=by omega
         have hnx:Builtin.nextslicecap (len+q.toNat) (c-lo)*i.bytes≤281474976710656:=growslice_fits hg (by rw[hbi];exact hby)
         have hrun:=Lib.run_append_grow_zeros (P:=P) w t t' ty e' i z kq kn (elt_under he) (tint_under hkn) hi hzz B len (c-lo) olds (by rw[hsi];exact hload w.drew rfl) q.toNat (by omega) (by omega) hg (by omega) (by
          have:q.toNat*by'≤(len+q.toNat)*by':=Nat.mul_le_mul_right _ (by omega)
          rw[hbi];omega) hnx
         rw[←hnn]at hrun
         have hge:=grownCap_ge w (len+q.toNat) (c-lo) e'
         have hcm:=grownCap_le_maxLen w (len+q.toNat) (c-lo) e' hml
         generalize grownCap w (len+q.toNat) (c-lo) e'=G at*
         have hrl:((xs.drop lo).take len++List.replicate q.toNat (zs.map IV.sc)).length=len+q.toNat:=by rw[List.length_append,hlt,List.length_replicate]
         have hown:(w.drew.alloc (.cells (olds.toArray++Builtin.zeroCells z.cells q.toNat++Builtin.zeroCells z.cells (G-(len+q.toNat))) e')).ownsRow 0 e' k2 (.slice (some ⟨w.heap.size,0,none⟩) (len+q.toNat) G) (len+q.toNat) (olds++(Builtin.zeroCells z.cells q.toNat).toList):=by
          refine⟨by simp[size_zeroCells,hsz,hol,Nat.add_mul],.inr ⟨w.heap.size,_,_,rfl,Nat.zero_le _,heap_alloc_new w.drew _,hge,hcm,?_,?_⟩⟩
          ·simp only[Array.size_append,size_zeroCells,hsz,List.size_toArray,hol,←Nat.add_mul]
           congr 1
           omega
          ·have:(len+q.toNat)*k2=(olds++(Builtin.zeroCells z.cells q.toNat).toList).length:=by simp[size_zeroCells,hsz,hol,Nat.add_mul]
           rw[this]
           simp only[Array.toList_append]
           exact List.take_left
         have hgrow:w.grownBy (w.drew.alloc (.cells (olds.toArray++Builtin.zeroCells z.cells q.toNat++Builtin.zeroCells z.cells (G-(len+q.toNat))) e')) none:=⟨rfl,rfl,rfl,by simp,fun k hk _=>Below.heap_alloc w.drew _ k hk⟩
         have hzget:∀(p:Nat) (u:Value),(Builtin.zeroCells z.cells q.toNat).toList[p]? =some u→u=z.cells[p % k2]!∧p % k2<z.cells.size:=by
          intro p u hu
          simp only[Builtin.zeroCells,Array.toList_map,List.getElem?_map,Option.map_eq_some_iff]at hu
          obtain⟨q',hq,rfl⟩:=hu
          rw[Array.toList_range]at hq
          obtain⟨_,rfl⟩:=range_get hq
          rw[hsz]
          exact⟨rfl,Nat.mod_lt _ hk1⟩
         have htk:(xs.drop lo).take len=((xs.drop lo).take len).take len:=by rw[List.take_take,Nat.min_self]
         rw[←htk]at hor
         obtain⟨m',hs'⟩:=h.newRow (e:=e') (k:=k2) (xs:=(xs.drop lo).take len++List.replicate q.toNat (zs.map IV.sc)) (cap:=G) hgrow (by rw[hrl];exact hown) (fun u hu=>by
          rcases List.mem_append.1 hu with hu|hu
          ·exact hoone u hu
          ·obtain⟨p,hp,hpe⟩:=List.mem_iff_getElem.1 hu
           obtain⟨rfl,hlt⟩:=hzget p u (by rw[List.getElem?_eq_getElem hp,hpe])
           rw[getElem!_pos z.cells _ hlt]
           refine List.all_eq_true.1 hzone _ ?_
           rw[←hzc];simp) (fun i x hx=>by
          rw[List.getElem?_append]at hx
          split at hx
          ·exact hok i x hx
          ·rw[List.getElem?_replicate]at hx
           split at hx
           ·cases hx;simp[hzl]
           ·cases hx) (fun c' hc' i x j y u g1 g2 g3=>by
          refine(join_get (c:=seen w (st.X m E.Y)) (by rw[hlt];exact hol) hok hor (fun i x j y u g1 g2 g3=>?_) i x j y u g1 g2 g3).mono hc'
          rw[List.getElem?_replicate]at g1
          split at g1
          ·cases g1
           simp only[List.getElem?_map,Option.map_eq_some_iff]at g2
           obtain⟨v,hv,rfl⟩:=g2
           have hj:j<k2:=by have:=(List.getElem?_eq_some_iff.1 hv).1;omega
           obtain⟨rfl,hlt2⟩:=hzget _ _ g3
           have e2:(i*k2+j) % k2=j:=by rw[Nat.mul_comm,Nat.mul_add_mod,Nat.mod_eq_of_lt hj]
           rw[e2]at hlt2⊢
           rw[getElem!_pos z.cells j hlt2]
           rw[←hzc]at hv
           have:z.cells[j]=v:=by
            have h1:z.cells.toList[j]? =some z.cells[j]:=by simp[hlt2]
            rw[h1]at hv;cases hv;rfl
           rw[this]
           exact .sc
          ·cases g1) dst
         refine wp_of_value (call2_exec hcal hargs htys (.inl rfl) (by rw[if_pos rfl,hse2,hxv];exact hrun)) ?_
         rw[hrl]at hs'
         exact hk _ _ _ hs'
        ·cases hd
       ·rename_i n2 k3 lo2 len2 hxe
        split at hd
        ·rename_i hc2
         obtain⟨rfl,rfl,rfl⟩:=hc2
         cases hd
         obtain⟨hcz,rfl,h1,h2,h3⟩:=of_decide_eq_true hs
         have hxv:=ev_rep hget x
         rw[hxe]at hxv
         have hra:rowAt st (.sub n2 k3 lo2 len2)=some (k3,(xs.drop lo2).take len2):=by simp[rowAt,ho,h2]
         have hlt:((xs.drop lo2).take len2).length=len2:=by simp;omega
         obtain⟨A2,c2,news,hve,hnl,hload,hnone,hnk,hnr⟩:=rowAt_news (P:=P) h.toSimO hxv hra (.inl rfl) (M:=len2) (by omega)
         have htk:((xs.drop lo2).take len2).take len2=(xs.drop lo2).take len2:=by rw[List.take_take,Nat.min_self]
         rw[htk]at hnr
         rw[hlt]at hve
         have hBB:len<c→(B.map (·.add (len*k3)))=A.map (·.add (len*k3)):=fun hlc=>by
          rw[hB (by omega)]
          cases A with
          |none=>rfl
          |some ad=>simp[Addr.add]
         obtain⟨w',hst,hdw,_,hsw⟩:=h.layP (P:=P) ho hm (lo:=len) (B:=B.map (·.add (len*k3))) hBB hk1 (ys:=(xs.drop lo2).take len2) (news:=news) (by rw[hlt];exact hnl) hnone hnk hnr h1 (by rw[hlt];exact h3)
         have hs1:=hsw (len+len2) h3
         rw[hlt]at hs1
         have hrun:(Builtin.append_ #[t',t'] ty #[.slice B len (c-0),.slice A2 len2 c2]).run P w=.ok (.slice B (len+len2) c) w':=by
          have hl0:=hload w rfl
          rw[hve]at hl0
          have hc0:len+len2≤c:=h3
          cases B with
          |none=>simp at hst;rw[hst]at hl0;simp[Builtin.append_,run_underlying (elt_under he),Builtin.lenOf,run_tsz hk0,hc0,hl0,hst]
          |some bb=>
           simp at hst
           simp[Builtin.append_,run_underlying (elt_under he),Builtin.lenOf,run_tsz hk0,hc0,hl0,hst]
         have hBA:B=A:=by
          rw[hB (by omega)]
          cases A with
          |none=>rfl
          |some ad=>simp[Addr.add]
         subst hBA
         refine wp_of_value (call2_exec hcal hargs htys (.inl rfl) (by rw[if_pos rfl,hse2,hve];exact hrun)) (hk _ _ _ (hs1.put dst ?_))
         exact .row (by simp)
        ·cases hd
       ·cases hd
      ·cases hd
     ·cases hd
    ·cases hd
   ·rename_i n len hse
    split at hd
    ·rename_i k xs e' hra he
     split at hd
     ·rename_i k2 zs by' hk0 hz hb
      split at hd
      ·rename_i hc
       obtain⟨rfl,hzl,hk1,rfl⟩:=hc
       split at hd
       ·rename_i ys hsrc
        cases hd
        obtain⟨hle,hy0,hml,hby⟩:=of_decide_eq_true hs
        have hsv:=ev_rep hget s0
        have hxv:=ev_rep hget x
        rw[hse]at hsv
        generalize hsvv:a.eval s0=sv at hsv
        cases hsv with|@cut _ _ l cp A hm hll=>
        obtain⟨i,z,hi,hzz,hzc⟩:=zcells_of hz
        obtain⟨i',hi',hbi⟩:=byt_of hb
        rw[hi]at hi';cases hi'
        obtain⟨i',hi',hsi⟩:=tsz_of hk0
        rw[hi]at hi';cases hi'
        have hsz:z.cells.size=k2:=by rw[←hzl,←hzc];simp
        obtain⟨A2,c2,olds,hve,hol,hload,hoone,hok,hor⟩:=rowAt_news (P:=P) h.toSimO (.row hm) hra (.inl rfl) (M:=len) hle
        obtain⟨A3,c3,news,hxe,hadr,hnl,hnone,hnk,hnr⟩:=srcOf_cells h.toSimO hxv hk1 hsrc
        obtain⟨ad,rfl,hcell⟩:=hadr (by intro e;rw[e]at hy0;simp at hy0)
        have hSrc:Src P k2 t' (.slice (some ad) ys.length c3) ys.length news w:=Src.ofSlice w (elt_under he) ad ys.length c3 news hnl hcell hnone
        have hnx:Builtin.nextslicecap (len+ys.length) len*i.bytes≤281474976710656:=growslice_fits (by omega) (by rw[hbi];exact hby)
        have hold:(Builtin.firstCells i.size len (.slice A len len)).run P w.drew=.ok olds.toArray w.drew:=by
         have:=hload w.drew rfl
         rw[hsi]
         cases A<;>simpa [Builtin.firstCells]using this
        have hneed:len+ys.length≤9223372036854775807:=by simpa [maxLen]using hml
        have hrun:=run_append_grow_src (P:=P) w t' t' ty e' i z (elt_under he) hi hzz A len len olds hold _ ys.length news (by rw[hsi];exact hSrc) (by omega) (by omega) hnx
        have hge:=grownCap_ge w (len+ys.length) len e'
        have hcm:=grownCap_le_maxLen w (len+ys.length) len e' hml
        generalize grownCap w (len+ys.length) len e'=G at*
        have hrl:(xs.take len++ys).length=len+ys.length:=by simp;omega
        have hown:(w.drew.alloc (.cells ((olds++news).toArray++Builtin.zeroCells z.cells (G-(len+ys.length))) e')).ownsRow 0 e' k2 (.slice (some ⟨w.heap.size,0,none⟩) (len+ys.length) G) (len+ys.length) (olds++news):=by
         refine⟨by simp[hol,hnl,Nat.add_mul],.inr ⟨w.heap.size,_,_,rfl,Nat.zero_le _,heap_alloc_new w.drew _,hge,hcm,?_,?_⟩⟩
         ·simp only[Array.size_append,size_zeroCells,hsz,List.size_toArray,List.length_append,hol,hnl,←Nat.add_mul]
          congr 1
          omega
         ·have:(len+ys.length)*k2=(olds++news).length:=by simp[hol,hnl,Nat.add_mul]
          rw[this]
          simp only[Array.toList_append]
          exact List.take_left
        have hgrow:w.grownBy (w.drew.alloc (.cells ((olds++news).toArray++Builtin.zeroCells z.cells (G-(len+ys.length))) e')) none:=⟨rfl,rfl,rfl,by simp,fun k hk _=>Below.heap_alloc w.drew _ k hk⟩
        have hxk:∀(i:Nat) (x:List IV),(xs.take len)[i]? =some x→x.length=k2:=fun i x hx=>by
         rw[List.getElem?_take]at hx
         split at hx
         ·exact hok i x hx
         ·cases hx
        obtain⟨m',hs'⟩:=h.newRow (e:=e') (k:=k2) (xs:=xs.take len++ys) (cap:=G) hgrow (by rw[hrl];exact hown) (fun u hu=>by
         rcases List.mem_append.1 hu with hu|hu
         ·exact hoone u hu
         ·exact hnone u hu) (fun i x hx=>by
         rw[List.getElem?_append]at hx
         split at hx
         ·exact hxk i x hx
         ·exact hnk _ x hx) (fun c' hc' i x j y u g1 g2 g3=>(join_get (c:=seen w (st.X m E.Y)) (by simp;rw[hol];congr 1;omega) hxk hor hnr i x j y u g1 g2 g3).mono hc') dst
        refine wp_of_value (call2_exec hcal hargs htys (.inl rfl) (by rw[if_pos rfl,hsvv,hxe];exact hrun)) ?_
        rw[hrl]at hs'
        exact hk _ _ _ hs'
       ·cases hd
      ·cases hd
     ·cases hd
    ·cases hd
   ·cases hd
  ·rename_i d s0 t t' hcal hargs htys
   split at hd
   ·rename_i n k lo len c e' hde he
    split at hd
    ·rename_i e k1 l c1 xs k2 sl ys ho hse
     split at hd
     ·rename_i hc
      obtain⟨rfl,rfl,htk,hk2,hk0⟩:=hc
      cases hd
      have hlo:=of_decide_eq_true hs
      have hdv:=ev_rep hget d
      have hsv:=ev_rep hget s0
      obtain⟨A,B,l',e1,xs',ho',hm,hfit,hB,hdv2⟩:=subP_sound h.toSimO hdv hde
      rw[ho]at ho';cases ho'
      obtain⟨A2,c2,news,hve,hlt,hnl,hload,hnone,hnk,hnr⟩:=srcP_news (P:=P) h.toSimO hsv hse hk2
      have hl0:=hload w rfl
      rw[hve]at hl0
      obtain⟨w',hst,hdw,hs1,_⟩:=h.layP (P:=P) ho hm hB hk0 (ys:=ys) (news:=news) hnl hnone hnk hnr hlo (by omega)
      have hmin:Nat.min sl len=ys.length:=hlt.symm
      have hmin':min sl len=ys.length:=hlt.symm
      rw[hmin']at hk
      have hrun:(Builtin.copy_ #[t,t'] ty #[.slice B len (c1-lo),.slice A2 sl c2]).run P w=.ok (.int .i64 ys.length) w':=by
       cases B with
       |none=>simp at hst;rw[hst]at hl0;simp[Builtin.copy_,run_underlying (elt_under he),Builtin.lenOf,hmin,run_tsz htk,hl0,goInt,hst]
       |some bb=>simp at hst;simp[Builtin.copy_,run_underlying (elt_under he),Builtin.lenOf,hmin,run_tsz htk,hl0,goInt,hst]
      exact wp_of_value (call2_exec hcal hargs htys (.inr rfl) (by simp only[reduceCtorEq,if_false];rw[hdv2,hve];exact hrun)) (hk _ _ _ (hs1.put dst (.im .sc)))
     ·cases hd
    ·cases hd
   ·cases hd
  ·rename_i d t hcal hargs htys
   have fin:∀{v:Value} {w':World} {s1:St},a.eval d=v→(Builtin.clear_ #[t] ty #[v]).run P w=.ok (.tuple #[]) w'→SimF E s1 m a w'→st'=s1.put dst (.tup [])→(⟨dst,.call cl,ty,pos,after,guard⟩:Oper).wp P a w K Q:=by
    intro v w' s1 hdv2 hrun hs1 he
    subst he
    refine wp_of_value (v:=.tuple #[]) (w':=w') ?_ (hk _ _ _ (hs1.put dst (.tup (by simp) (by simp))))
    obtain⟨cal,args,tys⟩:=cl
    simp only at hcal hargs htys
    subst hcal
    have h1:args=#[d]:=by rw[←Array.toList_inj];exact hargs
    have h2:tys=#[t]:=by rw[←Array.toList_inj];exact htys
    subst h1 h2
    simp[execOp,resolve,invoke,builtin,hdv2,hrun]
   have crun:∀{B:Option Addr} {len cc:Nat} {w':World} {e':TypeId} {i:TypeInfo} {z:Value},elt P t=some e'→P.info? e'=some i→i.zero=some z→(match B with|some b=>storeCells b (Builtin.zeroCells z.cells len).toList|none=>pure ()).run P w=.ok () w'→(Builtin.clear_ #[t] ty #[.slice B len cc]).run P w=.ok (.tuple #[]) w':=by
    intro B len cc w' e' i z he hi hzz hst
    have hz0:(zeroValue e').run P w=.ok z w:=by simp[zeroValue,typeInfo,hi,hzz]
    cases B with
    |none=>simp at hst;simp[Builtin.clear_,run_underlying (elt_under he),hst]
    |some bb=>
     simp at hst
     by_cases hl0:len=0
     ·subst hl0
      have:(Builtin.zeroCells z.cells 0).toList=[]:=List.eq_nil_of_length_eq_zero (by simp[size_zeroCells])
      rw[this]at hst
      simp[storeCells]at hst
      simp[Builtin.clear_,run_underlying (elt_under he),hst]
     ·simp[Builtin.clear_,run_underlying (elt_under he),hz0,hst,hl0]
   split at hd
   ·rename_i n k lo len e xs e' hde he
    split at hd
    ·rename_i k2 zs htk hz
     split at hd
     ·rename_i hc
      obtain⟨rfl,hzl,hzone,hk0⟩:=hc
      have hinj:=Option.some.inj hd
      simp only[Prod.mk.injEq]at hinj
      obtain⟨hs0,hst0⟩:=hinj
      subst hs0
      have hfit:=of_decide_eq_true hs
      have hdv:=ev_rep hget d
      split at hde
      ·rename_i n0 k0 lo0 len0 hdev
       split at hde
       ·rename_i e0 k1 xs0 ho
        split at hde
        ·rename_i hkk
         cases hde
         subst hkk
         rw[hdev]at hdv
         generalize hdvv:a.eval d=dv at hdv
         cases hdv with|@sub _ _ _ _ l cp A B hm hlc hB=>
         obtain⟨l0,hl,A0,c0,flat,rfl,_⟩:=h.objs n _ ho
         rw[hl]at hm;cases hm
         obtain⟨i,z,hi,hzz,hzc⟩:=zcells_of hz
         obtain⟨z1,z2,z3,z4⟩:=zero_news (e':=e') (i:=i) (len:=len) (C:=seen w (st.X m E.Y)) hzl hzc hzone hk0
         obtain⟨w',hst,hs1⟩:=h.layR (P:=P) ho hl hB hk0 (ys:=List.replicate len (zs.map IV.sc)) z1 z2 z3 z4 (by simpa using hfit)
         rw[List.length_replicate]at hs1
         exact fin hdvv (crun he hi hzz hst) hs1 hst0.symm
        ·cases hde
       ·cases hde
      ·cases hde
     ·cases hd
    ·cases hd
   ·split at hd
    ·rename_i n k lo len c e' hde he
     split at hd
     ·rename_i e k1 l c1 xs k2 zs ho htk hz
      split at hd
      ·rename_i hc
       obtain⟨rfl,rfl,rfl,hzl,hzone,hk0⟩:=hc
       have hinj:=Option.some.inj hd
       simp only[Prod.mk.injEq]at hinj
       obtain⟨hs0,hst0⟩:=hinj
       subst hs0
       have hlo:=of_decide_eq_true hs
       have hdv:=ev_rep hget d
       obtain⟨A,B,l',e1,xs',ho',hm,hfit,hB,hdv2⟩:=subP_sound h.toSimO hdv hde
       rw[ho]at ho';cases ho'
       obtain⟨i,z,hi,hzz,hzc⟩:=zcells_of hz
       obtain⟨z1,z2,z3,z4⟩:=zero_news (e':=e') (i:=i) (len:=len) (C:=seen w (st.X m E.Y)) hzl hzc hzone hk0
       obtain⟨w',hst,hdw,hs1,_⟩:=h.layP (P:=P) ho hm hB hk0 (ys:=List.replicate len (zs.map IV.sc)) z1 z2 z3 z4 hlo (by simpa using hfit)
       rw[List.length_replicate]at hs1
       exact fin hdv2 (crun he hi hzz hst) hs1 hst0.symm
      ·cases hd
     ·cases hd
    ·cases hd
  ·cases hd
 ·cases hd
end Go.Am
namespace Go.Am
open Go.RowKit
variable {P:Program} {E:Env} {st:St} {m:Nm} {w:World} {a:Act}
def renM {α:Type} (ρ:Nat→Nat):List (α×AV)→List (α×AV)
 |[]=>[]
 |(k,v)::l=>(k,v.ren ρ)::renM ρ l
theorem renM_eq {α:Type} (ρ:Nat→Nat) (l:List (α×AV)):renM ρ l=l.map fun x=>(x.1,x.2.ren ρ):=by
 induction l with
 |nil=>rfl
 |cons x l ih=>simp[renM,ih]
theorem look_mem {α:Type}:∀{l:List (Nat×α)} {n:Nat} {x:α},look l n=some x→(n,x)∈l
 |(i,y)::l,n,x,h=>by
  simp only[look]at h
  split at h
  ·rename_i e;cases h;subst e;exact List.mem_cons_self
  ·exact List.mem_cons_of_mem _ (look_mem h)
theorem look_ren (ρ:Nat→Nat):∀(l:List (Nat×AV)) (s:Nat),look (renM ρ l) s=(look l s).map (AV.ren ρ)
 |[],s=>rfl
 |(i,x)::l,s=>by
  simp only[renM,look]
  split
  ·rfl
  ·exact look_ren ρ l s
def AObj.ren (ρ:Nat→Nat):AObj→AObj
 |.box t cs=>.box t (AV.renL ρ cs)
 |.row e k xs=>.row e k xs
 |.fz k xs=>.fz k xs
 |.rowE e k Q=>.rowE e k Q
 |.mp q xs=>.mp q (renM ρ xs)
 |.it n since seen=>.it (ρ n) since seen
 |.lp b r s p=>.lp b r s p
 |.sv a fr=>.sv a (renM ρ fr)
 |.gl gs=>.gl gs
 |.rowP e k l c xs=>.rowP e k l c xs
 |.gone=>.gone
def AObj.le:AObj→AObj→Prop
 |.box t cs,.box t' ds=>t=t'∧AV.leL cs ds
 |.row e k xs,.row e' k' xs'=>e=e'∧k=k'∧xs=xs'
 |.fz k xs,.fz k' xs'=>k=k'∧xs=xs'
 |.row e k xs,.rowE e' k' Q=>e=e'∧k=k'∧Q xs
 |.rowE e k Q,.rowE e' k' Q'=>e=e'∧k=k'∧∀xs,Q xs→Q' xs
 |.mp q xs,.mp q' xs'=>q=q'∧xs=xs'
 |.it n since seen,.it n' since' seen'=>n=n'∧since=since'∧seen=seen'
 |.lp b r s p,.lp b' r' s' p'=>b=b'∧r=r'∧s=s'∧p=p'
 |.sv a fr,.sv a' fr'=>a=a'∧∀p∈fr',((look fr p.1).getD .undef).le p.2
 |.gl gs,.gl gs'=>gs=gs'
 |.rowP e k l c xs,.rowP e' k' l' c' xs'=>e=e'∧k=k'∧l=l'∧c=c'∧xs=xs'
 |.rowP e k l c xs,.row e' k' xs'=>e=e'∧k=k'∧l≤xs.length∧xs'=xs.take l
 |_,.gone=>True
 |_,_=>False
theorem objRep_le {c:Addr→Value→Prop} {l:Loc} {o o':AObj} (h:ObjRep m c w l o) (hl:o.le o'):ObjRep m c w l o':=by
 unfold AObj.le at hl
 split at hl
 ·rename_i t cs t' ds
  obtain⟨rfl,hl⟩:=hl
  obtain⟨b,arr,rfl,hh,hsz,hone,hr⟩:=h
  have hL:=VRep.leL (m:=m) (c:=c) ds hl
  exact⟨b,arr,rfl,hh,hsz.trans hL.1,hone,fun j y u h1 h2=>hL.2 j y u (fun x hx=>hr j x u hx h2) h1⟩
 ·obtain⟨rfl,rfl,rfl⟩:=hl;exact h
 ·obtain⟨rfl,rfl⟩:=hl;exact h
 ·obtain⟨rfl,rfl,hQ⟩:=hl;exact⟨_,hQ,h⟩
 ·obtain⟨rfl,rfl,hQ⟩:=hl;obtain⟨xs,h1,h2⟩:=h;exact⟨xs,hQ xs h1,h2⟩
 ·obtain⟨rfl,rfl⟩:=hl;exact h
 ·obtain⟨rfl,rfl,rfl⟩:=hl;exact h
 ·obtain⟨rfl,rfl,rfl,rfl⟩:=hl;exact h
 ·rename_i a fr a' fr'
  obtain⟨rfl,hl⟩:=hl
  obtain⟨h1,h2,h3⟩:=h
  refine⟨h1,h2,fun s y hy=>?_⟩
  have:=hl (s,y) (look_mem hy)
  refine VRep.le y ?_ this
  cases hx:look fr s with
  |none=>exact .undef
  |some z=>exact h3 s z hx
 ·subst hl;exact h
 ·obtain⟨rfl,rfl,rfl,rfl,rfl⟩:=hl;exact h
 ·rename_i e k l c xs e' k' xs'
  obtain⟨rfl,rfl,hle,rfl⟩:=hl
  obtain⟨A,flat,rfl,hlc,hown,hone,hlen,hr⟩:=h
  have hml:(xs.take l).length=l:=by simp;omega
  have hfl:flat.length=xs.length*k:=hown.1
  have hle':l*k≤xs.length*k:=Nat.mul_le_mul_right _ hle
  refine⟨A,c,flat.take (l*k),by rw[hml],?_,fun u hu=>hone u (List.mem_of_mem_take hu),fun i x hx=>?_,fun i x j y u g1 g2 g3=>?_⟩
  ·rw[hml]
   refine⟨by simp;omega,?_⟩
   rcases hown.2 with⟨hv',hz⟩|⟨g,cap,cur,hv',hbg,hh',hnc,hcm,hcs,htake⟩
   ·have:l=0:=by omega
    injection hv' with e1 e2 e3
    left
    rw[e1,e3,this]
    exact⟨rfl,rfl⟩
   ·injection hv' with e1 e2 e3
    right
    refine⟨g,cap,cur,by rw[e1,e3],hbg,hh',by omega,hcm,hcs,?_⟩
    rw[←htake,List.take_take,Nat.min_eq_left hle']
  ·rw[List.getElem?_take]at hx
   split at hx
   ·exact hlen i x hx
   ·cases hx
  ·rw[List.getElem?_take]at g1 g3
   split at g1
   ·split at g3
    ·exact hr i x j y u g1 g2 g3
    ·cases g3
   ·cases g1
 ·trivial
 ·exact hl.elim
theorem objRep_of_ren {m':Nm} {c:Addr→Value→Prop} {ρ:Nat→Nat} (hm:∀n l,m (ρ n)=some l→m' n=some l) {l:Loc}:∀{o:AObj},ObjRep m c w l (o.ren ρ)→ObjRep m' c w l o
 |.box t cs,h=>by
  obtain⟨b,arr,rfl,hh,hsz,hone,hr⟩:=h
  rw[AV.renL_eq]at hsz hr
  exact⟨b,arr,rfl,hh,by simpa using hsz,hone,fun j y u h1 h2=>VRep.of_ren hm (hr j (y.ren ρ) u (by simp[h1]) h2) rfl⟩
 |.row e k xs,h=>h
 |.fz k xs,h=>h
 |.rowE e k Q,h=>h
 |.mp q xs,h=>by
  obtain⟨b,es,rfl,hh,hsz,hr⟩:=h
  rw[renM_eq]at hh hsz hr
  refine⟨b,es,rfl,by simpa using hh,by simpa using hsz,fun i x e h1 h2=>?_⟩
  obtain⟨g1,g2,g3⟩:=hr i (x.1,x.2.ren ρ) e (by simp[h1]) h2
  exact⟨g1,g2,VRep.of_ren hm g3 rfl⟩
 |.it n since seen,h=>by
  obtain⟨b,bm,rfl,hn,hh⟩:=h
  exact⟨b,bm,rfl,hm _ _ hn,hh⟩
 |.lp _ _ _ _,h=>h
 |.sv a fr,h=>by
  obtain⟨h1,h2,h3⟩:=h
  refine⟨h1,h2,fun s y hy=>VRep.of_ren hm (h3 s (y.ren ρ) ?_) rfl⟩
  rw[look_ren,hy];rfl
 |.gl gs,h=>⟨h.1,fun g cs hg=>VRep.of_ren hm (h.2 g cs hg) rfl⟩
 |.rowP _ _ _ _ _,h=>h
 |.gone,h=>trivial
theorem objRep_to_ren {m':Nm} {c:Addr→Value→Prop} {ρ:Nat→Nat} (hm:∀n l,m n=some l→m' (ρ n)=some l) {l:Loc}:∀{o:AObj},ObjRep m c w l o→ObjRep m' c w l (o.ren ρ)
 |.box t cs,h=>by
  obtain⟨b,arr,rfl,hh,hsz,hone,hr⟩:=h
  refine⟨b,arr,rfl,hh,by simpa [AV.renL_eq]using hsz,hone,fun j y u h1 h2=>?_⟩
  rw[AV.renL_eq]at h1
  simp at h1
  obtain⟨z,hz,rfl⟩:=h1
  exact(hr j z u hz h2).to_ren hm
 |.row e k xs,h=>h
 |.fz k xs,h=>h
 |.rowE e k Q,h=>h
 |.mp q xs,h=>by
  obtain⟨b,es,rfl,hh,hsz,hr⟩:=h
  refine⟨b,es,rfl,by rw[renM_eq];simpa using hh,by rw[renM_eq];simpa using hsz,fun i x e h1 h2=>?_⟩
  rw[renM_eq]at h1
  simp only[List.getElem?_map,Option.map_eq_some_iff]at h1
  obtain⟨z,hz,rfl⟩:=h1
  obtain⟨g1,g2,g3⟩:=hr i z e hz h2
  exact⟨g1,g2,g3.to_ren hm⟩
 |.it n since seen,h=>by
  obtain⟨b,bm,rfl,hn,hh⟩:=h
  exact⟨b,bm,rfl,hm _ _ hn,hh⟩
 |.lp _ _ _ _,h=>h
 |.sv a fr,h=>by
  obtain⟨h1,h2,h3⟩:=h
  refine⟨h1,h2,fun s y hy=>?_⟩
  rw[look_ren]at hy
  simp only[Option.map_eq_some_iff]at hy
  obtain⟨z,hz,rfl⟩:=hy
  exact(h3 s z hz).to_ren hm
 |.gl gs,h=>⟨h.1,fun g cs hg=>(h.2 g cs hg).to_ren hm⟩
 |.rowP _ _ _ _ _,h=>h
 |.gone,h=>trivial
def nmOf (rs:List Nat) (d:Nat) (n:Nat):Nat:=rs[n]?.getD (max d n)
structure Entails (nin:Nat) (st st':St) (rs:List Nat):Prop where
 grd:st'.grd=none
 size:st'.size=st.size
 ins:rs.take nin=List.range nin
 len:rs.length=st'.next
 nodup:rs.Nodup
 lt:∀x∈rs,x<st.next
 fr:∀p∈st'.fr,(st.raw p.1).le (p.2.ren (nmOf rs st.next))
 objs:∀p∈st'.objs,p.1<st'.next∧∃o,st.obj (nmOf rs st.next p.1)=some o∧o.le (p.2.ren (nmOf rs st.next))
theorem AObj.le_owns {o o':AObj} (h:o.le o') (ho:o'.owns=true):o.owns=true:=by cases o<;>cases o'<;>first|rfl|exact h.elim|cases ho
theorem AObj.ren_owns (ρ:Nat→Nat) (o:AObj):(o.ren ρ).owns=o.owns:=by cases o<;>rfl
theorem SimF.entails {nin:Nat} {st':St} {rs:List Nat} (h:SimF E st m a w) (he:Entails nin st st' rs) (hin:∀n l,E.m0 n=some l→n<nin):
  SimF E st' (fun n=>if n<st'.next then m (nmOf rs st.next n)else none) a w:=by
 have hm:∀n l,m (nmOf rs st.next n)=some l→(fun n=>if n<st'.next then m (nmOf rs st.next n)else none) n=some l:=by
  intro n l hn
  have:n<st'.next:=by
   rcases Nat.lt_or_ge n st'.next with h1|h1
   ·exact h1
   ·have:nmOf rs st.next n=max st.next n:=by unfold nmOf;rw[List.getElem?_eq_none (by rw[he.len];exact h1)];rfl
    rw[this,h.fresh _ (Nat.le_max_left _ _)]at hn;cases hn
  simp[this,hn]
 have hinj:∀n n',n<st'.next→n'<st'.next→nmOf rs st.next n=nmOf rs st.next n'→n=n':=by
  intro n n' h1 h2 e
  rw[←he.len]at h1 h2
  unfold nmOf at e
  rw[List.getElem?_eq_getElem h1,List.getElem?_eq_getElem h2]at e
  exact(List.getElem_inj he.nodup).1 (by simpa using e)
 have hobj:∀n o',st'.obj n=some o'→n<st'.next∧∃o,st.obj (nmOf rs st.next n)=some o∧o.le (o'.ren (nmOf rs st.next)):=fun n o' hn=>he.objs (n,o') (look_mem hn)
 have hown:∀b,st'.owned (fun n=>if n<st'.next then m (nmOf rs st.next n)else none) b→st.owned m b:=by
  rintro b ⟨n,o',l,h1,h2,h3,h4⟩
  obtain⟨hlt,o,ho,hle⟩:=hobj n o' h1
  refine⟨_,o,l,ho,?_,?_,h4⟩
  ·exact AObj.le_owns hle (by rw[AObj.ren_owns];exact h2)
  ·simpa [hlt]using h3
 have hc:∀p v,seen w (st.X m E.Y) p v→seen w (st'.X (fun n=>if n<st'.next then m (nmOf rs st.next n)else none) E.Y) p v:=
  seen_mono (fun _ _ _=>rfl) (fun b _ hx=>hx.elim (fun hx=>.inl (hown b hx)) .inr)
 exact{
  objs:=by
   intro n o' hn
   obtain⟨hlt,o,ho,hle⟩:=hobj n o' hn
   obtain⟨l,hl,hr⟩:=h.objs _ o ho
   refine⟨l,hm n l hl,objRep_of_ren hm ?_⟩
   exact objRep_mono (fun _ _ h=>h) hc (fun _ _ _=>rfl) (objRep_le hr hle)
  apart:=by
   intro n n' o1 o2 l1 l2 b h1 h2 h3 h4 h5 h6 h7 h8
   obtain⟨hlt,p,hp,hple⟩:=hobj n o1 h1
   obtain⟨hlt',q,hq,hqle⟩:=hobj n' o2 h2
   rw[if_pos hlt]at h5
   rw[if_pos hlt']at h6
   refine hinj n n' hlt hlt' (h.apart _ _ p q l1 l2 b hp hq ?_ ?_ h5 h6 h7 h8)
   ·exact AObj.le_owns hple (by rw[AObj.ren_owns];exact h3)
   ·exact AObj.le_owns hqle (by rw[AObj.ren_owns];exact h4)
  foreign:=fun b hb=>h.foreign b (hown b hb)
  fresh:=fun n hn=>by simp[Nat.not_lt.2 hn]
  defers:=fun d hd=>(let ⟨b,e,hx⟩:=h.defers d hd;⟨b,e,hc _ _ hx⟩)
  size:=h.size.trans he.size.symm
  fr:=fun s y hy=>by
   have h1:=he.fr (s,y) (look_mem hy)
   have h2:=raw_rep h.fr s
   exact VRep.of_ren hm ((VRep.le _ h2 h1).mono (fun _ _ h=>h) hc) rfl
  kept:=h.kept
  mine:=fun b hb=>h.mine b (hown b hb)
  mext:=fun n l hn=>by
   have h1:=hin n l hn
   have h2:rs[n]? =some n:=by
    have:=congrArg (·[n]?) he.ins
    simp only[List.getElem?_take,if_pos h1,List.getElem?_range h1]at this
    exact this
   have h3:=h.mext n l hn
   exact hm n l (by unfold nmOf;rw[h2];exact h3)
  ylt:=h.ylt
  esz:=he.size.trans h.esz
  grd:=he.grd
  dnd:=h.dnd
  dge:=h.dge
  ndf:=h.ndf}
def enumL {α:Type}:Nat→List α→List (Nat×α)
 |_,[]=>[]
 |i,x::l=>(i,x)::enumL (i+1) l
theorem look_enum {α:Type}:∀(l:List α) (i n:Nat),look (enumL i l) n=if i≤n then l[n-i]? else none
 |[],i,n=>by simp[enumL,look]
 |x::l,i,n=>by
  simp only[enumL,look,look_enum l (i+1) n]
  by_cases h:i=n
  ·subst h;simp
  ·rw[if_neg h]
   by_cases h1:i+1≤n
   ·rw[if_pos h1,if_pos (by omega)]
    rw[show n-i=(n-(i+1))+1 by omega]
    simp
   ·rw[if_neg h1,if_neg (by omega)]
def stO (os:List AObj):St:={fr:=[],objs:=enumL 0 os,next:=os.length,size:=0}
theorem stO_obj (os:List AObj) (n:Nat):(stO os).obj n=os[n]?:=by simp[stO,St.obj,look_enum]
def Enters (P:Program) (f:FuncId):Prop:=∀(args:Array Value) (w:World),(callFunc f args).run P w=.ok (.enter f args) w
theorem enters_of {f:FuncId} {fn:Func} {c:Code} (hf:P.funcs[f]? =some fn) (hname:(fn.name== "runtime.NumGoroutine")=false) (hb:fn.body=some c):Enters P f:=by
 intro args w
 have h1:fn.name≠ "runtime.NumGoroutine" :=by simpa using hname
 simp[callFunc,hf,h1,hb,mark]
def FSpec (P:Program) (f:FuncId) (args:List AV) (ins:List AObj) (r:AV) (outs:List AObj):Prop:=
 Enters P f∧∀(m:Nm) (w:World) (Y:Nat→Prop) (vs:Array Value),SimO Y (stO ins) m w→(∀b,Y b→b<w.heap.size)→vs.size=args.length→
  (∀(j:Nat) (y:AV) (u:Value),args[j]? =some y→vs[j]? =some u→VRep m (seen w ((stO ins).X m Y)) y u)→
  Calls P f vs w fun e w'=>∃v m',e=.returned v∧VRep m' (seen w' ((stO outs).X m' Y)) r v∧SimO Y (stO outs) m' w'∧Kept ((stO ins).owned m) w w'∧
   (∀b,(stO outs).owned m' b→(stO ins).owned m b∨w.heap.size≤b)∧(∀n l,m n=some l→m' n=some l)
theorem stO_nil_owned (m:Nm) (b:Nat):¬(stO []).owned m b:=by
 rintro⟨n,o,l,h1,_⟩
 rw[stO_obj]at h1
 simp at h1
mutual
def AV.pure:AV→Bool
 |.im _|.eptr _|.undef=>true
 |.agg cs|.tup cs|.fn _ cs=>AV.pureL cs
 |.cond _ a=>a.pure
 |_=>false
def AV.pureL:List AV→Bool
 |[]=>true
 |a::l=>a.pure&&AV.pureL l
end
mutual
theorem AV.pure_ren (ρ:Nat→Nat):∀a:AV,a.pure=true→a.ren ρ=a
 |.im _,_=>rfl
 |.eptr _,_=>rfl
 |.undef,_=>rfl
 |.agg cs,h=>by simp only[AV.ren,AV.pureL_ren ρ cs h]
 |.tup cs,h=>by simp only[AV.ren,AV.pureL_ren ρ cs h]
 |.fn f cs,h=>by simp only[AV.ren,AV.pureL_ren ρ cs h]
 |.cond b a,h=>by simp only[AV.ren,AV.pure_ren ρ a h]
 |.rptr _ _ _ _,h=>by cases h
 |.ptr _ _,h=>by cases h
 |.row _,h=>by cases h
 |.map _,h=>by cases h
 |.yld _,h=>by cases h
 |.sub _ _ _ _,h=>by cases h
 |.cut _ _,h=>by cases h
theorem AV.pureL_ren (ρ:Nat→Nat):∀l:List AV,AV.pureL l=true→AV.renL ρ l=l
 |[],_=>rfl
 |a::l,h=>by
  simp only[AV.pureL,Bool.and_eq_true]at h
  simp only[AV.renL,AV.pure_ren ρ a h.1,AV.pureL_ren ρ l h.2]
end
mutual
def AV.flat:AV→Bool
 |.im (.sc _)=>true
 |.tup cs=>AV.flatL cs
 |.agg cs=>AV.flatL cs
 |_=>false
def AV.flatL:List AV→Bool
 |[]=>true
 |a::l=>a.flat&&AV.flatL l
end
theorem VRep.flat {m m':Nm} {c c':Addr→Value→Prop} {x:AV} {v:Value} (h:VRep m c x v):x.flat=true→VRep m' c' x v:=by
 have memL:∀(l:List AV),AV.flatL l=true→∀(j:Nat) (y:AV),l[j]? =some y→y.flat=true:=by
  intro l
  induction l with
  |nil=>intro _ j y h;simp at h
  |cons a l ih=>
   intro hl j y hy
   simp only[AV.flatL,Bool.and_eq_true]at hl
   cases j with
   |zero=>simp at hy;subst hy;exact hl.1
   |succ j=>exact ih hl.2 j y (by simpa using hy)
 induction h with
 |im h=>
  intro hf
  cases h with
  |sc=>exact .im .sc
  |sl=>cases hf
 |agg hl _ ih=>exact fun hf=>.agg hl (fun j y u h1 h2=>ih j y u h1 h2 (memL _ hf j y h1))
 |tup hl _ ih=>exact fun hf=>.tup hl (fun j y u h1 h2=>ih j y u h1 h2 (memL _ hf j y h1))
 |_=>intro hf;cases hf
def argsOk (st:St) (args args':List AV):Prop:=AV.leL (args.map (AV.view st)) args'
def St.addOuts (st:St) (outs:List AObj):St:={st with objs:=enumL st.next (outs.map (AObj.ren (·+st.next)))++st.objs,next:=st.next+outs.length}
def CallK (P:Program) (f:FuncId) (args:List AV) (d:Option Nat) (k:St→Prop) (st:St):Prop:=
 ∃(fl:List Nat) (args':List AV) (r:AV) (outs:List AObj),FSpec P f args' [] r outs∧AV.pureL args'=true∧argsOk (st.freeze fl) args args'∧
  (if(r.flat&&outs.isEmpty)=true then k (st.put d r)else k (((st.freeze fl).addOuts outs).put d (r.ren (·+st.next))))
theorem leL_length:∀(ds cs:List AV),AV.leL cs ds→cs.length=ds.length
 |[],cs,h=>by simp only[AV.leL]at h;subst h;rfl
 |d::ds,cs,h=>by
  simp only[AV.leL]at h
  obtain⟨c,cs',rfl,_,h⟩:=h
  simp[leL_length ds cs' h]
theorem Kept.below {w w':World} {Z:Nat→Prop} (h:Kept Z w w') (hz:∀b,¬Z b):Below w.heap.size w w':=⟨h.os,h.tape,h.output,h.size,fun k hk=>h.block k hk (hz k)⟩
theorem addOuts_obj (st:St) (outs:List AObj) (n:Nat):(st.addOuts outs).obj n=if st.next≤n∧n<st.next+outs.length then(outs[n-st.next]?).map (AObj.ren (·+st.next))else st.obj n:=by
 unfold St.addOuts St.obj
 generalize hl:outs.map (AObj.ren (·+st.next))=l
 have key:∀(l:List AObj) (i:Nat),look (enumL i l++st.objs) n=if i≤n∧n<i+l.length then l[n-i]? else look st.objs n:=by
  intro l
  induction l with
  |nil=>intro i;simp[enumL];omega
  |cons x l ih=>
   intro i
   simp only[enumL,List.cons_append,look,ih (i+1)]
   by_cases h:i=n
   ·subst h;simp
   ·rw[if_neg h]
    by_cases h1:i+1≤n∧n<i+1+l.length
    ·rw[if_pos h1,if_pos (by simp;omega),show n-i=(n-(i+1))+1 by omega]
     simp
    ·rw[if_neg h1,if_neg (by simp;omega)]
 rw[key,←hl]
 simp
theorem SimF.addOuts (h:SimF E st m a w) {outs:List AObj} {m':Nm} {w':World} (hO:SimO (st.X m E.Y) (stO outs) m' w') (hb:Below w.heap.size w w')
  (hn:∀b,(stO outs).owned m' b→w.heap.size≤b) (hdr:w.drawn≤w'.drawn):
  ∃m3,SimF E (st.addOuts outs) m3 a w'∧∀(r:AV) (v:Value),VRep m' (seen w' ((stO outs).X m' (st.X m E.Y))) r v→VRep m3 (seen w' ((st.addOuts outs).X m3 E.Y)) (r.ren (·+st.next)) v:=by
 let m3:Nm:=fun n=>if n<st.next then m n else m' (n-st.next)
 have hm1:∀n l,m n=some l→m3 n=some l:=by
  intro n l hn
  have:n<st.next:=by
   rcases Nat.lt_or_ge n st.next with h1|h1
   ·exact h1
   ·rw[h.fresh n h1]at hn;cases hn
  simp[m3,this,hn]
 have hm2:∀n l,m' n=some l→m3 (n+st.next)=some l:=by
  intro n l hn
  simp only[m3,show ¬n+st.next<st.next by omega,if_false,Nat.add_sub_cancel]
  exact hn
 have hsplit:∀b,(st.addOuts outs).owned m3 b→st.owned m b∨(stO outs).owned m' b:=by
  rintro b ⟨n,o,l,h1,h2,h3,h4⟩
  rw[addOuts_obj]at h1
  split at h1
  ·rename_i hr
   right
   simp only[Option.map_eq_some_iff]at h1
   obtain⟨o',ho',rfl⟩:=h1
   refine⟨n-st.next,o',l,by rw[stO_obj];exact ho',by rw[←AObj.ren_owns];exact h2,?_,h4⟩
   simpa [m3,show ¬n<st.next by omega]using h3
  ·rename_i hr
   left
   refine⟨n,o,l,h1,h2,?_,h4⟩
   by_cases hlt:n<st.next
   ·simpa [m3,hlt]using h3
   ·obtain⟨l',hl',_⟩:=h.objs n o h1
    rw[h.fresh n (by omega)]at hl';cases hl'
 have hX:∀b,(st.addOuts outs).X m3 E.Y b→(stO outs).X m' (st.X m E.Y) b:=by
  intro b hx
  rcases hx with hx|hx
  ·rcases hsplit b hx with hx|hx
   ·exact .inr (.inl hx)
   ·exact .inl hx
  ·exact .inr (.inr hx)
 have hc1:∀p v,seen w (st.X m E.Y) p v→seen w' ((st.addOuts outs).X m3 E.Y) p v:=
  seen_mono (fun b hb' _=>hb.block b hb') (fun b hlt hx=>by
   rcases hX b hx with hx|hx
   ·have:=hn b hx;omega
   ·exact hx)
 have hc2:∀p v,seen w' ((stO outs).X m' (st.X m E.Y)) p v→seen w' ((st.addOuts outs).X m3 E.Y) p v:=
  seen_mono (fun _ _ _=>rfl) (fun b _ hx=>hX b hx)
 refine⟨m3,{
  objs:=?_,apart:=?_,foreign:=?_,fresh:=?_,defers:=fun d hd=>(let ⟨b,e,hx⟩:=h.defers d hd;⟨b,e,hc1 _ _ hx⟩),size:=h.size,fr:=?_,kept:=(h.grow hb hdr).kept,mine:=?_,mext:=fun n l hn=>hm1 n l (h.mext n l hn),ylt:=h.ylt,esz:=h.esz,grd:=h.grd,dnd:=h.dnd,dge:=h.dge,ndf:=h.ndf},?_⟩
 ·intro n o ho
  rw[addOuts_obj]at ho
  split at ho
  ·rename_i hr
   simp only[Option.map_eq_some_iff]at ho
   obtain⟨o',ho',rfl⟩:=ho
   obtain⟨l,hl,hrep⟩:=hO.objs (n-st.next) o' (by rw[stO_obj];exact ho')
   refine⟨l,by simp[m3,show ¬n<st.next by omega,hl],?_⟩
   exact objRep_to_ren hm2 (objRep_mono (fun _ _ h=>h) hc2 (fun _ _ _=>rfl) hrep)
  ·obtain⟨l,hl,hrep⟩:=h.objs n o ho
   refine⟨l,hm1 n l hl,objRep_mono hm1 hc1 (fun b hbl hown=>hb.block b (h.owned_lt ⟨n,o,l,ho,hown,hl,hbl⟩)) hrep⟩
 ·intro n n' o o' l l' b h1 h2 h3 h4 h5 h6 h7 h8
  rw[addOuts_obj]at h1 h2
  have lt_of:∀x p q,st.obj x=some p→m3 x=some q→x<st.next∧m x=some q:=by
   intro x p q hx hq
   obtain⟨l',hl',_⟩:=h.objs x p hx
   have hlt:x<st.next:=by
    rcases Nat.lt_or_ge x st.next with h1|h1
    ·exact h1
    ·rw[h.fresh x h1]at hl';cases hl'
   exact⟨hlt,by simpa [m3,hlt]using hq⟩
  split at h1
  ·rename_i hr
   simp only[Option.map_eq_some_iff]at h1
   obtain⟨p,hp,rfl⟩:=h1
   rw[AObj.ren_owns]at h3
   have h5':m' (n-st.next)=some l:=by simpa [m3,show ¬n<st.next by omega]using h5
   have g1:(stO outs).obj (n-st.next)=some p:=by rw[stO_obj];exact hp
   split at h2
   ·rename_i hr'
    simp only[Option.map_eq_some_iff]at h2
    obtain⟨q,hq,rfl⟩:=h2
    rw[AObj.ren_owns]at h4
    have h6':m' (n'-st.next)=some l':=by simpa [m3,show ¬n'<st.next by omega]using h6
    have:=hO.apart _ _ p q l l' b g1 (by rw[stO_obj];exact hq) h3 h4 h5' h6' h7 h8
    omega
   ·obtain⟨hlt,h6'⟩:=lt_of n' o' l' h2 h6
    have:=h.owned_lt ⟨n',o',l',h2,h4,h6',h8⟩
    have:=hn b ⟨_,p,l,g1,h3,h5',h7⟩
    omega
  ·obtain⟨hlt,h5'⟩:=lt_of n o l h1 h5
   split at h2
   ·rename_i hr'
    simp only[Option.map_eq_some_iff]at h2
    obtain⟨q,hq,rfl⟩:=h2
    rw[AObj.ren_owns]at h4
    have h6':m' (n'-st.next)=some l':=by simpa [m3,show ¬n'<st.next by omega]using h6
    have:=h.owned_lt ⟨n,o,l,h1,h3,h5',h7⟩
    have:=hn b ⟨_,q,l',by rw[stO_obj];exact hq,h4,h6',h8⟩
    omega
   ·obtain⟨hlt',h6'⟩:=lt_of n' o' l' h2 h6
    exact h.apart n n' o o' l l' b h1 h2 h3 h4 h5' h6' h7 h8
 ·intro b hb'
  rcases hsplit b hb' with hx|hx
  ·exact h.foreign b hx
  ·intro hy
   have:=hn b hx
   have:=h.ylt b hy
   have:=h.kept.size
   omega
 ·intro n hn'
  simp only[St.addOuts]at hn'
  show m3 n=none
  simp only[m3,show ¬n<st.next by omega,if_false]
  exact hO.fresh _ (by simp only[stO];omega)
 ·intro s y hy
  exact(h.fr s y hy).mono hm1 hc1
 ·intro b hb'
  rcases hsplit b hb' with hx|hx
  ·exact h.mine b hx
  ·right;have:=hn b hx;have:=h.kept.size;omega
 ·intro r v hr
  exact(hr.mono (fun _ _ h=>h) hc2).to_ren hm2
theorem freeze1_next (st:St) (n:Nat):(st.freeze1 n).next=st.next:=by unfold St.freeze1;split<;>rfl
theorem freeze_next (l:List Nat):∀st:St,(st.freeze l).next=st.next:=by
 induction l with
 |nil=>intro st;rfl
 |cons n l ih=>intro st;exact(ih _).trans (freeze1_next st n)
theorem freeze_owned (l:List Nat):∀(s:St) (b:Nat),(s.freeze l).owned m b→s.owned m b:=by
 induction l with
 |nil=>intro s b hb;exact hb
 |cons n l ih=>
  intro s b hb
  have hb:=ih (s.freeze1 n) b hb
  unfold St.freeze1 at hb
  split at hb
  ·obtain⟨x,p,q,g1,g2,g3,g4⟩:=hb
   rw[setObj_obj]at g1
   split at g1
   ·cases g1;cases g2
   ·exact⟨x,p,q,g1,g2,g3,g4⟩
  ·exact hb
theorem pureL_mem:∀(l:List AV),AV.pureL l=true→∀(j:Nat) (y:AV),l[j]? =some y→y.pure=true:=by
 intro l
 induction l with
 |nil=>intro _ j y h;simp at h
 |cons a l ih=>
  intro hl j y hy
  simp only[AV.pureL,Bool.and_eq_true]at hl
  cases j with
  |zero=>simp at hy;subst hy;exact hl.1
  |succ j=>exact ih hl.2 j y (by simpa using hy)
theorem SimF.call (h:SimF E st m a w) {f:FuncId} {args args':List AV} {r:AV} {outs:List AObj} {fl:List Nat} (hspec:FSpec P f args' [] r outs) (hpure:AV.pureL args'=true)
  (hargs:argsOk (st.freeze fl) args args') {vs:Array Value} (hsz:vs.size=args.length)
  (hvs:∀(j:Nat) (y:AV) (u:Value),args[j]? =some y→vs[j]? =some u→VRep m (seen w (st.X m E.Y)) y u):
  Calls P f vs w fun e w'=>∃v m',e=.returned v∧VRep m' (seen w' ((stO outs).X m' ((st.freeze fl).X m E.Y))) r v∧SimO ((st.freeze fl).X m E.Y) (stO outs) m' w'∧Below w.heap.size w w'∧w.drawn≤w'.drawn∧
   ∀b,(stO outs).owned m' b→w.heap.size≤b:=by
 have hz:=h.freeze fl
 have hlen:=leL_length _ _ hargs
 rw[List.length_map]at hlen
 have hX:∀b,(stO []).X (fun _=>none) ((st.freeze fl).X m E.Y) b→(st.freeze fl).X m E.Y b:=by
  rintro b (hx|hx)
  ·exact(stO_nil_owned _ b hx).elim
  ·exact hx
 have hmono:∀(j:Nat) (y:AV) (u:Value),args[j]? =some y→vs[j]? =some u→VRep m (seen w ((st.freeze fl).X m E.Y)) y u:=fun j y u h1 h2=>
  (hvs j y u h1 h2).mono (fun _ _ h=>h) (seen_mono (fun _ _ _=>rfl) fun b _ hx=>hx.elim (fun hx=>.inl (freeze_owned fl st b hx)) .inr)
 have hL:=VRep.leL (m:=m) (c:=seen w ((st.freeze fl).X m E.Y)) _ hargs
 refine(hspec.2 (fun _=>none) w ((st.freeze fl).X m E.Y) vs ?_ ?_ (hsz.trans hlen) ?_).mono ?_
 ·exact{objs:=fun n o hn=>(by rw[stO_obj]at hn;simp at hn),apart:=fun n n' o o' l l' b h1=>(by rw[stO_obj]at h1;simp at h1),foreign:=fun b hb=>(stO_nil_owned _ b hb).elim,fresh:=fun _ _=>rfl}
 ·rintro b (hb|hb)
  ·exact hz.owned_lt hb
  ·have:=hz.ylt b hb;have:=hz.kept.size;omega
 ·intro j y u hy hu
  have h1:VRep m (seen w ((st.freeze fl).X m E.Y)) y u:=by
   refine hL.2 j y u (fun x hx=>?_) hy
   simp at hx
   obtain⟨z,hz',rfl⟩:=hx
   exact view_rep hz.toSimO (hmono j z u hz' hu)
  have hp:=pureL_mem _ hpure j y hy
  refine VRep.of_ren (m:=m) (ρ:=fun _=>st.next) (fun n l hn=>?_) (h1.mono (fun _ _ h=>h) (seen_mono (fun _ _ _=>rfl) fun b _ hx=>hX b hx)) (AV.pure_ren _ y hp).symm
  rw[h.fresh _ (Nat.le_refl _)]at hn;cases hn
 ·rintro e w' ⟨v,m',rfl,hr,hO,hkept,hnew,_⟩
  exact⟨v,m',rfl,hr,hO,hkept.below (stO_nil_owned _),hkept.drawn,fun b hb=>(hnew b hb).resolve_left (stO_nil_owned _ b)⟩
theorem callK_sound {f:FuncId} {args:List AV} {d:Option Nat} {k:St→Prop} (h:SimF E st m a w) (hk:CallK P f args d k st) {vs:Array Value} (hsz:vs.size=args.length)
  (hvs:∀(j:Nat) (y:AV) (u:Value),args[j]? =some y→vs[j]? =some u→VRep m (seen w (st.X m E.Y)) y u):
  Calls P f vs w fun e w'=>∃v m' st',e=.returned v∧k st'∧SimF E st' m' (a.put d v) w':=by
 obtain⟨fl,args',r,outs,hspec,hpure,hargs,hK⟩:=hk
 refine(h.call hspec hpure hargs hsz hvs).mono ?_
 rintro e w' ⟨v,m',rfl,hr,hO,hb,hdr,hnew⟩
 split at hK
 ·rename_i hf
  simp only[Bool.and_eq_true]at hf
  exact⟨v,m,_,rfl,hK,(h.grow hb).put d (hr.flat hf.1)⟩
 ·obtain⟨m3,hs,hV⟩:=(h.freeze fl).addOuts hO hb hnew hdr
  have hV':=hV r v hr
  rw[freeze_next]at hV'
  exact⟨v,m3,_,rfl,hK,hs.put d hV'⟩
end Go.Am
namespace Go.Am
open Go.RowKit
variable {P:Program} {E:Env} {st:St} {m:Nm} {w:World} {a:Act}
def nmX (nms:List Nat) (nx i:Nat):Nat:=if i<nms.length then nms.getD i 0 else nx+(i-nms.length)
def enumX (g:Nat→Nat) (f:AObj→AObj):List AObj→Nat→List (Nat×AObj)
 |[],_=>[]
 |o::l,i=>(g i,f o)::enumX g f l (i+1)
def St.after (st:St) (nms:List Nat) (outs:List AObj):St:=
 {st with objs:=enumX (nmX nms st.next) (AObj.ren (nmX nms st.next)) outs 0++st.objs,next:=st.next+(outs.length-nms.length)}
def CallO (P:Program) (f:FuncId) (args:List AV) (d:Option Nat) (k:St→Prop) (st:St):Prop:=
 ∃(fl nms:List Nat) (args':List AV) (ins outs:List AObj) (r:AV),FSpec P f args' ins r outs∧nms.Nodup∧nms.length=ins.length∧ins.length≤outs.length∧
  (∀(i:Nat) (o:AObj),ins[i]? =some o→∃o',(st.freeze fl).obj (nmOf nms st.next i)=some o'∧o'.le (o.ren (nmOf nms st.next)))∧
  AV.leL (args.map (AV.view (st.freeze fl))) (AV.renL (nmOf nms st.next) args')∧k (((st.freeze fl).after nms outs).put d (r.ren (nmX nms st.next)))
theorem mem_enumX {g:Nat→Nat} {f:AObj→AObj}:∀(l:List AObj) (i:Nat) (p:Nat×AObj),p∈enumX g f l i↔∃j o,l[j]? =some o∧p=(g (i+j),f o)
 |[],i,p=>by simp[enumX]
 |x::l,i,p=>by
  simp only[enumX,List.mem_cons,mem_enumX l (i+1) p]
  constructor
  ·rintro(rfl|⟨j,o,h1,rfl⟩)
   ·exact⟨0,x,rfl,rfl⟩
   ·exact⟨j+1,o,by simpa using h1,by rw[show i+1+j=i+(j+1)by omega]⟩
  ·rintro⟨j,o,h1,rfl⟩
   cases j with
   |zero=>simp at h1;subst h1;exact .inl rfl
   |succ j=>exact .inr ⟨j,o,by simpa using h1,by rw[show i+1+j=i+(j+1)by omega]⟩
theorem lookA {α:Type}:∀(l l':List (Nat×α)) (n:Nat),look (l++l') n=match look l n with|some x=>some x|none=>look l' n
 |[],l',n=>rfl
 |(i,x)::l,l',n=>by
  simp only[List.cons_append,look]
  split
  ·rfl
  ·exact lookA l l' n
theorem look_no {α:Type}:∀(l:List (Nat×α)) (n:Nat),look l n=none→∀p∈l,p.1≠n
 |[],n,h=>fun p hp=>by simp at hp
 |(i,x)::l,n,h=>by
  simp only[look]at h
  split at h
  ·cases h
  ·rename_i hi
   intro p hp
   rcases List.mem_cons.1 hp with rfl|hp
   ·exact hi
   ·exact look_no l n h p hp
theorem after_obj {nms:List Nat} {outs:List AObj} (hle:nms.length≤outs.length) {n:Nat} {o:AObj} (h:(st.after nms outs).obj n=some o):
  (∃i o0,outs[i]? =some o0∧n=nmX nms st.next i∧o=o0.ren (nmX nms st.next))∨(n∉nms∧st.obj n=some o):=by
 unfold St.after St.obj at h
 simp only at h
 rw[lookA]at h
 split at h
 ·rename_i y hy
  cases h
  obtain⟨j,o0,h1,h2⟩:=(mem_enumX _ _ _).1 (look_mem hy)
  rw[Nat.zero_add]at h2
  cases h2
  exact .inl ⟨j,o0,h1,rfl,rfl⟩
 ·rename_i hy
  refine .inr ⟨fun hn=>?_,h⟩
  obtain⟨i,hi,rfl⟩:=List.mem_iff_getElem.1 hn
  refine look_no _ _ hy (nmX nms st.next i,(outs[i]'(by omega)).ren (nmX nms st.next)) ((mem_enumX _ _ _).2 ⟨i,_,List.getElem?_eq_getElem (by omega),by rw[Nat.zero_add]⟩) ?_
  simp[nmX,hi]
theorem callO_sound {f:FuncId} {args:List AV} {d:Option Nat} {k:St→Prop} (h:SimF E st m a w) (hk:CallO P f args d k st) {vs:Array Value} (hsz:vs.size=args.length)
  (hvs:∀(j:Nat) (y:AV) (u:Value),args[j]? =some y→vs[j]? =some u→VRep m (seen w (st.X m E.Y)) y u):
  Calls P f vs w fun e w'=>∃v m' st',e=.returned v∧k st'∧SimF E st' m' (a.put d v) w':=by
 obtain⟨fl,nms,args',ins,outs,r,hspec,hnd,hnl,hol,hins,hargs,hK⟩:=hk
 have z:=h.freeze fl
 have hnx:(st.freeze fl).next=st.next:=freeze_next fl st
 have hmono:∀(j:Nat) (y:AV) (u:Value),args[j]? =some y→vs[j]? =some u→VRep m (seen w ((st.freeze fl).X m E.Y)) y u:=fun j y u h1 h2=>
  (hvs j y u h1 h2).mono (fun _ _ h=>h) (seen_mono (fun _ _ _=>rfl) fun b _ hx=>hx.elim (fun hx=>.inl (freeze_owned fl st b hx)) .inr)
 rw[←hnx]at hins hargs
 generalize st.freeze fl=s1 at*
 have hfresh:m s1.next=none:=z.fresh _ (Nat.le_refl _)
 let ρ:=nmOf nms s1.next
 have hρ:∀i (hi:i<nms.length),ρ i=nms[i]:=fun i hi=>by simp[ρ,nmOf,List.getElem?_eq_getElem hi]
 have hρ':∀i,nms.length≤i→ρ i=max s1.next i:=fun i hi=>by simp[ρ,nmOf,List.getElem?_eq_none hi]
 have hinj:∀i j,i<nms.length→j<nms.length→ρ i=ρ j→i=j:=by
  intro i j hi hj e
  rw[hρ i hi,hρ j hj]at e
  exact(List.getElem_inj hnd).1 e
 let m0:Nm:=fun i=>if i<nms.length then m (ρ i)else none
 have hm0:∀n l,m (ρ n)=some l→m0 n=some l:=by
  intro n l hn
  rcases Nat.lt_or_ge n nms.length with h1|h1
  ·simp only[m0,if_pos h1];exact hn
  ·rw[hρ' n h1,z.fresh _ (Nat.le_max_left _ _)]at hn;cases hn
 have hm0':∀n l,m0 n=some l→n<nms.length∧m (ρ n)=some l:=by
  intro n l hn
  simp only[m0]at hn
  split at hn
  ·rename_i h1;exact⟨h1,hn⟩
  ·cases hn
 have hobjI:∀i o,ins[i]? =some o→i<nms.length∧∃o' l,s1.obj (ρ i)=some o'∧o'.le (o.ren ρ)∧m (ρ i)=some l:=by
  intro i o hi
  obtain⟨o',h1,h2⟩:=hins i o hi
  obtain⟨l,hl,_⟩:=z.objs _ _ h1
  exact⟨by have:=(List.getElem?_eq_some_iff.1 hi).1;omega,o',l,h1,h2,hl⟩
 let Y0:Nat→Prop:=fun b=>(∃n o l,s1.obj n=some o∧o.owns=true∧m n=some l∧l.own=some b∧n∉nms)∨E.Y b
 have hownI:∀b,(stO ins).owned m0 b→∃i o',i<nms.length∧s1.obj (ρ i)=some o'∧o'.owns=true∧∃l,m (ρ i)=some l∧l.own=some b:=by
  rintro b ⟨i,o,l,h1,h2,h3,h4⟩
  rw[stO_obj]at h1
  obtain⟨hi,o',l',g1,g2,g3⟩:=hobjI i o h1
  obtain⟨_,g4⟩:=hm0' i l h3
  exact⟨i,o',hi,g1,AObj.le_owns g2 (by rw[AObj.ren_owns];exact h2),l,g4,h4⟩
 have hownI1:∀b,(stO ins).owned m0 b→s1.owned m b:=by
  intro b hb
  obtain⟨i,o',_,g1,g2,l,g3,g4⟩:=hownI b hb
  exact⟨_,o',l,g1,g2,g3,g4⟩
 have hY1:∀b,Y0 b→s1.X m E.Y b:=by
  rintro b (⟨n,o,l,g1,g2,g3,g4,_⟩|hb)
  ·exact .inl ⟨n,o,l,g1,g2,g3,g4⟩
  ·exact .inr hb
 have hnotI:∀b n o l,s1.obj n=some o→o.owns=true→m n=some l→l.own=some b→n∉nms→¬(stO ins).owned m0 b:=by
  intro b n o l g1 g2 g3 g4 hn hb
  obtain⟨i,o',hi,k1,k2,l',k3,k4⟩:=hownI b hb
  have:=z.apart n (ρ i) o o' l l' b g1 k1 g2 k2 g3 k3 g4 k4
  rw[hρ i hi]at this
  exact hn (this▸List.getElem_mem hi)
 have hc0:∀p v,seen w (s1.X m E.Y) p v→seen w ((stO ins).X m0 Y0) p v:=
  seen_mono (fun _ _ _=>rfl) fun b _ hx=>hx.elim (fun hx=>.inl (hownI1 b hx)) (hY1 b)
 have hlen:vs.size=args'.length:=by
  have:=leL_length _ _ hargs
  rw[AV.renL_eq]at this
  simpa using hsz.trans (by simpa using this)
 refine(hspec.2 m0 w Y0 vs ?_ ?_ hlen ?_).mono ?_
 ·exact{
   objs:=by
    intro n o hn
    rw[stO_obj]at hn
    obtain⟨hi,o',l,g1,g2,g3⟩:=hobjI n o hn
    obtain⟨l',hl',hr⟩:=z.objs _ _ g1
    rw[g3]at hl';cases hl'
    refine⟨l,hm0 n l g3,objRep_of_ren hm0 ?_⟩
    exact objRep_le (objRep_mono (fun _ _ h=>h) hc0 (fun _ _ _=>rfl) hr) g2
   apart:=by
    intro n n' o1 o2 l1 l2 b h1 h2 h3 h4 h5 h6 h7 h8
    rw[stO_obj]at h1 h2
    obtain⟨hi,p1,q1,g1,g2,g3⟩:=hobjI n o1 h1
    obtain⟨hi',p2,q2,k1,k2,k3⟩:=hobjI n' o2 h2
    obtain⟨_,e1⟩:=hm0' n l1 h5
    obtain⟨_,e2⟩:=hm0' n' l2 h6
    exact hinj n n' hi hi' (z.apart _ _ p1 p2 l1 l2 b g1 k1 (AObj.le_owns g2 (by rw[AObj.ren_owns];exact h3)) (AObj.le_owns k2 (by rw[AObj.ren_owns];exact h4)) e1 e2 h7 h8)
   foreign:=by
    rintro b hb (⟨n,o,l,g1,g2,g3,g4,hn⟩|hy)
    ·exact hnotI b n o l g1 g2 g3 g4 hn hb
    ·exact z.foreign b (hownI1 b hb) hy
   fresh:=by
    intro n hn
    simp only[stO]at hn
    simp only[m0,if_neg (show ¬n<nms.length by omega)]}
 ·intro b hb
  rcases hY1 b hb with hx|hx
  ·exact z.owned_lt hx
  ·have:=z.ylt b hx;have:=z.kept.size;omega
 ·intro j y u hy hu
  have hL:=VRep.leL (m:=m) (c:=seen w (s1.X m E.Y)) _ hargs
  have h1:VRep m (seen w (s1.X m E.Y)) (y.ren ρ) u:=by
   refine hL.2 j (y.ren ρ) u (fun x hx=>?_) (by rw[AV.renL_eq];simp[hy];rfl)
   simp at hx
   obtain⟨q,hq,rfl⟩:=hx
   exact view_rep z.toSimO (hmono j q u hq hu)
  exact(VRep.of_ren hm0 h1 rfl).mono (fun _ _ h=>h) hc0
 ·rintro e w' ⟨v,m',rfl,hr,hO,hkept,hnew,hext⟩
  let σ:=nmX nms s1.next
  have hσ:∀i (hi:i<nms.length),σ i=nms[i]:=fun i hi=>by simp[σ,nmX,hi]
  have hσ':∀i,nms.length≤i→σ i=s1.next+(i-nms.length):=fun i hi=>by simp[σ,nmX,Nat.not_lt.2 hi]
  have hnlt:∀i (hi:i<nms.length),nms[i]<s1.next:=by
   intro i hi
   have:ins[i]? =some (ins[i]'(by omega)):=List.getElem?_eq_getElem (by omega)
   obtain⟨_,o',l,g1,_,g3⟩:=hobjI i _ this
   rw[hρ i hi]at g3
   rcases Nat.lt_or_ge nms[i] s1.next with h1|h1
   ·exact h1
   ·rw[z.fresh _ h1]at g3;cases g3
  let m3:Nm:=fun n=>if n<s1.next then m n else m' (nms.length+(n-s1.next))
  have key1:∀n l,m n=some l→m3 n=some l:=by
   intro n l hn
   have:n<s1.next:=by
    rcases Nat.lt_or_ge n s1.next with h1|h1
    ·exact h1
    ·rw[z.fresh n h1]at hn;cases hn
   simp only[m3,if_pos this];exact hn
  have key2:∀i l,m' i=some l→m3 (σ i)=some l:=by
   intro i l hi
   rcases Nat.lt_or_ge i nms.length with h1|h1
   ·have:ins[i]? =some (ins[i]'(by omega)):=List.getElem?_eq_getElem (by omega)
    obtain⟨_,o',l0,g1,_,g3⟩:=hobjI i _ this
    have:=hext i l0 (hm0 i l0 g3)
    rw[hi]at this;cases this
    rw[hσ i h1,←hρ i h1]
    exact key1 _ _ g3
   ·rw[hσ' i h1]
    simp only[m3,if_neg (show ¬s1.next+(i-nms.length)<s1.next by omega)]
    rw[show nms.length+(s1.next+(i-nms.length)-s1.next)=i by omega]
    exact hi
  have hσinj:∀i j,σ i=σ j→i=j:=by
   intro i j e
   rcases Nat.lt_or_ge i nms.length with h1|h1<;>rcases Nat.lt_or_ge j nms.length with h2|h2
   ·rw[hσ i h1,hσ j h2]at e;exact(List.getElem_inj hnd).1 e
   ·rw[hσ i h1,hσ' j h2]at e;have:=hnlt i h1;omega
   ·rw[hσ' i h1,hσ j h2]at e;have:=hnlt j h2;omega
   ·rw[hσ' i h1,hσ' j h2]at e;omega
  have hobj3:∀n o,(s1.after nms outs).obj n=some o→(∃i o0,outs[i]? =some o0∧n=σ i∧o=o0.ren σ)∨(n∉nms∧s1.obj n=some o):=fun n o hn=>after_obj (by omega) hn
  have hown3:∀b,(s1.after nms outs).owned m3 b→(stO outs).owned m' b∨(∃n o l,s1.obj n=some o∧o.owns=true∧m n=some l∧l.own=some b∧n∉nms):=by
   rintro b ⟨n,o,l,h1,h2,h3,h4⟩
   rcases hobj3 n o h1 with⟨i,o0,g1,rfl,rfl⟩|⟨hn,g1⟩
   ·left
    have hO1:=hO.objs i o0 (by rw[stO_obj];exact g1)
    obtain⟨l',hl',_⟩:=hO1
    have:=key2 i l' hl'
    rw[h3]at this;cases this
    exact⟨i,o0,l,by rw[stO_obj];exact g1,by rw[←AObj.ren_owns σ];exact h2,hl',h4⟩
   ·right
    obtain⟨l',hl',_⟩:=z.objs n o g1
    have:=key1 n l' hl'
    rw[h3]at this;cases this
    exact⟨n,o,l,g1,h2,hl',h4,hn⟩
  have hX31:∀b,b<w.heap.size→(s1.after nms outs).X m3 E.Y b→s1.X m E.Y b:=by
   rintro b hlt (hx|hx)
   ·rcases hown3 b hx with hx|⟨n,o,l,g1,g2,g3,g4,_⟩
    ·rcases hnew b hx with hx|hx
     ·exact .inl (hownI1 b hx)
     ·omega
    ·exact .inl ⟨n,o,l,g1,g2,g3,g4⟩
   ·exact .inr hx
  have hc1:∀p v,seen w (s1.X m E.Y) p v→seen w' ((s1.after nms outs).X m3 E.Y) p v:=
   seen_mono (fun b hb hx=>hkept.block b hb fun hx'=>hx (.inl (hownI1 b hx'))) hX31
  have hc2:∀p v,seen w' ((stO outs).X m' Y0) p v→seen w' ((s1.after nms outs).X m3 E.Y) p v:=
   seen_mono (fun _ _ _=>rfl) fun b _ hx=>by
    rcases hx with hx|hx
    ·rcases hown3 b hx with hx|hx
     ·exact .inl hx
     ·exact .inr (.inl hx)
    ·exact .inr (.inr hx)
  have hs:SimF E (s1.after nms outs) m3 a w':={
   objs:=by
    intro n o hn
    rcases hobj3 n o hn with⟨i,o0,g1,rfl,rfl⟩|⟨hn',g1⟩
    ·obtain⟨l,hl,hrep⟩:=hO.objs i o0 (by rw[stO_obj];exact g1)
     exact⟨l,key2 i l hl,objRep_to_ren key2 (objRep_mono (fun _ _ h=>h) hc2 (fun _ _ _=>rfl) hrep)⟩
    ·obtain⟨l,hl,hrep⟩:=z.objs n o g1
     refine⟨l,key1 n l hl,objRep_mono key1 hc1 (fun b hbl ho=>hkept.block b (z.owned_lt ⟨n,o,l,g1,ho,hl,hbl⟩) ?_) hrep⟩
     exact hnotI b n o l g1 ho hl hbl hn'
   apart:=by
    intro n n' o1 o2 l1 l2 b h1 h2 h3 h4 h5 h6 h7 h8
    rcases hobj3 n o1 h1 with⟨i,p,g1,rfl,rfl⟩|⟨hn,g1⟩<;>rcases hobj3 n' o2 h2 with⟨j,q,k1,rfl,rfl⟩|⟨hn',k1⟩
    ·rw[AObj.ren_owns]at h3 h4
     obtain⟨l,hl,_⟩:=hO.objs i p (by rw[stO_obj];exact g1)
     obtain⟨l',hl',_⟩:=hO.objs j q (by rw[stO_obj];exact k1)
     have e1:=key2 i l hl;rw[h5]at e1;cases e1
     have e2:=key2 j l' hl';rw[h6]at e2;cases e2
     rw[hO.apart i j p q l1 l2 b (by rw[stO_obj];exact g1) (by rw[stO_obj];exact k1) h3 h4 hl hl' h7 h8]
    ·exfalso
     rw[AObj.ren_owns]at h3
     obtain⟨l,hl,_⟩:=hO.objs i p (by rw[stO_obj];exact g1)
     have e1:=key2 i l hl;rw[h5]at e1;cases e1
     obtain⟨l',hl',_⟩:=z.objs n' o2 k1
     have e2:=key1 n' l' hl';rw[h6]at e2;cases e2
     exact hO.foreign b ⟨i,p,l1,by rw[stO_obj];exact g1,h3,hl,h7⟩ (.inl ⟨n',o2,l2,k1,h4,hl',h8,hn'⟩)
    ·exfalso
     rw[AObj.ren_owns]at h4
     obtain⟨l,hl,_⟩:=hO.objs j q (by rw[stO_obj];exact k1)
     have e1:=key2 j l hl;rw[h6]at e1;cases e1
     obtain⟨l',hl',_⟩:=z.objs n o1 g1
     have e2:=key1 n l' hl';rw[h5]at e2;cases e2
     exact hO.foreign b ⟨j,q,l2,by rw[stO_obj];exact k1,h4,hl,h8⟩ (.inl ⟨n,o1,l1,g1,h3,hl',h7,hn⟩)
    ·obtain⟨l,hl,_⟩:=z.objs n o1 g1
     have e1:=key1 n l hl;rw[h5]at e1;cases e1
     obtain⟨l',hl',_⟩:=z.objs n' o2 k1
     have e2:=key1 n' l' hl';rw[h6]at e2;cases e2
     exact z.apart n n' o1 o2 l1 l2 b g1 k1 h3 h4 hl hl' h7 h8
   foreign:=by
    intro b hb hy
    rcases hown3 b hb with hx|⟨n,o,l,g1,g2,g3,g4,_⟩
    ·exact hO.foreign b hx (.inr hy)
    ·exact z.foreign b ⟨n,o,l,g1,g2,g3,g4⟩ hy
   fresh:=by
    intro n hn
    simp only[St.after]at hn
    simp only[m3,if_neg (show ¬n<s1.next by omega)]
    exact hO.fresh _ (by simp only[stO];omega)
   defers:=fun d hd=>(let ⟨b,e,hx⟩:=z.defers d hd;⟨b,e,hc1 _ _ hx⟩)
   size:=z.size
   fr:=fun s y hy=>(z.fr s y hy).mono key1 hc1
   kept:=z.kept.trans hkept fun x hx hz=>by
    rcases z.mine x (hownI1 x hz)with h1|h1
    ·exact h1
    ·omega
   mine:=by
    intro b hb
    rcases hown3 b hb with hx|⟨n,o,l,g1,g2,g3,g4,_⟩
    ·rcases hnew b hx with hx|hx
     ·exact z.mine b (hownI1 b hx)
     ·right;have:=z.kept.size;omega
    ·exact z.mine b ⟨n,o,l,g1,g2,g3,g4⟩
   mext:=fun n l hn=>key1 n l (z.mext n l hn)
   ylt:=z.ylt
   esz:=z.esz
   grd:=z.grd
   dnd:=z.dnd
   dge:=z.dge
   ndf:=z.ndf}
  refine⟨v,m3,_,rfl,hK,?_⟩
  have hv:=(hr.mono (fun _ _ h=>h) hc2).to_ren key2
  rw[←hnx]
  exact hs.put d hv
end Go.Am
namespace Go.Am
open Go.RowKit
variable {P:Program} {E:Env} {st:St} {m:Nm} {w:World} {a:Act}
inductive NilAt where
 |sl (s:Nat) (e:TypeId) (k:Nat)
 |cl (n i:Nat) (e:TypeId) (k:Nat)
 |mv (n i:Nat)
 |fz (l:List Nat)
def viewF (s:St):List (Nat×AV)→List (Nat×AV)
 |[]=>[]
 |(i,x)::l=>(i,x.view s)::viewF s l
def AV.isNil:AV→Bool
 |.im (.sc (.slice none 0 0))=>true
 |_=>false
theorem AV.isNil_eq:∀{a:AV},a.isNil=true→a=.im (.sc nilS)
 |.im (.sc (.slice none 0 0)),_=>rfl
def St.nil1 (st:St):NilAt→St
 |.sl s e k=>if((look st.fr s).getD .undef).isNil then{st with fr:=(s,.row st.next)::st.fr,objs:=(st.next,.row e k [])::st.objs,next:=st.next+1}else st
 |.cl n i e k=>match look st.objs n with
  |some (.box t cs)=>if((cs[i]?).getD .undef).isNil then{st with objs:=(n,.box t (cs.set i (.row st.next)))::(st.next,.row e k [])::st.objs,next:=st.next+1}else st
  |_=>st
 |.mv n i=>match look st.objs n with
  |some (.box t cs)=>match (cs[i]?).getD .undef with
   |.row r=>match look st.objs r with
    |some (.row e k xs)=>{st with objs:=(n,.box t (cs.set i (.row st.next)))::(st.next,.row e k xs)::(r,.gone)::st.objs,next:=st.next+1}
    |_=>st
   |_=>st
  |_=>st
 |.fz l=>{st.freeze l with fr:=viewF (st.freeze l) (st.freeze l).fr}
def Finer (st st':St) (m m':Nm):Prop:=(∀n l,m n=some l→m' n=some l)∧∀b,st'.owned m' b→st.owned m b
theorem Finer.refl (st:St) (m:Nm):Finer st st m m:=⟨fun _ _ h=>h,fun _ h=>h⟩
theorem Finer.new {st:St} {m m':Nm} {e:TypeId} {k:Nat} {xs:List (List IV)} (hm:∀n l,m n=some l→m' n=some l) (hb:∀n,n≠st.next→m' n=m n) (h0:m' st.next=some (.hdr none 0 0)) {s:St} (hs:s.objs=(st.next,.row e k xs)::st.objs):Finer st s m m':=by
 refine⟨hm,?_⟩
 rintro b ⟨n,o,l,h1,h2,h3,h4⟩
 simp only[St.obj,hs,look]at h1
 by_cases en:n=st.next
 ·subst en;rw[h0]at h3;cases h3;cases h4
 ·rw[if_neg (fun h=>en h.symm)]at h1
  rw[hb n en]at h3
  exact⟨n,o,l,h1,h2,h3,h4⟩
theorem look_viewF (s:St):∀(l:List (Nat×AV)) (i:Nat),look (viewF s l) i=(look l i).map (AV.view s)
 |[],i=>rfl
 |(j,x)::l,i=>by
  simp only[viewF,look]
  split
  ·rfl
  ·exact look_viewF s l i
theorem SimF.mv (h:SimF E st m a w) {n i r:Nat} {t:TypeId} {cs:List AV} {e:TypeId} {k:Nat} {xs:List (List IV)} (hn:look st.objs n=some (.box t cs)) (hi:cs[i]? =some (.row r)) (hr:look st.objs r=some (.row e k xs)):
  ∃m',SimF E {st with objs:=(n,.box t (cs.set i (.row st.next)))::(st.next,.row e k xs)::(r,.gone)::st.objs,next:=st.next+1} m' a w∧Finer st {st with objs:=(n,.box t (cs.set i (.row st.next)))::(st.next,.row e k xs)::(r,.gone)::st.objs,next:=st.next+1} m m':=by
 have lt_of:∀x o,st.obj x=some o→x<st.next:=fun x o hx=>by
  obtain⟨l,hl,_⟩:=h.objs x o hx
  rcases Nat.lt_or_ge x st.next with h1|h1
  ·exact h1
  ·rw[h.fresh x h1]at hl;cases hl
 have hnlt:=lt_of n _ hn
 have hrlt:=lt_of r _ hr
 have hnr:n≠r:=fun e=>by subst e;rw[hn]at hr;cases hr
 obtain⟨lr,hlr,hrr⟩:=h.objs r _ hr
 obtain⟨ln,hln,hrn⟩:=h.objs n _ hn
 refine⟨fun x=>if x=st.next then some lr else m x,?_⟩
 suffices hfin:Finer st {st with objs:=(n,.box t (cs.set i (.row st.next)))::(st.next,.row e k xs)::(r,.gone)::st.objs,next:=st.next+1} m (fun x=>if x=st.next then some lr else m x)∧_ from⟨hfin.2,hfin.1⟩
 have hob:∀(x:Nat) (o:AObj),look ((n,AObj.box t (cs.set i (.row st.next)))::(st.next,.row e k xs)::(r,.gone)::st.objs) x=some o→
   (x=n∧o=.box t (cs.set i (.row st.next)))∨(x=st.next∧o=.row e k xs)∨(x=r∧o=.gone)∨(x≠n∧x≠st.next∧x≠r∧st.obj x=some o):=by
  intro x o hx
  simp only[look]at hx
  by_cases e1:n=x
  ·rw[if_pos e1]at hx;cases hx;exact .inl ⟨e1.symm,rfl⟩
  ·rw[if_neg e1]at hx
   by_cases e2:st.next=x
   ·rw[if_pos e2]at hx;cases hx;exact .inr (.inl ⟨e2.symm,rfl⟩)
   ·rw[if_neg e2]at hx
    by_cases e3:r=x
    ·rw[if_pos e3]at hx;cases hx;exact .inr (.inr (.inl ⟨e3.symm,rfl⟩))
    ·rw[if_neg e3]at hx;exact .inr (.inr (.inr ⟨fun h=>e1 h.symm,fun h=>e2 h.symm,fun h=>e3 h.symm,hx⟩))
 have old:∀(x:Nat) (o:AObj) (l:Loc),look ((n,AObj.box t (cs.set i (.row st.next)))::(st.next,.row e k xs)::(r,.gone)::st.objs) x=some o→o.owns=true→(if x=st.next then some lr else m x)=some l→
   ∃y o',st.obj y=some o'∧o'.owns=true∧m y=some l∧((x=st.next∧y=r)∨(x≠st.next∧y=x∧x≠r)):=by
  intro x o l hx ho hl
  rcases hob x o hx with⟨rfl,rfl⟩|⟨rfl,rfl⟩|⟨rfl,rfl⟩|⟨h1,h2,h3,h4⟩
  ·rw[if_neg (by omega)]at hl
   exact⟨x,_,hn,rfl,hl,.inr ⟨by omega,rfl,hnr⟩⟩
  ·rw[if_pos rfl]at hl
   cases hl
   exact⟨r,_,hr,rfl,hlr,.inl ⟨rfl,rfl⟩⟩
  ·cases ho
  ·rw[if_neg h2]at hl
   exact⟨x,o,h4,ho,hl,.inr ⟨h2,rfl,h3⟩⟩
 have hown:∀b,({st with objs:=(n,.box t (cs.set i (.row st.next)))::(st.next,.row e k xs)::(r,.gone)::st.objs,next:=st.next+1}:St).owned (fun x=>if x=st.next then some lr else m x) b→st.owned m b:=by
  rintro b ⟨x,o,l,h1,h2,h3,h4⟩
  obtain⟨y,o',g1,g2,g3,_⟩:=old x o l h1 h2 h3
  exact⟨y,o',l,g1,g2,g3,h4⟩
 have hm:∀x l,m x=some l→(if x=st.next then some lr else m x)=some l:=by
  intro x l hx
  have:x≠st.next:=by rintro rfl;rw[h.fresh _ (Nat.le_refl _)]at hx;cases hx
  rw[if_neg this];exact hx
 have hc:∀p v,seen w (fun b=>st.owned m b∨E.Y b) p v→seen w (fun b=>({st with objs:=(n,.box t (cs.set i (.row st.next)))::(st.next,.row e k xs)::(r,.gone)::st.objs,next:=st.next+1}:St).owned (fun x=>if x=st.next then some lr else m x) b∨E.Y b) p v:=
  seen_mono (fun _ _ _=>rfl) (fun b _ hx=>hx.elim (fun hx=>.inl (hown b hx)) .inr)
 refine⟨⟨hm,hown⟩,?_⟩
 exact{
  objs:=by
   intro x o hx
   rcases hob x o hx with⟨rfl,rfl⟩|⟨rfl,rfl⟩|⟨rfl,rfl⟩|⟨h1,h2,h3,h4⟩
   ·refine⟨ln,by rw[if_neg (by omega)];exact hln,?_⟩
    obtain⟨b,arr,rfl,hh,hsz,hone,hcell⟩:=hrn
    refine⟨b,arr,rfl,hh,by simpa using hsz,hone,fun j y u k1 k2=>?_⟩
    rw[List.getElem?_set]at k1
    split at k1
    ·rename_i hij
     subst hij
     split at k1
     ·cases k1
      have:=hcell i _ u hi k2
      cases this with|row hml=>
      rw[hlr]at hml
      cases hml
      exact .row (by simp)
     ·cases k1
    ·exact(hcell j y u k1 k2).mono hm hc
   ·refine⟨lr,by simp,?_⟩
    exact objRep_mono hm hc (fun _ _ _=>rfl) hrr
   ·exact⟨lr,by rw[if_neg (by omega)];exact hlr,trivial⟩
   ·obtain⟨l,hl,hrep⟩:=h.objs x o h4
    exact⟨l,hm x l hl,objRep_mono hm hc (fun _ _ _=>rfl) hrep⟩
  apart:=by
   intro x x' o o' l l' b h1 h2 h3 h4 h5 h6 h7 h8
   obtain⟨y,p,g1,g2,g3,g4⟩:=old x o l h1 h3 h5
   obtain⟨y',p',k1,k2,k3,k4⟩:=old x' o' l' h2 h4 h6
   have:=h.apart y y' p p' l l' b g1 k1 g2 k2 g3 k3 h7 h8
   subst this
   rcases g4 with⟨e1,e2⟩|⟨e1,e2,e3⟩<;>rcases k4 with⟨e4,e5⟩|⟨e4,e5,e6⟩
   ·rw[e1,e4]
   ·exact absurd (e5.symm.trans e2) e6
   ·exact absurd (e2.symm.trans e5) e3
   ·rw[←e2,←e5]
  foreign:=fun b hb=>h.foreign b (hown b hb)
  fresh:=fun x hx=>by
   have hx':st.next+1≤x:=hx
   rw[if_neg (by omega)]
   exact h.fresh x (by omega)
  defers:=fun d hd=>(let ⟨b,e,hx⟩:=h.defers d hd;⟨b,e,hc _ _ hx⟩)
  size:=h.size
  fr:=fun s y hy=>(h.fr s y hy).mono hm hc
  kept:=h.kept
  mine:=fun b hb=>h.mine b (hown b hb)
  mext:=fun x l hx=>hm x l (h.mext x l hx)
  ylt:=h.ylt
  esz:=h.esz
  grd:=h.grd
  dnd:=h.dnd
  dge:=h.dge
  ndf:=h.ndf}
theorem SimF.nil1 (h:SimF E st m a w) (x:NilAt):∃m',SimF E (st.nil1 x) m' a w∧Finer st (st.nil1 x) m m':=by
 have hnew:∀(e:TypeId) (k:Nat),∃m',m' st.next=some (.hdr none 0 0)∧(∀n l,m n=some l→m' n=some l)∧(∀n,n≠st.next→m' n=m n)∧SimF E (st.new (.row e k [])) m' a w:=by
  intro e k
  obtain⟨g,hm⟩:=h.new (Below.refl _ _) (.row e k []) (.hdr none 0 0) (fun b hb _=>by cases hb) (fun m' c' _ _=>⟨none,0,[],rfl,World.ownsRow_nil w 0 e k,by simp,by simp,by simp⟩)
  exact⟨_,by simp,hm,fun n hn=>by simp[hn],g⟩
 cases x with
 |sl s e k=>
  simp only[St.nil1]
  split
  ·rename_i hn
   have hn:=AV.isNil_eq hn
   obtain⟨m',hm1,hm2,hm3,g⟩:=hnew e k
   refine⟨m',{objs:=g.objs,apart:=g.apart,foreign:=g.foreign,fresh:=g.fresh,defers:=g.defers,size:=g.size,fr:=?_,kept:=g.kept,mine:=g.mine,mext:=g.mext,ylt:=g.ylt,esz:=g.esz,grd:=g.grd,dnd:=g.dnd,dge:=g.dge,ndf:=g.ndf},Finer.new hm2 hm3 hm1 rfl⟩
   intro s' y hy
   simp only[look]at hy
   split at hy
   ·rename_i e'
    subst e'
    cases hy
    have hv:=raw_rep h.fr s
    unfold St.raw at hv
    rw[hn]at hv
    rw[hv.sc_inv]
    exact .row hm1
   ·exact g.fr s' y hy
  ·exact⟨m,h,Finer.refl _ _⟩
 |cl n i e k=>
  simp only[St.nil1]
  split
  ·rename_i t cs hob
   split
   ·rename_i hn
    have hn:=AV.isNil_eq hn
    obtain⟨m',hm1,hm2,hm3,g⟩:=hnew e k
    have hlt:n<st.next:=by
     obtain⟨l,hl,_⟩:=h.objs n _ hob
     rcases Nat.lt_or_ge n st.next with h1|h1
     ·exact h1
     ·rw[h.fresh n h1]at hl;cases hl
    have hob':(st.new (.row e k [])).obj n=some (.box t cs):=by
     simp only[St.new,St.obj,look]
     rw[if_neg (by omega)]
     exact hob
    obtain⟨l,hl,b,arr,rfl,hh,hsz,hone,hr⟩:=g.objs n _ hob'
    have hfn:=Finer.new (s:=st.new (.row e k [])) hm2 hm3 hm1 rfl
    refine⟨m',g.upd hob' rfl hl rfl ⟨rfl,rfl,rfl,Nat.le_refl _,fun _ _ _=>rfl⟩ (.box t (cs.set i (.row st.next))) rfl ⟨b,arr,rfl,hh,by simpa using hsz,hone,fun j y u h1 h2=>?_⟩,hm2,fun b' hb'=>hfn.2 b' ?_⟩
    ·rw[List.getElem?_set]at h1
     split at h1
     ·rename_i hij
      subst hij
      split at h1
      ·rename_i hlt'
       cases h1
       have:=hr i (.im (.sc nilS)) u (by rw[List.getElem?_eq_getElem hlt']at hn⊢;simpa using hn) h2
       rw[this.sc_inv]
       exact .row hm1
      ·cases h1
     ·exact hr j y u h1 h2
    ·have:=setObj_owned (m:=m') hob' (o':=.box t (cs.set i (.row st.next))) rfl rfl
     rw[←this]
     exact hb'
   ·exact⟨m,h,Finer.refl _ _⟩
  ·exact⟨m,h,Finer.refl _ _⟩
 |mv n i=>
  simp only[St.nil1]
  split
  ·rename_i t cs hn
   split
   ·rename_i r hi
    split
    ·rename_i e k xs hr
     have hi:cs[i]? =some (.row r):=by
      cases hx:cs[i]? with
      |none=>rw[hx]at hi;cases hi
      |some y=>rw[hx]at hi;rw[Option.getD_some]at hi;rw[hi]
     exact h.mv hn hi hr
    ·exact⟨m,h,Finer.refl _ _⟩
   ·exact⟨m,h,Finer.refl _ _⟩
  ·exact⟨m,h,Finer.refl _ _⟩
 |fz l=>
  have g:=h.freeze l
  refine⟨m,{objs:=g.objs,apart:=g.apart,foreign:=g.foreign,fresh:=g.fresh,defers:=g.defers,size:=g.size,fr:=?_,kept:=g.kept,mine:=g.mine,mext:=g.mext,ylt:=g.ylt,esz:=g.esz,grd:=g.grd,dnd:=g.dnd,dge:=g.dge,ndf:=g.ndf},fun _ _ h=>h,fun b hb=>freeze_owned l st b hb⟩
  intro s y hy
  have hy:look (viewF (st.freeze l) (st.freeze l).fr) s=some y:=hy
  rw[look_viewF,Option.map_eq_some_iff]at hy
  obtain⟨x,hx,rfl⟩:=hy
  exact view_rep g.toSimO (g.fr s x hx)
def St.nils (st:St):List NilAt→St
 |[]=>st
 |x::l=>(st.nil1 x).nils l
theorem SimF.nils:∀(l:List NilAt) {st:St} {m:Nm},SimF E st m a w→∃m',SimF E (st.nils l) m' a w∧Finer st (st.nils l) m m'
 |[],_,m,h=>⟨m,h,Finer.refl _ _⟩
 |x::l,_,_,h=>by
  obtain⟨m',h',hf⟩:=h.nil1 x
  obtain⟨m2,h2,hf2⟩:=SimF.nils l h'
  exact⟨m2,h2,fun n l hn=>hf2.1 n l (hf.1 n l hn),fun b hb=>hf.2 b (hf2.2 b hb)⟩
end Go.Am
namespace Go.Am
open Go.RowKit
variable {P:Program} {E:Env} {st:St} {m:Nm} {w:World} {a:Act}
def gcv (b want:Bool):Bool:=if want then b else !b
def CallN (P:Program) (f:FuncId) (args:List AV) (d:Option Nat) (k:St→Prop) (st:St):Prop:=
 ∃(j:Nat) (e:TypeId) (c:Nat),(args[j]?.getD .undef).isNil=true∧CallO P f (args.set j (.row st.next)) d k (st.new (.row e c []))
def CallY0 (P:Program) (f:FuncId) (args:List AV) (d:Option Nat) (k:St→Prop) (st:St):Prop:=CallK P f args d k st∨CallO P f args d k st∨CallN P f args d k st
structure OvF (P:Program) (f:FuncId) (fn:Func) (tS tR e0:TypeId) (size:Nat):Prop where
 hf:P.funcs[f]? =some fn
 hname:(fn.name== "runtime.NumGoroutine")=false
 hb:fn.body.isNone=true
 hn:Extern.findNext fn=none
 he:Extern.find fn=some (Extern.SlicesOverlaps.overlaps #[tS,tS] #[tR])
 ht:P.underlying tS=some (.slice e0)
 hz:tsz P e0=some size
def OvK (P:Program) (f:FuncId) (args:List AV) (d:Option Nat) (k:St→Prop) (st:St):Prop:=
 ∃(m1 n k0 lo len:Nat) (e1:TypeId) (k1:Nat) (ys:List (List IV)) (e:TypeId) (l c:Nat) (xs:List (List IV)),args=[.row m1,.sub n k0 lo len]∧st.obj m1=some (.row e1 k1 ys)∧st.obj n=some (.rowP e k0 l c xs)∧m1≠n∧ys≠[]∧xs≠[]∧0<k0∧lo<c∧
  (∃fn tS tR e0 size,OvF P f fn tS tR e0 size)∧k (st.put d (.bool false))
def ExtV (P:Program) (f:FuncId) (vs:List Value) (v:Value):Prop:=∀w,(callFunc f vs.toArray).run P w=.ok (.value v) w
def CallV (P:Program) (f:FuncId) (args:List AV) (d:Option Nat) (k:St→Prop) (st:St):Prop:=
 ∃(vs:List Value) (r:AV) (v:Value),args=vs.map (fun x=>AV.im (.sc x))∧ExtV P f vs v∧(∀m c,VRep m c r v)∧k (st.put d r)
def CallX0 (P:Program) (f:FuncId) (args:List AV) (d:Option Nat) (k:St→Prop) (st:St):Prop:=∃ns:List NilAt,CallY0 P f args d k (st.nils ns)
def CallY (P:Program) (f:FuncId) (args:List AV) (d:Option Nat) (k:St→Prop) (st:St):Prop:=CallK P f args d k st∨CallO P f args d k st∨CallN P f args d k st∨OvK P f args d k st∨CallV P f args d k st
def CallX (P:Program) (f:FuncId) (args:List AV) (d:Option Nat) (k:St→Prop) (st:St):Prop:=∃ns:List NilAt,CallY P f args d k (st.nils ns)
theorem CallX0.enters {f:FuncId} {args:List AV} {d:Option Nat} {k:St→Prop} (h:CallX0 P f args d k st):Enters P f:=by
 obtain⟨ns,h⟩:=h
 rcases h with⟨_,_,_,_,h,_⟩|⟨_,_,_,_,_,_,h,_⟩|⟨_,_,_,_,_,_,_,_,_,_,h,_⟩
 ·exact h.1
 ·exact h.1
 ·exact h.1
theorem callN_sound {f:FuncId} {args:List AV} {d:Option Nat} {k:St→Prop} (h:SimF E st m a w) (hk:CallN P f args d k st) {vs:Array Value} (hsz:vs.size=args.length)
  (hvs:∀(j:Nat) (y:AV) (u:Value),args[j]? =some y→vs[j]? =some u→VRep m (seen w (st.X m E.Y)) y u):
  Calls P f vs w fun e w'=>∃v m' st',e=.returned v∧k st'∧SimF E st' m' (a.put d v) w':=by
 obtain⟨j,e,c,hj,hk⟩:=hk
 have hj:=AV.isNil_eq hj
 obtain⟨g,hm⟩:=h.new (Below.refl _ _) (.row e c []) (.hdr none 0 0) (fun b hb _=>by cases hb) (fun m' c' _ _=>⟨none,0,[],rfl,World.ownsRow_nil w 0 e c,by simp,by simp,by simp⟩)
 have hX:∀b,(st.new (.row e c [])).X (fun n=>if n=st.next then some (.hdr none 0 0)else m n) E.Y b→st.X m E.Y b:=by
  rintro b (hx|hx)
  ·exact .inl ((Finer.new (s:=st.new (.row e c [])) hm (fun n hn=>by simp[hn]) (by simp) rfl).2 b hx)
  ·exact .inr hx
 refine callO_sound g hk (by simpa using hsz) fun i y u h1 h2=>?_
 rw[List.getElem?_set]at h1
 split at h1
 ·rename_i hij
  subst hij
  split at h1
  ·rename_i hlt
   cases h1
   have:=hvs j (.im (.sc nilS)) u (by rw[List.getElem?_eq_getElem hlt]at hj⊢;simpa using hj) h2
   rw[this.sc_inv]
   exact .row (by simp)
  ·cases h1
 ·exact(hvs i y u h1 h2).mono hm (seen_mono (fun _ _ _=>rfl) fun b _ hx=>hX b hx)
theorem callX_sound {f:FuncId} {args:List AV} {d:Option Nat} {k:St→Prop} (h:SimF E st m a w) (hk:CallX0 P f args d k st) {vs:Array Value} (hsz:vs.size=args.length)
  (hvs:∀(j:Nat) (y:AV) (u:Value),args[j]? =some y→vs[j]? =some u→VRep m (seen w (st.X m E.Y)) y u):
  Calls P f vs w fun e w'=>∃v m' st',e=.returned v∧k st'∧SimF E st' m' (a.put d v) w':=by
 obtain⟨ns,hk⟩:=hk
 obtain⟨m1,g,hm,ho⟩:=SimF.nils ns h
 have hvs1:∀(j:Nat) (y:AV) (u:Value),args[j]? =some y→vs[j]? =some u→VRep m1 (seen w ((st.nils ns).X m1 E.Y)) y u:=fun j y u h1 h2=>
  (hvs j y u h1 h2).mono hm (seen_mono (fun _ _ _=>rfl) fun b _ hx=>hx.elim (fun hx=>.inl (ho b hx)) .inr)
 rcases hk with hk|hk|hk
 ·exact callK_sound g hk hsz hvs1
 ·exact callO_sound g hk hsz hvs1
 ·exact callN_sound g hk hsz hvs1
def CallG (P:Program) (c:Bool) (f:FuncId) (args:List AV) (d:Option Nat) (k:St→Prop) (st:St):Prop:=
 (∃(fl:List Nat) (args':List AV) (v:Value),(c=true→FSpec P f args' [] (.im (.sc v)) []∧argsOk (st.freeze fl) args args')∧AV.pureL args'=true∧k (st.put d (.cond c (.im (.sc v)))))∨(c=true∧CallX P f args d k st)
def effK (r:Option (Bool×St)) (k:St→Prop):Prop:=
 match r with
 |some (s,st')=>s=true∧k st'
 |none=>False
def cfOp (P:Program) (o:Oper) (k:St→Prop) (st:St):Prop:=
 match o.op with
 |.alloc _|.box _ _=>match aDo P st o with
  |some st'=>k st'
  |none=>False
 |.store _ _ _=>match aDo P st o with
  |some st'=>k st'
  |none=>effK (aEff P st o) k
 |.buildSlice _ _ _|.makeSlice _ _ _=>effK (aEff P st o) k
 |.makeMap _ _|.mapUpdate _ _ _ _|.range _ _=>effK (aMp P st o) k
 |.next x false=>NextK st o x k
 |.slice t x none (some h) none=>(match aVal P st (.slice t x none (some h) none)with
  |some (s,r)=>s=true∧k (st.put o.dst r)
  |none=>False)∨effK (aMp P st o) k∨effK (aRP P st o) k
 |.call c=>match c.callee with
  |.value f=>match st.ev f with
   |.fn g cap=>CallX P g (c.args.toList.map st.ev++cap) o.dst k st
   |_=>False
  |.builtin .append=>match aEff P st o with
   |some (s,st')=>s=true∧k st'
   |none=>match aMp P st o with
    |some (s,st')=>s=true∧k st'
    |none=>effK (aRP P st o) k
  |.builtin .copy=>match aMp P st o with
   |some (s,st')=>s=true∧k st'
   |none=>effK (aRP P st o) k
  |.builtin .clear=>effK (aRP P st o) k
  |_=>match aVal P st o.op with
   |some (s,r)=>s=true∧k (st.put o.dst r)
   |none=>False
 |op=>match aVal P st op with
  |some (s,r)=>s=true∧k (st.put o.dst r)
  |none=>False
def cfG (P:Program) (o:Oper) (c:Bool) (k:St→Prop) (st:St):Prop:=
 match o.op with
 |.alloc _|.box _ _|.store _ _ _=>(c=true→match aDo P st o with
  |some st'=>k st'
  |none=>False)∧(c=false→k (st.put o.dst .undef))
 |.call cl=>match cl.callee with
  |.value f=>match ({st with grd:=some c}:St).ev f with
   |.fn g cap=>CallG P c g (cl.args.toList.map ({st with grd:=some c}:St).ev++cap) o.dst k st
   |_=>False
  |_=>match aVal P {st with grd:=some c} o.op with
   |some (s,r)=>(c=true→s=true)∧k (st.put o.dst (.cond c r))
   |none=>c=false∧k (st.put o.dst (.cond c .undef))
 |op=>match aVal P {st with grd:=some c} op with
  |some (s,r)=>(c=true→s=true)∧k (st.put o.dst (.cond c r))
  |none=>(c=false∧k (st.put o.dst (.cond c .undef)))∨(c=true∧cfOp P o k st)
def guardOf (x:AV) (want:Bool):Option Bool:=
 match x with
 |.im (.sc (.bool b))=>some (gcv b want)
 |.cond c (.im (.sc (.bool b)))=>some (c&&gcv b want)
 |.cond false _=>some false
 |_=>none
def cfOps (P:Program) (ops:List Oper):List Oper→(St→Prop)→St→Prop
 |[],k,st=>k st
 |o::rest,k,st=>match o.guard with
  |none=>cfOp P o (cfOps P ops rest k) st
  |some (j,want)=>match (ops[j]?).bind (·.dst)with
   |none=>False
   |some g=>match guardOf (st.raw g) want with
    |some c=>cfG P o c (cfOps P ops rest k) st
    |none=>False
theorem aVal_wp {o:Oper} {s:Bool} {r:AV} {K:Act→World→Prop} {Q:Exit→Act→World→Prop} (h:SimF E st m a w) {g:Option Bool} (hg:∀c,g=some c→c=true)
  (hv:aVal P {st with grd:=g} o.op=some (s,r)) (hs:s=true) (hk:∀v,VRep m (seen w (st.X m E.Y)) r v→K (a.put o.dst v) w):o.wp P a w K Q:=by
 obtain⟨v,h1,h2⟩:=aVal_sound (P:=P) (Y:=E.Y) (st:={st with grd:=g}) (m:=m) (w:=w) (a:=a) ⟨h.objs,h.apart,h.foreign,h.fresh⟩ (fun t=>get_rep (st:={st with grd:=g}) hg h.fr t) (fun t=>raw_rep (st:={st with grd:=g}) h.fr t) o hv hs
 exact wp_of_value (h2 w fun _ _=>rfl) (hk v h1)
theorem args_rep {Y:Nat→Prop} (hget:∀t,VRep m (seen w (st.X m Y)) (st.get t) (a.tmps.getD t Go.undef)) (args:Array Operand) {cap:List AV} {vs:Array Value} (hl:vs.size=cap.length)
  (hr:∀(j:Nat) (y:AV) (u:Value),cap[j]? =some y→vs[j]? =some u→VRep m (seen w (st.X m Y)) y u):
  (args.map a.eval++vs).size=(args.toList.map st.ev++cap).length∧∀(j:Nat) (y:AV) (u:Value),(args.toList.map st.ev++cap)[j]? =some y→(args.map a.eval++vs)[j]? =some u→VRep m (seen w (st.X m Y)) y u:=by
 refine⟨by simp[hl],fun j y u h1 h2=>?_⟩
 rw[List.getElem?_append]at h1
 rw[Array.getElem?_append]at h2
 simp only[List.length_map,Array.length_toList,Array.size_map]at h1 h2
 split at h1
 ·rename_i hj
  rw[if_pos hj]at h2
  simp[hj]at h1 h2
  subst h1 h2
  exact ev_rep hget _
 ·rename_i hj
  rw[if_neg hj]at h2
  exact hr _ y u h1 h2
theorem call_run {o:Oper} {c:Call} {f:Operand} (ho:o.op=.call c) (hf:c.callee=.value f) {g:FuncId} {vs:Array Value} (hv:a.eval f=.func (.func g) #[] vs) (he:Enters P g) (w:World):
  (execOp a.eval o).run P w=.ok (.enter g (c.args.map a.eval++vs)) w:=by
 simp only[execOp,ho,resolve,hf,Sem.run_bind,hv,Deferred.ofValue,Sem.run_pure,Result.andThen_ok,invoke,Array.empty_append]
 exact he _ w
theorem fn_inv {m:Nm} {c:Addr→Value→Prop} {g:FuncId} {cap:List AV} {v:Value} (h:VRep m c (.fn g cap) v):
  ∃vs,v=.func (.func g) #[] vs∧vs.size=cap.length∧∀(j:Nat) (y:AV) (u:Value),cap[j]? =some y→vs[j]? =some u→VRep m c y u:=by
 cases h with|fn hl hr=>exact⟨_,rfl,hl,hr⟩
theorem callX_wp {o:Oper} {c:Call} {f:Operand} {k:St→Prop} {K:Act→World→Prop} {Q:Exit→Act→World→Prop} (ho:o.op=.call c) (hf:c.callee=.value f) {g:FuncId} {vs:Array Value} (hv:a.eval f=.func (.func g) #[] vs)
  (h:SimF E st m a w) {args:List AV} (hc:CallX P g args o.dst k st) (hsz:(c.args.map a.eval++vs).size=args.length)
  (hvs:∀(j:Nat) (y:AV) (u:Value),args[j]? =some y→(c.args.map a.eval++vs)[j]? =some u→VRep m (seen w (st.X m E.Y)) y u)
  (hk:∀st' m' a' w',k st'→SimF E st' m' a' w'→K a' w'):o.wp P a w K Q:=by
 obtain⟨ns,hc⟩:=hc
 have hc':CallX0 P g args o.dst k st∨OvK P g args o.dst k (st.nils ns)∨CallV P g args o.dst k (st.nils ns):=by
  rcases hc with hc|hc|hc|hc
  ·exact .inl ⟨ns,.inl hc⟩
  ·exact .inl ⟨ns,.inr (.inl hc)⟩
  ·exact .inl ⟨ns,.inr (.inr hc)⟩
  ·exact .inr hc
 rcases hc' with hc|hc|hc
 ·unfold Oper.wp
  rw[call_run ho hf hv hc.enters]
  refine(callX_sound h hc hsz hvs).mono ?_
  rintro e w' ⟨v,m',st',rfl,hk',hs⟩
  exact hk _ _ _ _ hk' hs
 ·obtain⟨m0,h0,hm0,hown0⟩:=SimF.nils ns h
  have hvs:=fun(j:Nat) (y:AV) (u:Value) (h1:args[j]? =some y) (h2:(c.args.map a.eval++vs)[j]? =some u)=>
   (hvs j y u h1 h2).mono (c':=seen w ((st.nils ns).X m0 E.Y)) hm0 (seen_mono (fun _ _ _=>rfl) fun b _ hx=>hx.elim (fun hx=>.inl (hown0 b hx)) .inr)
  generalize st.nils ns=st at*
  have h:=h0
  obtain⟨m1,n,k0,lo,len,e1,k1,ys,e,l,c0,xs,rfl,ho1,ho2,hne,hys,hxs,hk0,hlo,⟨fn,tS,tR,e0,size,F⟩,hK⟩:=hc
  obtain⟨l1,hl1,A1,cp1,flat1,rfl,hown1,_⟩:=h.objs m1 _ ho1
  obtain⟨l2,hl2,A2,flat2,rfl,hlc,hown2,_⟩:=h.objs n _ ho2
  have hxl:0<xs.length:=List.length_pos_iff.2 hxs
  have hyl:0<ys.length:=List.length_pos_iff.2 hys
  rcases hown1.2 with⟨_,hz⟩|⟨g1,cap1,cur1,hv1,_,hh1,hn1,_,hcs1,_⟩
  ·omega
  rcases hown2.2 with⟨_,hz⟩|⟨g2,cap2,cur2,hv2,_,hh2,hn2,_,hcs2,_⟩
  ·omega
  injection hv1 with e11 _ e13
  injection hv2 with e21 _ e23
  subst e11 e13 e21 e23
  have hgne:g1≠g2:=fun e=>hne (h.apart m1 n _ _ _ _ g1 ho1 ho2 rfl rfl hl1 hl2 rfl (by rw[e];rfl))
  generalize hW:c.args.map a.eval++vs=W at*
  have hW2:W.size=2:=by simpa using hsz
  obtain⟨Wl⟩:=W
  match Wl,hW2 with
  |[u1,u2],_=>
   have r1:=hvs 0 _ u1 rfl rfl
   have r2:=hvs 1 _ u2 rfl rfl
   cases r1 with|row hm1=>
   rw[hl1]at hm1;cases hm1
   cases r2 with|sub hm2 hle2 hB2=>
   rw[hl2]at hm2;cases hm2
   have hB:=hB2 hlo
   subst hB
   have hrun:(Extern.SlicesOverlaps.overlaps #[tS,tS] #[tR] #[.slice (some ⟨g1,0,none⟩) ys.length cp1,.slice ((some ⟨g2,0,none⟩:Option Addr).map (·.add (lo*k0))) len (c0-lo)]).run P w=.ok (.bool false) w:=by
    have:=Lib.run_overlaps_apart (P:=P) w tS tR e0 F.ht size (fun w=>run_tsz F.hz w) ⟨g1,0,none⟩ ⟨g2,lo*k0,none⟩ ys.length cp1 len (c0-lo) hgne e1 e cur1.size cur2.size (by simp[World.shape?,hh1]) (by simp[World.shape?,hh2]) (by
     have:1≤c0*k0:=Nat.mul_pos (by omega) hk0
     omega) (by simp[World.frozen?,hh1]) (by simp[World.frozen?,hh1])
    simpa [add_at]using this
   have hx:(execOp a.eval o).run P w=.ok (.value (.bool false)) w:=by
    simp only[execOp,ho,resolve,hf,Sem.run_bind,hv,Deferred.ofValue,Sem.run_pure,Result.andThen_ok,invoke,Array.empty_append,hW]
    rw[run_callFunc_extern F.hf F.hname F.hb F.hn F.he,hrun]
    rfl
   exact wp_of_value hx (hk _ _ _ _ hK (h.put o.dst (.im .sc)))
 ·obtain⟨m0,h0,hm0,hown0⟩:=SimF.nils ns h
  obtain⟨us,r,v,rfl,hx,hr,hK⟩:=hc
  have hW:c.args.map a.eval++vs=us.toArray:=by
   apply Array.ext_getElem?
   intro j
   by_cases hj:j<us.length
   ·have hj2:j<(c.args.map a.eval++vs).size:=by rw[hsz];simpa using hj
    rw[Array.getElem?_eq_getElem hj2,List.getElem?_toArray,List.getElem?_eq_getElem hj]
    have:=hvs j (.im (.sc us[j])) _ (by simp[hj]) (Array.getElem?_eq_getElem hj2)
    rw[this.sc_inv]
   ·rw[Array.getElem?_eq_none (by rw[hsz];simpa using hj),Array.getElem?_eq_none (by simpa using hj)]
  have hx2:(execOp a.eval o).run P w=.ok (.value v) w:=by
   simp only[execOp,ho,resolve,hf,Sem.run_bind,hv,Deferred.ofValue,Sem.run_pure,Result.andThen_ok,invoke,Array.empty_append,hW]
   exact hx w
  exact wp_of_value hx2 (hk _ _ _ _ hK (h0.put o.dst (hr _ _)))
theorem cfOp_sound {o:Oper} {k:St→Prop} {K:Act→World→Prop} {Q:Exit→Act→World→Prop} (h:SimF E st m a w) (hc:cfOp P o k st)
  (hk:∀st' m' a' w',k st'→SimF E st' m' a' w'→K a' w'):o.wp P a w K Q:=by
 have val:∀{s:Bool} {r:AV},aVal P st o.op=some (s,r)→s=true→k (st.put o.dst r)→o.wp P a w K Q:=by
  intro s r h1 h2 h3
  have hst:({st with grd:=none}:St)=st:=by rw[←h.grd]
  exact aVal_wp h (g:=none) (fun _ e=>by cases e) (by rw[hst];exact h1) h2 (fun v hv=>hk _ _ _ _ h3 (h.put o.dst hv))
 have eff:effK (aEff P st o) k→o.wp P a w K Q:=by
  intro he
  unfold effK at he
  split at he
  ·rename_i s st' hd
   exact aEff_sound h hd he.1 fun m' a' w' hs=>hk _ _ _ _ he.2 hs
  ·cases he
 have effM:effK (aMp P st o) k→o.wp P a w K Q:=by
  intro he
  unfold effK at he
  split at he
  ·rename_i s st' hd
   exact aMp_sound h hd he.1 fun m' a' w' hs=>hk _ _ _ _ he.2 hs
  ·cases he
 have effP:effK (aRP P st o) k→o.wp P a w K Q:=by
  intro he
  unfold effK at he
  split at he
  ·rename_i s st' hd
   exact aRP_sound h hd he.1 fun m' a' w' hs=>hk _ _ _ _ he.2 hs
  ·cases he
 unfold cfOp at hc
 split at hc
 ·split at hc
  ·rename_i hd;exact aDo_sound h hd fun m' a' w' hs=>hk _ _ _ _ hc hs
  ·cases hc
 ·split at hc
  ·rename_i hd;exact aDo_sound h hd fun m' a' w' hs=>hk _ _ _ _ hc hs
  ·cases hc
 ·split at hc
  ·rename_i hd;exact aDo_sound h hd fun m' a' w' hs=>hk _ _ _ _ hc hs
  ·exact eff hc
 ·exact eff hc
 ·exact eff hc
 ·exact effM hc
 ·exact effM hc
 ·exact effM hc
 ·rename_i x ho
  exact hc.sound ho h hk
 ·rename_i t x hh ho
  rcases hc with hc|hc|hc
  ·split at hc
   ·rename_i hv;exact val (by rw[ho];exact hv) hc.1 hc.2
   ·cases hc
  ·exact effM hc
  ·exact effP hc
 ·rename_i c ho
  split at hc
  ·rename_i f hf
   split at hc
   ·rename_i g cap hfe
    have hx:=ev_rep h.get f
    rw[hfe]at hx
    obtain⟨vs,hv,hl,hr⟩:=fn_inv hx
    obtain⟨hsz,hvs⟩:=args_rep h.get c.args hl hr
    exact callX_wp ho hf hv h hc hsz hvs hk
   ·cases hc
  ·split at hc
   ·rename_i hd;exact aEff_sound h hd hc.1 fun m' a' w' hs=>hk _ _ _ _ hc.2 hs
   ·split at hc
    ·rename_i hd;exact aMp_sound h hd hc.1 fun m' a' w' hs=>hk _ _ _ _ hc.2 hs
    ·exact effP hc
  ·split at hc
   ·rename_i hd;exact aMp_sound h hd hc.1 fun m' a' w' hs=>hk _ _ _ _ hc.2 hs
   ·exact effP hc
  ·exact effP hc
  ·split at hc
   ·rename_i hv;exact val hv hc.1 hc.2
   ·cases hc
 ·split at hc
  ·rename_i hv;exact val hv hc.1 hc.2
  ·cases hc
theorem cfG_sound {o:Oper} {c:Bool} {k:St→Prop} {K:Act→World→Prop} {Q:Exit→Act→World→Prop} (h:SimF E st m a w) (hcf:cfG P o c k st)
  (hk:∀st' m' a' w',k st'→SimF E st' m' a' w'→K a' w'):(c=true→o.wp P a w K Q)∧(c=false→K (a.put o.dst Go.undef) w):=by
 have val:∀{s:Bool} {r:AV},aVal P {st with grd:=some c} o.op=some (s,r)→(c=true→s=true)→k (st.put o.dst (.cond c r))→(c=true→o.wp P a w K Q)∧(c=false→K (a.put o.dst Go.undef) w):=by
  intro s r h1 h2 h3
  refine⟨fun hc=>?_,fun hc=>?_⟩
  ·exact aVal_wp h (g:=some c) (fun _ e=>by cases e;exact hc) h1 (h2 hc) (fun v hv=>hk _ _ _ _ h3 (h.put o.dst (.cond (fun _=>hv) (fun h0=>by rw[hc]at h0;cases h0))))
  ·exact hk _ _ _ _ h3 (h.put o.dst (.cond (fun h0=>by rw[hc]at h0;cases h0) (fun _=>rfl)))
 have off:c=false∧k (st.put o.dst (.cond c .undef))→(c=true→o.wp P a w K Q)∧(c=false→K (a.put o.dst Go.undef) w):=by
  rintro⟨h1,h2⟩
  exact⟨fun hc=>(by rw[h1]at hc;cases hc),fun hc=>hk _ _ _ _ h2 (h.put o.dst (.cond (fun h0=>by rw[hc]at h0;cases h0) (fun _=>rfl)))⟩
 have eff:(c=true→match aDo P st o with|some st'=>k st'|none=>False)∧(c=false→k (st.put o.dst .undef))→(c=true→o.wp P a w K Q)∧(c=false→K (a.put o.dst Go.undef) w):=by
  rintro⟨h1,h2⟩
  refine⟨fun hc=>?_,fun hc=>hk _ _ _ _ (h2 hc) (h.put o.dst .undef)⟩
  have h1:=h1 hc
  split at h1
  ·rename_i hd;exact aDo_sound h hd fun m' a' w' hs=>hk _ _ _ _ h1 hs
  ·cases h1
 unfold cfG at hcf
 split at hcf
 ·exact eff hcf
 ·exact eff hcf
 ·exact eff hcf
 ·rename_i cl ho
  split at hcf
  ·rename_i f hf
   split at hcf
   ·rename_i g cap hfe
    rcases hcf with⟨fl,args',v,hspec,hpure,hK⟩|⟨rfl,hcx⟩
    rotate_left
    ·refine⟨fun _=>?_,fun hc=>(by cases hc)⟩
     have hget:=get_rep (st:={st with grd:=some true}) (fun _ e=>by cases e;rfl) h.fr
     have hx:=ev_rep hget f
     rw[hfe]at hx
     obtain⟨vs,hv,hl,hr⟩:=fn_inv hx
     obtain⟨hsz,hvs⟩:=args_rep (Y:=E.Y) (st:={st with grd:=some true}) hget cl.args hl hr
     exact callX_wp ho hf hv h hcx hsz hvs hk
    refine⟨fun hc=>?_,fun hc=>hk _ _ _ _ hK (h.put o.dst (.cond (fun h0=>by rw[hc]at h0;cases h0) (fun _=>rfl)))⟩
    obtain⟨hspec,hargs⟩:=hspec hc
    have hget:=get_rep (st:={st with grd:=some c}) (fun _ e=>by cases e;exact hc) h.fr
    have hx:=ev_rep hget f
    rw[hfe]at hx
    obtain⟨vs,hv,hl,hr⟩:=fn_inv hx
    obtain⟨hsz,hvs⟩:=args_rep (Y:=E.Y) (st:={st with grd:=some c}) hget cl.args hl hr
    unfold Oper.wp
    rw[call_run ho hf hv hspec.1]
    refine(h.call hspec hpure hargs hsz hvs).mono ?_
    rintro e w' ⟨v',m',rfl,hr',hO,hb,hdw,hnew⟩
    have:=hr'.sc_inv
    subst this
    exact hk _ _ _ _ hK ((h.grow hb).put o.dst (.cond (fun _=>.im .sc) (fun h0=>by rw[hc]at h0;cases h0)))
   ·cases hcf
  ·split at hcf
   ·rename_i hv;exact val hv hcf.1 hcf.2
   ·exact off hcf
 ·split at hcf
  ·rename_i hv;exact val hv hcf.1 hcf.2
  ·rcases hcf with hcf|⟨rfl,hcf⟩
   ·exact off hcf
   ·exact⟨fun _=>cfOp_sound (Q:=Q) h hcf hk,fun hc=>by cases hc⟩
theorem getD_some {tmps:Array Value} {g:Nat} {v:Value} (h:tmps.getD g Go.undef=v) (hne:v≠Go.undef):tmps[g]? =some v:=by
 rw[Array.getD_eq_getD_getElem?]at h
 cases hx:tmps[g]? with
 |none=>rw[hx]at h;exact absurd h.symm hne
 |some u=>rw[hx]at h;simp at h;rw[h]
theorem wanted_guard {ops:Array Oper} {o:Oper} {j g:Nat} {want c:Bool} (h:SimF E st m a w) (hgd:o.guard=some (j,want)) (hg:(ops.toList[j]?).bind (·.dst)=some g) (hgo:guardOf (st.raw g) want=some c):
  Region.wanted o (yielded ops a.tmps)=c:=by
 have hraw:=raw_rep h.fr g
 have hgt:(ops[j]?).bind (·.dst)=some g:=by simpa using hg
 simp only[Region.wanted,hgd,yielded,hgt,Option.bind_some]
 unfold guardOf at hgo
 split at hgo
 ·rename_i b hb
  cases hgo
  rw[hb]at hraw
  rw[getD_some hraw.sc_inv (by simp[Go.undef])]
  cases b<;>cases want<;>rfl
 ·rename_i c0 b hb
  cases hgo
  rw[hb]at hraw
  generalize hvv:a.tmps.getD g Go.undef=vv at hraw
  cases hraw with|cond ht hf=>
  cases c0
  ·have:=hf rfl
   subst this
   cases hx:a.tmps[g]? with
   |none=>simp
   |some u=>
    rw[Array.getD_eq_getD_getElem?,hx]at hvv
    simp at hvv
    subst hvv
    simp[Go.undef]
  ·have:=(ht rfl).sc_inv
   subst this
   rw[getD_some hvv (by simp[Go.undef])]
   cases b<;>cases want<;>rfl
 ·rename_i x _ hb
  cases hgo
  rw[hb]at hraw
  generalize hvv:a.tmps.getD g Go.undef=vv at hraw
  cases hraw with|cond ht hf=>
  have:=hf rfl
  subst this
  cases hx:a.tmps[g]? with
  |none=>simp
  |some u=>
   rw[Array.getD_eq_getD_getElem?,hx]at hvv
   simp at hvv
   subst hvv
   simp[Go.undef]
 ·cases hgo
theorem cfOps_sound {ops:Array Oper} {k:St→Prop} {Q:Exit→Act→World→Prop} (hk:∀st' m' a' w',k st'→SimF E st' m' a' w'→Q .normal a' w'):
  ∀(l:List Oper) (st:St) (m:Nm) (a:Act) (w:World),SimF E st m a w→cfOps P ops.toList l k st→wpList P ops Q l a w
 |[],st,m,a,w,h,hc=>hk st m a w hc h
 |o::rest,st,m,a,w,h,hc=>by
  have ih:=fun(st:St) (m:Nm) (a:Act) (w:World) (h:SimF E st m a w) (hc:cfOps P ops.toList rest k st)=>cfOps_sound hk rest st m a w h hc
  simp only[cfOps]at hc
  unfold wpList
  split at hc
  ·rename_i hgd
   rw[if_pos (by simp[Region.wanted,hgd])]
   exact .inl (cfOp_sound h hc fun st' m' a' w' hk' hs=>ih st' m' a' w' hs hk')
  ·rename_i j want hgd
   split at hc
   ·cases hc
   ·rename_i g hg
    split at hc
    ·rename_i c hgo
     obtain⟨h1,h2⟩:=cfG_sound (Q:=Q) h hc fun st' m' a' w' hk' hs=>ih st' m' a' w' hs hk'
     have hw:=wanted_guard h hgd hg hgo
     rw[hw]
     cases c
     ·exact h2 rfl
     ·exact .inl (h1 rfl)
    ·cases hc
end Go.Am
namespace Go.Am
open Go.RowKit
variable {P:Program} {E:Env} {st:St} {m:Nm} {w:World} {a:Act}
attribute [local simp] AV.flat AV.flatL AV.pure AV.pureL AV.view1 AV.view AV.le AV.leL
mutual
theorem AV.le_refl:∀a:AV,a.le a
 |.im x=>⟨x,rfl,.inl rfl⟩
 |.tup cs=>⟨cs,rfl,AV.leL_refl cs⟩
 |.agg cs=>⟨cs,rfl,AV.leL_refl cs⟩
 |.eptr _=>rfl
 |.rptr _ _ _ _=>rfl
 |.ptr _ _=>rfl
 |.row _=>rfl
 |.fn _ _=>rfl
 |.map _=>rfl
 |.yld _=>rfl
 |.sub _ _ _ _=>rfl
 |.cut _ _=>rfl
 |.cond _ _=>rfl
 |.undef=>trivial
theorem AV.leL_refl:∀l:List AV,AV.leL l l
 |[]=>rfl
 |a::l=>⟨a,l,rfl,AV.le_refl a,AV.leL_refl l⟩
end
theorem view1_pure (st:St) (a:AV) (h:a.pure=true):a.view1 st=a:=by cases a<;>first|rfl|cases h
theorem map_view1_pure (st:St):∀l:List AV,AV.pureL l=true→l.map (AV.view1 st)=l
 |[],_=>rfl
 |a::l,h=>by
  simp only[AV.pureL,Bool.and_eq_true]at h
  simp only[List.map_cons,view1_pure st a h.1,map_view1_pure st l h.2]
theorem view_pure (st:St) (a:AV) (h:a.pure=true):a.view st=a:=by
 cases a with
 |agg cs=>simp only[AV.view];rw[map_view1_pure st cs h]
 |tup cs=>
  simp only[AV.view]
  congr 1
  have:∀l:List AV,AV.pureL l=true→l.map (fun a=>match a with|.agg ds=>.agg (ds.map (AV.view1 st))|a=>a.view1 st)=l:=by
   intro l
   induction l with
   |nil=>intro _;rfl
   |cons a l ih=>
    intro h
    simp only[AV.pureL,Bool.and_eq_true]at h
    rw[List.map_cons,ih h.2]
    congr 1
    cases a with
    |agg ds=>simp only[map_view1_pure st ds h.1]
    |_=>exact view1_pure st _ h.1
  exact this cs h
 |_=>exact view1_pure st _ h
theorem map_view_pure (st:St):∀l:List AV,AV.pureL l=true→l.map (AV.view st)=l
 |[],_=>rfl
 |a::l,h=>by
  simp only[AV.pureL,Bool.and_eq_true]at h
  simp only[List.map_cons,view_pure st a h.1,map_view_pure st l h.2]
theorem le_view1 (st:St) {x y:AV} (h:x.le y) (hp:y.pure=true):(x.view1 st).le y:=by
 cases y with
 |undef=>trivial
 |im z=>obtain⟨z',rfl,h⟩:=h;exact⟨z',rfl,h⟩
 |eptr cs=>simp only[AV.le]at h;subst h;rfl
 |agg ds=>obtain⟨cs,rfl,h⟩:=h;exact⟨cs,rfl,h⟩
 |tup ds=>obtain⟨cs,rfl,h⟩:=h;exact⟨cs,rfl,h⟩
 |fn f cs=>simp only[AV.le]at h;subst h;rfl
 |cond b d=>simp only[AV.le]at h;subst h;rfl
 |rptr _ _ _ _=>cases hp
 |ptr _ _=>cases hp
 |row _=>cases hp
 |map _=>cases hp
 |yld _=>cases hp
 |sub _ _ _ _=>cases hp
 |cut _ _=>cases hp
theorem le_views (st:St):∀(ds cs:List AV),AV.leL cs ds→AV.pureL ds=true→AV.leL (cs.map (AV.view1 st)) ds
 |[],cs,h,hp=>by simp only[AV.leL]at h;subst h;rfl
 |d::ds,cs,h,hp=>by
  simp only[AV.leL]at h
  obtain⟨c,cs',rfl,h1,h2⟩:=h
  simp only[AV.pureL,Bool.and_eq_true]at hp
  exact⟨_,_,rfl,le_view1 st h1 hp.1,le_views st ds cs' h2 hp.2⟩
theorem le_viewt (st:St):∀(ds cs:List AV),AV.leL cs ds→AV.pureL ds=true→AV.leL (cs.map fun a=>match a with|.agg ds=>.agg (ds.map (AV.view1 st))|a=>a.view1 st) ds
 |[],cs,h,hp=>by simp only[AV.leL]at h;subst h;rfl
 |d::ds,cs,h,hp=>by
  simp only[AV.leL]at h
  obtain⟨c,cs',rfl,h1,h2⟩:=h
  simp only[AV.pureL,Bool.and_eq_true]at hp
  refine⟨_,_,rfl,?_,le_viewt st ds cs' h2 hp.2⟩
  cases d with
  |undef=>trivial
  |agg es=>
   simp only[AV.le]at h1
   obtain⟨fs,rfl,h1⟩:=h1
   exact⟨_,rfl,le_views st es fs h1 hp.1⟩
  |_=>
   have:=le_view1 st h1 hp.1
   cases c with
   |agg fs=>exfalso;simp[AV.le]at h1
   |_=>exact this
theorem le_view (st:St) {x y:AV} (h:x.le y) (hp:y.pure=true):(x.view st).le y:=by
 cases y with
 |undef=>trivial
 |agg ds=>
  simp only[AV.le]at h
  obtain⟨cs,rfl,h⟩:=h
  exact⟨_,rfl,le_views st ds cs h hp⟩
 |tup ds=>
  simp only[AV.le]at h
  obtain⟨cs,rfl,h⟩:=h
  exact⟨_,rfl,le_viewt st ds cs h hp⟩
 |_=>
  have:=le_view1 st h hp
  cases x with
  |agg fs=>exfalso;simp[AV.le]at h
  |tup fs=>exfalso;simp[AV.le]at h
  |_=>exact this
theorem leL_view (st:St):∀(ds cs:List AV),AV.leL cs ds→AV.pureL ds=true→AV.leL (cs.map (AV.view st)) ds
 |[],cs,h,hp=>by simp only[AV.leL]at h;subst h;rfl
 |d::ds,cs,h,hp=>by
  simp only[AV.leL]at h
  obtain⟨c,cs',rfl,h1,h2⟩:=h
  simp only[AV.pureL,Bool.and_eq_true]at hp
  exact⟨_,_,rfl,le_view st h1 hp.1,leL_view st ds cs' h2 hp.2⟩
end Go.Am
namespace Go.Am
open Go.RowKit
variable {P:Program} {E:Env} {st:St} {m:Nm} {w:World} {a:Act}
abbrev Res:=AV×Option AObj
def after1 (o:Oper):List Nat:=(o.after.toList.filter (Region.binds .any ·)).map (·.on)
def frOf (ops:List Oper) (res:List Res) (is:List Nat):List (Nat×AV):=
 is.filterMap fun j=>match ops[j]?,res[j]? with
  |some o,some (r,_)=>o.dst.map fun d=>(d,r)
  |_,_=>none
def obOf (res:List Res) (base:Nat) (is:List Nat):List (Nat×AObj):=
 is.filterMap fun j=>match res[j]? with
  |some (_,some o)=>some (base+j,o)
  |_=>none
def stMin (ops:List Oper) (res:List Res) (st:St) (is:List Nat):St:=
 {fr:=frOf ops res is++st.fr,objs:=obOf res st.next is++st.objs,next:=st.next+ops.length,size:=st.size,grd:=none}
def OpF (P:Program) (s:St) (o:Oper) (nm:Nat) (re:Res):Prop:=
 match o.op with
 |.alloc t=>match zcells P t with
  |some zs=>zs.all Value.oneCell'=true∧re=(.ptr nm 0,some (.box t (zs.map fun v=>.im (.sc v))))
  |none=>False
 |.box t x=>match (s.ev x).cells with
  |some cs=>re=(.ptr nm 0,some (.box t cs))
  |none=>False
 |.store _ _ _=>False
 |.call c=>match c.callee with
  |.value f=>match s.ev f with
   |.fn g cap=>∃args',FSpec P g args' [] re.1 []∧AV.pureL args'=true∧AV.leL (c.args.toList.map s.ev++cap) args'∧re.1.pure=true∧re.2=none
   |_=>False
  |_=>match aVal P s o.op with
   |some (sd,r)=>sd=true∧re=(r,none)
   |none=>False
 |op=>match aVal P s op with
  |some (sd,r)=>sd=true∧re=(r,none)
  |none=>False
def OpFG (P:Program) (s:St) (c:Bool) (o:Oper) (re:Res):Prop:=
 match o.op with
 |.alloc _|.box _ _|.store _ _ _=>False
 |.call cl=>match cl.callee with
  |.value f=>match ({s with grd:=some c}:St).ev f with
   |.fn g cap=>∃v args',re=(.cond c (.im (.sc v)),none)∧(c=true→FSpec P g args' [] (.im (.sc v)) []∧AV.leL (cl.args.toList.map ({s with grd:=some c}:St).ev++cap) args')∧AV.pureL args'=true
   |_=>False
  |_=>match aVal P {s with grd:=some c} o.op with
   |some (sd,r)=>(c=true→sd=true)∧re=(.cond c r,none)
   |none=>False
 |op=>match aVal P {s with grd:=some c} op with
  |some (sd,r)=>(c=true→sd=true)∧re=(.cond c r,none)
  |none=>False
def OpA (P:Program) (ops:List Oper) (s:St) (o:Oper) (nm:Nat) (re:Res):Prop:=
 match o.guard with
 |none=>OpF P s o nm re
 |some (j,want)=>match (ops[j]?).bind (·.dst)with
  |none=>False
  |some g=>match guardOf (s.raw g) want with
   |some c=>(c=false∧∃x,re=(.cond false x,none))∨(c=true∧OpF P s o nm re)∨OpFG P s c o re
   |none=>False
def tmpsOf (ops:List Oper) (o:Oper):List Tmp:=
 (o.op.operands.toList.filterMap fun|.tmp t=>some t|_=>none)++(match o.guard with|some (j,_)=>((ops[j]?).bind (·.dst)).toList|none=>[])
theorem cellsAt_mono {s s':St} (hob:∀n o,s.obj n=some o→s'.obj n=some o) {x:AV} {k:Nat} {cs:List AV} (h:s.cellsAt x k=some cs):s'.cellsAt x k=some cs:=by
 unfold St.cellsAt at*
 split at h
 ·split at h
  ·rename_i ho;rw[hob _ _ ho];exact h
  ·cases h
 ·exact h
 ·split at h
  ·rename_i ho;rw[hob _ _ ho];exact h
  ·cases h
 ·split at h
  ·rename_i ho;rw[hob _ _ ho];exact h
  ·cases h
 ·cases h
theorem fillA_mono {t:TypeId} {ev ev':Operand→AV}:∀(l:List (Nat×Operand)) (cs:List AV),(∀p∈l,ev' p.2=ev p.2)→fillA P t ev' cs l=fillA P t ev cs l
 |[],cs,h=>rfl
 |(i,x)::l,cs,h=>by
  have ih:=fun cs=>fillA_mono (t:=t) (ev:=ev) (ev':=ev') l cs fun p hp=>h p (List.mem_cons_of_mem _ hp)
  have hx:ev' x=ev x:=h (i,x) List.mem_cons_self
  simp only[fillA,hx,ih]
theorem aVal2_mono {s s':St} {op:Op} {p:Bool×AV} (hev:∀x∈op.operands,s'.ev x=s.ev x) (h:aVal2 P s op=some p):aVal2 P s' op=some p:=by
 unfold aVal2 at h⊢
 split at h
 ·rename_i t parts
  have hfl:=fun cs=>fillA_mono (P:=P) (t:=t) (ev:=s.ev) (ev':=s'.ev) parts.toList cs (fun q hq=>hev q.2 (by simp only[Op.operands,List.mem_toArray,List.mem_map];exact⟨q,hq,rfl⟩))
  split at h
  ·rename_i hz hq;rw[hfl];exact h
  ·cases h
 ·rename_i f first cap
  have:cap.toList.map s'.ev=cap.toList.map s.ev:=List.map_congr_left fun x hx=>hev x (by simp only[Op.operands];exact Array.mem_append_right _ (by simpa using hx))
  rw[this]
  exact h
 ·rename_i t x lo hi
  have hx:=hev x (by simp[Op.operands])
  have hlo:evO s' lo=evO s lo:=by
   cases lo with
   |none=>rfl
   |some y=>exact hev y (by simp[Op.operands])
  have hhi:evO s' hi=evO s hi:=by
   cases hi with
   |none=>rfl
   |some y=>exact hev y (by simp[Op.operands])
  simp only[hx,hlo,hhi]
  exact h
 ·rename_i t x f
  have hx:=hev x (by simp[Op.operands])
  simp only[hx]
  exact h
 ·cases h
theorem mpVal_mono {s s':St} (hob:∀n o,s.obj n=some o→s'.obj n=some o) {q:IntKind} {e:TypeId} {key:Int} {x:AV} {r:AV×Bool} (h:mpVal P s q e key x=some r):mpVal P s' q e key x=some r:=by
 unfold mpVal at h⊢
 split at h
 ·split at h
  ·rename_i ho;rw[hob _ _ ho];exact h
  ·cases h
 ·exact h
 ·cases h
theorem aStr_mono {s s':St} (hob:∀n o,s.obj n=some o→s'.obj n=some o) {e d:TypeId} {x:AV} {r:Bool×AV} (h:aStr P s e d x=some r):aStr P s' e d x=some r:=by
 have hr:∀q,rowAt s x=some q→rowAt s' x=some q:=by
  intro q hq
  unfold rowAt at hq⊢
  split at hq
  ·exact hq
  ·exact hq
  ·split at hq
   ·rename_i ho;rw[hob _ _ ho];exact hq
   ·rename_i ho;rw[hob _ _ ho];exact hq
   ·cases hq
  ·split at hq
   ·rename_i ho;rw[hob _ _ ho];exact hq
   ·rename_i ho;rw[hob _ _ ho];exact hq
   ·cases hq
  ·cases hq
 unfold aStr at h⊢
 split at h
 ·rename_i hc
  rw[if_pos hc]
  split at h
  ·rename_i xs hx;rw[hr _ hx];exact h
  ·cases h
 ·cases h
theorem subP_mono {s s':St} (hob:∀n o,s.obj n=some o→s'.obj n=some o) {x:AV} {r:Nat×Nat×Nat×Nat×Nat} (h:subP s x=some r):subP s' x=some r:=by
 unfold subP at h⊢
 split at h
 ·split at h
  ·rename_i ho;rw[hob _ _ ho];exact h
  ·cases h
 ·split at h
  ·rename_i ho;rw[hob _ _ ho];exact h
  ·cases h
 ·cases h
theorem aVal_mono {s s':St} {op:Op} {p:Bool×AV} (hev:∀x∈op.operands,s'.ev x=s.ev x) (hevR:∀x∈op.operands,s'.evR x=s.evR x) (hob:∀n o,s.obj n=some o→s'.obj n=some o) (h:aVal P s op=some p):aVal P s' op=some p:=by
 unfold aVal at h⊢
 split at h
 ·rename_i x;simp only[hev x (by simp[Op.operands])];exact h
 ·rename_i x;simp only[hev x (by simp[Op.operands])];exact h
 ·rename_i t x
  simp only[hev x (by simp[Op.operands])]
  split at h
  ·simp only[Option.map_eq_some_iff]at h⊢
   obtain⟨cs,hc,h⟩:=h
   exact⟨cs,cellsAt_mono hob hc,h⟩
  ·split at h
   ·rename_i hc;rw[cellsAt_mono hob hc];exact h
   ·cases h
  ·cases h
 ·rename_i t x f;simp only[hev x (by simp[Op.operands])];exact h
 ·rename_i t x i
  simp only[hev x (by simp[Op.operands]),hev i (by simp[Op.operands])]
  split at h
  ·split at h
   ·exact h
   ·split at h
    ·rename_i ho;simp only[hob _ _ ho];exact h
    ·rename_i ho;simp only[hob _ _ ho];exact h
    ·cases h
   ·split at h
    ·rename_i ho;simp only[hob _ _ ho];exact h
    ·cases h
   ·cases h
  ·exact h
  ·exact h
 ·rename_i x;simp only[hev x (by simp[Op.operands])];exact h
 ·rename_i t x;simp only[hev x (by simp[Op.operands])];exact h
 ·rename_i t x;simp only[hev x (by simp[Op.operands])];exact h
 ·rename_i op t x y ty;simp only[hev x (by simp[Op.operands]),hev y (by simp[Op.operands])];exact h
 ·rename_i sc d x
  simp only[hev x (by simp[Op.operands])]
  split at h
  ·exact h
  ·rename_i e hs1
   exact aStr_mono hob h
  ·cases h
 ·rename_i t i;simp only[hev t (by simp[Op.operands])];exact h
 ·rename_i c
  obtain⟨cal,args,tys⟩:=c
  unfold aCall at h⊢
  simp only at h⊢
  split at h
  ·rename_i x t hargs htys
   have hx:=hev x (by simp only[Op.operands,Call.operands];apply Array.mem_append_right;rw[←Array.mem_toList_iff,hargs];simp)
   simp only[hx]
   split at h
   ·exact h
   ·exact h
   ·exact h
   ·split at h
    ·rename_i ho;simp only[hob _ _ ho];exact h
    ·rename_i ho;simp only[hob _ _ ho];exact h
    ·rename_i ho;simp only[hob _ _ ho];exact h
    ·cases h
   ·exact h
   ·split at h
    ·rename_i hq ho;simp only[hob _ _ ho,hq];exact h
    ·cases h
   ·cases h
  ·rename_i x t hargs htys
   have hx:=hev x (by simp only[Op.operands,Call.operands];apply Array.mem_append_right;rw[←Array.mem_toList_iff,hargs];simp)
   simp only[hx]
   split at h
   ·exact h
   ·split at h
    ·rename_i ho;simp only[hob _ _ ho];exact h
    ·cases h
   ·cases h
  ·rename_i x y hargs
   have hx:=hev x (by simp only[Op.operands,Call.operands];apply Array.mem_append_right;rw[←Array.mem_toList_iff,hargs];simp)
   have hy:=hev y (by simp only[Op.operands,Call.operands];apply Array.mem_append_right;rw[←Array.mem_toList_iff,hargs];simp)
   simp only[hx,hy]
   exact h
  ·rename_i x y hargs
   have hx:=hev x (by simp only[Op.operands,Call.operands];apply Array.mem_append_right;rw[←Array.mem_toList_iff,hargs];simp)
   have hy:=hev y (by simp only[Op.operands,Call.operands];apply Array.mem_append_right;rw[←Array.mem_toList_iff,hargs];simp)
   simp only[hx,hy]
   exact h
  ·cases h
 ·rename_i c x y;simp only[hev c (by simp[Op.operands]),hevR x (by simp[Op.operands]),hevR y (by simp[Op.operands])];exact h
 ·rename_i t x i;simp only[hev x (by simp[Op.operands]),hev i (by simp[Op.operands])];exact h
 ·rename_i t x i ok
  have hx:=hev x (by simp[Op.operands])
  have hi:=hev i (by simp[Op.operands])
  unfold aLook at h⊢
  simp only[hx,hi]
  split at h
  ·split at h
   ·rename_i hqq
    rw[if_pos hqq]
    split at h
    ·rename_i v b hv
     have:mpVal P s' _ _ _ (s.ev x)=some (v,b):=mpVal_mono hob hv
     simp only[this]
     exact h
    ·cases h
   ·cases h
  ·cases h
 ·rename_i x
  have hx:=hev x (by simp[Op.operands])
  unfold aEnt at h⊢
  simp only[hx]
  split at h
  ·split at h
   ·rename_i ho
    simp only[hob _ _ ho]
    split at h
    ·rename_i hn hl
     simp only[hob _ _ hn,hl]
     exact h
    ·cases h
   ·cases h
  ·cases h
 ·rename_i t x lo hi
  have hx:=hev x (by simp[Op.operands])
  have hlo:evO s' lo=evO s lo:=by
   cases lo with
   |none=>rfl
   |some y=>exact hev y (by simp[Op.operands])
  have hhi:evO s' hi=evO s hi:=by
   cases hi with
   |none=>rfl
   |some y=>exact hev y (by simp[Op.operands])
  simp only[hx]
  split at h
  ·rename_i n hn
   split at h
   ·rename_i ho
    simp only[hob _ _ ho]
    unfold aSubP at h⊢
    split at h
    ·rename_i hs
     simp only[subP_mono hob hs,hlo,hhi]
     exact h
    ·cases h
   ·rename_i hno
    simp only[aSub]at h⊢
    split at h
    ·rename_i ho
     simp only[hob _ _ ho,hlo,hhi]
     exact h
    ·cases h
  ·rename_i n k l0 len hn
   unfold aSubP at h⊢
   split at h
   ·rename_i hs
    simp only[subP_mono hob hs,hlo,hhi]
    exact h
   ·cases h
  ·rename_i hn
   exact aVal2_mono (s':=s') hev h
 ·rename_i t x lo hi mx
  simp only[hev x (by simp[Op.operands]),hev lo (by simp[Op.operands]),hev hi (by simp[Op.operands]),hev mx (by simp[Op.operands])]
  unfold aSub3 at h⊢
  split at h
  ·rename_i hs
   simp only[subP_mono hob hs,hev lo (by simp[Op.operands]),hev hi (by simp[Op.operands]),hev mx (by simp[Op.operands])]
   exact h
  ·cases h
 ·rename_i t x hi mx
  simp only[hev x (by simp[Op.operands]),hev hi (by simp[Op.operands]),hev mx (by simp[Op.operands])]
  unfold aCut at h⊢
  split at h
  ·rename_i n hn
   simp only[hev hi (by simp[Op.operands]),hev mx (by simp[Op.operands])]
   cases ho:s.obj n with
   |none=>rw[ho]at h;simp at h
   |some o=>rw[hob _ _ ho];rw[ho]at h;exact h
  ·cases h
 ·exact aVal2_mono hev h
theorem look_app {α:Type}:∀(l l':List (Nat×α)) (n:Nat),look (l++l') n=match look l n with|some x=>some x|none=>look l' n
 |[],l',n=>rfl
 |(i,x)::l,l',n=>by
  simp only[List.cons_append,look]
  split
  ·rfl
  ·exact look_app l l' n
theorem look_none {α:Type}:∀(l:List (Nat×α)) (n:Nat),(∀p∈l,p.1≠n)→look l n=none
 |[],_,_=>rfl
 |(i,x)::l,n,h=>by
  simp only[look]
  rw[if_neg (h _ List.mem_cons_self)]
  exact look_none l n fun p hp=>h p (List.mem_cons_of_mem _ hp)
theorem look_some {α:Type}:∀(l:List (Nat×α)) (n:Nat) (x:α),(n,x)∈l→(∀p∈l,p.1=n→p.2=x)→look l n=some x
 |(i,y)::l,n,x,hm,hu=>by
  simp only[look]
  split
  ·rename_i e;exact congrArg some (hu _ List.mem_cons_self e)
  ·rename_i e
   rcases List.mem_cons.1 hm with h|h
   ·cases h;exact absurd rfl e
   ·exact look_some l n x h fun p hp=>hu p (List.mem_cons_of_mem _ hp)
section
variable {ops:List Oper} {res:List Res}
theorem mem_frOf {is:List Nat} {p:Nat×AV}:p∈frOf ops res is↔∃j o r ob,j∈is∧ops[j]? =some o∧res[j]? =some (r,ob)∧o.dst=some p.1∧p.2=r:=by
 unfold frOf
 rw[List.mem_filterMap]
 constructor
 ·rintro⟨j,hj,h⟩
  split at h
  ·rename_i o r ob ho hr
   simp only[Option.map_eq_some_iff]at h
   obtain⟨d,hd,rfl⟩:=h
   exact⟨j,o,r,ob,hj,ho,hr,hd,rfl⟩
  ·cases h
 ·rintro⟨j,o,r,ob,hj,ho,hr,hd,he⟩
  refine⟨j,hj,?_⟩
  simp only[ho,hr,hd,Option.map_some,←he]
theorem mem_obOf {is:List Nat} {base:Nat} {p:Nat×AObj}:p∈obOf res base is↔∃j r,j∈is∧res[j]? =some (r,some p.2)∧p.1=base+j:=by
 unfold obOf
 rw[List.mem_filterMap]
 constructor
 ·rintro⟨j,hj,h⟩
  split at h
  ·rename_i r o hr
   cases h
   exact⟨j,r,hj,hr,rfl⟩
  ·cases h
 ·rintro⟨j,r,hj,hr,he⟩
  refine⟨j,hj,?_⟩
  simp only[hr,←he]
theorem fr_out {is:List Nat} {F:List (Nat×AV)} {t:Tmp} (h:∀j o,j∈is→ops[j]? =some o→o.dst≠some t):look (frOf ops res is++F) t=look F t:=by
 rw[look_app,look_none]
 intro p hp he
 obtain⟨j',o',r',ob',hj',ho',hr',hd',he'⟩:=mem_frOf.1 hp
 exact h j' o' hj' ho' (by rw[hd',he])
theorem ob_in {is:List Nat} {base:Nat} {O:List (Nat×AObj)} {j:Nat} {r:AV} {o:AObj} (hj:j∈is) (hr:res[j]? =some (r,some o)):look (obOf res base is++O) (base+j)=some o:=by
 rw[look_app,look_some (obOf res base is) (base+j) o (mem_obOf.2 ⟨j,r,hj,hr,rfl⟩)]
 intro p hp he
 obtain⟨j',r',hj',hr',he'⟩:=mem_obOf.1 hp
 have:j'=j:=by omega
 subst this
 rw[hr]at hr';cases hr';rfl
theorem ob_out {is:List Nat} {base:Nat} {O:List (Nat×AObj)} {n:Nat} (h:∀j r o,j∈is→res[j]? =some (r,some o)→n≠base+j):look (obOf res base is++O) n=look O n:=by
 rw[look_app,look_none]
 intro p hp he
 obtain⟨j',r',hj',hr',he'⟩:=mem_obOf.1 hp
 exact h j' r' p.2 hj' hr' (by rw[←he,he'])
theorem OpA_mono {s s':St} {o:Oper} {nm:Nat} {re:Res} (hg:s.grd=none) (hg':s'.grd=none) (hraw:∀t∈tmpsOf ops o,s'.raw t=s.raw t) (hob:∀n x,s.obj n=some x→s'.obj n=some x)
  (h:OpA P ops s o nm re):OpA P ops s' o nm re:=by
 have hop:∀x∈o.op.operands,∀c,({s' with grd:=c}:St).ev x=({s with grd:=c}:St).ev x:=by
  intro x hx c
  cases x with
  |tmp t=>
   have:s'.raw t=s.raw t:=hraw t (by unfold tmpsOf;apply List.mem_append_left;rw[List.mem_filterMap];exact⟨.tmp t,by simpa using hx,rfl⟩)
   show St.get _ t=St.get _ t
   unfold St.get
   have h1:({s' with grd:=c}:St).raw t=s'.raw t:=rfl
   have h2:({s with grd:=c}:St).raw t=s.raw t:=rfl
   rw[h1,h2,this]
  |const v=>rfl
  |global g=>rfl
  |func f=>rfl
 have hs:({s with grd:=none}:St)=s:=by rw[←hg]
 have hs':({s' with grd:=none}:St)=s':=by rw[←hg']
 have hev:∀x∈o.op.operands,s'.ev x=s.ev x:=fun x hx=>by have:=hop x hx none;rwa [hs,hs']at this
 have hargs:∀(c:Call),o.op=.call c→(∀f,c.callee=.value f→∀g,({s' with grd:=g}:St).ev f=({s with grd:=g}:St).ev f)∧∀g,c.args.toList.map ({s' with grd:=g}:St).ev=c.args.toList.map ({s with grd:=g}:St).ev:=by
  intro c hc
  refine⟨fun f hf g=>hop f (by rw[hc];simp[Op.operands,Call.operands,hf]) g,fun g=>List.map_congr_left fun x hx=>hop x (by rw[hc];simp only[Op.operands,Call.operands];exact Array.mem_append_right _ (by simpa using hx)) g⟩
 have hF:OpF P s o nm re→OpF P s' o nm re:=by
  intro h
  unfold OpF at*
  split at h
  ·exact h
  ·rename_i t x hop'
   rw[hev x (by rw[hop'];simp[Op.operands])]
   exact h
  ·exact h
  ·rename_i c hc
   obtain⟨h1,h2⟩:=hargs c hc
   split at h
   ·rename_i f hf
    have:=h1 f hf none
    rw[hs,hs']at this
    have h2':=h2 none
    rw[hs,hs']at h2'
    rw[this,h2']
    exact h
   ·split at h
    ·rename_i hv;rw[aVal_mono (fun x hx=>hev x hx) (fun x hx=>hop x hx none) hob hv];exact h
    ·exact h.elim
  ·split at h
   ·rename_i hv;rw[aVal_mono (fun x hx=>hev x hx) (fun x hx=>hop x hx none) hob hv];exact h
   ·exact h.elim
 unfold OpA at*
 split at h
 ·exact hF h
 ·rename_i j want hgd
  split at h
  ·exact h
  ·rename_i g hgs
   have:s'.raw g=s.raw g:=hraw g (by unfold tmpsOf;apply List.mem_append_right;rw[hgd];simp only[hgs];exact List.mem_singleton.2 rfl)
   rw[this]
   split at h
   ·rename_i c hc
    refine h.imp id (Or.imp (fun h=>⟨h.1,hF h.2⟩) ?_)
    intro h
    unfold OpFG at*
    split at h
    ·exact h
    ·exact h
    ·exact h
    ·rename_i cl hcl
     obtain⟨h1,h2⟩:=hargs cl hcl
     split at h
     ·rename_i f hf
      rw[h1 f hf (some c),h2 (some c)]
      exact h
     ·split at h
      ·rename_i hv;rw[aVal_mono (s:={s with grd:=some c}) (s':={s' with grd:=some c}) (fun x hx=>hop x hx (some c)) (fun x hx=>hop x hx none) hob hv];exact h
      ·exact h.elim
    ·split at h
     ·rename_i hv;rw[aVal_mono (s:={s with grd:=some c}) (s':={s' with grd:=some c}) (fun x hx=>hop x hx (some c)) (fun x hx=>hop x hx none) hob hv];exact h
     ·exact h.elim
   ·exact h
end
end Go.Am
namespace Go.Am
open Go.RowKit
variable {P:Program} {E:Env} {st:St} {m:Nm} {w:World} {a:Act}
def St.withRes (s:St) (dst:Option Tmp) (nm:Nat) (re:Res):St:=
 (match re.2 with|some ob=>s.newAt nm s.next ob|none=>s).put dst re.1
theorem SimF.boxAt (h:SimF E st m a w) {nm:Nat} (hf:m nm=none) (hlt:nm<st.next) (t:TypeId) {cs:List AV} {arr:Array Value} (hsz:arr.size=cs.length) (hone:∀u,u∈arr→u.oneCell'=true)
  (hr:∀(j:Nat) (y:AV) (u:Value),cs[j]? =some y→arr[j]? =some u→VRep m (seen w (st.X m E.Y)) y u) (d:Option Nat):
  SimF E (st.withRes d nm (.ptr nm 0,some (.box t cs))) (fun n=>if n=nm then some (.blk w.heap.size)else m n) (a.put d (.pointer (some ⟨w.heap.size,0,none⟩))) (w.alloc (.cells arr t)):=by
 obtain⟨h1,h2⟩:=h.newAt hf (Nat.le_refl _) hlt (below_alloc1 w (.cells arr t)) (.box t cs) (.blk w.heap.size) (fun b hb _=>by cases hb;exact Nat.le_refl _)
  (fun m' c' hm hc=>⟨w.heap.size,arr,rfl,heap_alloc_new w _,hsz,hone,fun j y u g1 g2=>(hr j y u g1 g2).mono hm hc⟩)
 exact h1.put d (.ptr (by simp))
theorem OpF_exec {o:Oper} {nm:Nat} {re:Res} {K:Act→World→Prop} {Q:Exit→Act→World→Prop} (h:SimF E st m a w) (hop:OpF P st o nm re) (hnm:m nm=none) (hlt:nm<st.next)
  (hk:∀m' a' w',SimF E (st.withRes o.dst nm re) m' a' w'→(∀n,(n≠nm∨re.2=none)→m' n=m n)→K a' w'):o.wp P a w K Q:=by
 have hst:({st with grd:=none}:St)=st:=by rw[←h.grd]
 obtain⟨dst,op,ty,pos,after,guard⟩:=o
 have val:∀{s:Bool} {r:AV},aVal P st op=some (s,r)→s=true→re=(r,none)→Oper.wp P ⟨dst,op,ty,pos,after,guard⟩ a w K Q:=by
  intro s r h1 h2 h3
  subst h3
  exact aVal_wp h (g:=none) (fun _ e=>by cases e) (by rw[hst];exact h1) h2 (fun v hv=>hk _ _ _ (h.put dst hv) fun _ _=>rfl)
 unfold OpF at hop
 split at hop
 ·rename_i t ho
  simp only at ho
  subst ho
  split at hop
  ·rename_i zs hz
   obtain⟨hall,rfl⟩:=hop
   simp only[zcells,Option.map_eq_some_iff,Option.bind_eq_some_iff]at hz
   obtain⟨z,⟨i,hi,hz⟩,rfl⟩:=hz
   have hs:=h.boxAt hnm hlt t (cs:=z.cells.toList.map fun v=>.im (.sc v)) (arr:=z.cells) (by simp) (fun u hu=>List.all_eq_true.1 hall u (by simpa using hu)) (fun j y u h1 h2=>by
    simp at h1
    obtain⟨x,hx,rfl⟩:=h1
    rw[hx]at h2;cases h2
    exact .im .sc) dst
   refine wp_of_value (v:=.pointer (some ⟨w.heap.size,0,none⟩)) (w':=w.alloc (.cells z.cells t)) ?_ (hk _ _ _ hs fun n hn=>hn.elim (fun hn=>by simp[hn]) (fun hn=>by cases hn))
   simp[execOp,Instr.alloc,zeroValue,typeInfo,hi,hz,newVar,newRow]
  ·cases hop
 ·rename_i t x ho
  simp only at ho
  subst ho
  split at hop
  ·rename_i cs hc
   subst hop
   obtain⟨g1,g2,g3⟩:=cells_rep (ev_rep h.get x) hc
   have hs:=h.boxAt hnm hlt t g1 g2 g3 dst
   refine wp_of_value (v:=.pointer (some ⟨w.heap.size,0,none⟩)) (w':=w.alloc (.cells (a.eval x).cells t)) ?_ (hk _ _ _ hs fun n hn=>hn.elim (fun hn=>by simp[hn]) (fun hn=>by cases hn))
   simp[execOp,Instr.box,newVar,newRow]
  ·cases hop
 ·cases hop
 ·rename_i c ho
  simp only at ho
  subst ho
  split at hop
  ·rename_i f hf
   split at hop
   ·rename_i g cap hfe
    obtain⟨args',hspec,hpure,hle,hpr,hre⟩:=hop
    have hx:=ev_rep h.get f
    rw[hfe]at hx
    obtain⟨vs,hv,hl,hr⟩:=fn_inv hx
    obtain⟨hsz,hvs⟩:=args_rep h.get c.args hl hr
    unfold Oper.wp
    rw[call_run rfl hf hv hspec.1]
    refine(h.call (fl:=[]) hspec hpure (leL_view _ _ _ hle hpure) hsz hvs).mono ?_
    rintro e w' ⟨v,m',rfl,hr',hO,hb,hdw,hnew⟩
    have hs:=(h.grow hb)
    have hv':VRep m (seen w' (st.X m E.Y)) re.1 v:=by
     refine VRep.of_ren (m:=m') (ρ:=fun _=>0) (fun n l hn=>?_) ?_ (AV.pure_ren _ _ hpr).symm
     ·have:=hO.fresh 0 (Nat.le_refl _)
      rw[this]at hn;cases hn
     ·exact hr'.mono (fun _ _ h=>h) (seen_mono (fun _ _ _=>rfl) fun b _ hx=>.inr hx)
    refine hk m _ _ ?_ fun _ _=>rfl
    obtain⟨r1,r2⟩:=re
    simp only at hre hv'
    subst hre
    exact hs.put dst hv'
   ·cases hop
  ·split at hop
   ·rename_i hv;exact val hv hop.1 hop.2
   ·cases hop
 ·split at hop
  ·rename_i hv;exact val hv hop.1 hop.2
  ·cases hop
theorem OpA_exec {ops:Array Oper} {o:Oper} {nm:Nat} {re:Res} {K:Act→World→Prop} {Q:Exit→Act→World→Prop} (h:SimF E st m a w) (hop:OpA P ops.toList st o nm re) (hnm:m nm=none) (hlt:nm<st.next)
  (hk:∀m' a' w',SimF E (st.withRes o.dst nm re) m' a' w'→(∀n,(n≠nm∨re.2=none)→m' n=m n)→K a' w'):
  if Region.wanted o (yielded ops a.tmps)then o.wp P a w K Q∨(o.asks P a w∧LetsOut Q)else K (a.put o.dst Go.undef) w:=by
 unfold OpA at hop
 split at hop
 ·rename_i hgd
  rw[if_pos (by simp[Region.wanted,hgd])]
  exact .inl (OpF_exec h hop hnm hlt hk)
 ·rename_i j want hgd
  split at hop
  ·cases hop
  ·rename_i g hg
   split at hop
   ·rename_i c hgo
    rw[wanted_guard h hgd hg hgo]
    rcases hop with⟨rfl,x,rfl⟩|⟨rfl,hop⟩|hop
    ·exact hk m _ _ (h.put o.dst (.cond (fun e=>by cases e) (fun _=>rfl))) fun _ _=>rfl
    ·exact .inl (OpF_exec h hop hnm hlt hk)
    have val:∀{s:Bool} {r:AV},aVal P {st with grd:=some c} o.op=some (s,r)→(c=true→s=true)→re=(.cond c r,none)→if c=true then o.wp P a w K Q∨(o.asks P a w∧LetsOut Q)else K (a.put o.dst Go.undef) w:=by
     intro s r h1 h2 h3
     subst h3
     cases c
     ·exact hk m _ _ (h.put o.dst (.cond (fun e=>by cases e) (fun _=>rfl))) fun _ _=>rfl
     ·exact .inl (aVal_wp h (g:=some true) (fun _ e=>by cases e;rfl) h1 (h2 rfl) (fun v hv=>hk m _ _ (h.put o.dst (.cond (fun _=>hv) (fun e=>by cases e))) fun _ _=>rfl))
    unfold OpFG at hop
    split at hop
    ·cases hop
    ·cases hop
    ·cases hop
    ·rename_i cl ho
     split at hop
     ·rename_i f hf
      split at hop
      ·rename_i gg cap hfe
       obtain⟨v,args',rfl,hspec,hpure⟩:=hop
       cases c
       ·exact hk m _ _ (h.put o.dst (.cond (fun e=>by cases e) (fun _=>rfl))) fun _ _=>rfl
       ·left
        obtain⟨hspec,hle⟩:=hspec rfl
        have hget:=get_rep (st:={st with grd:=some true}) (fun _ e=>by cases e;rfl) h.fr
        have hx:=ev_rep hget f
        rw[hfe]at hx
        obtain⟨vs,hv,hl,hr⟩:=fn_inv hx
        obtain⟨hsz,hvs⟩:=args_rep (Y:=E.Y) (st:={st with grd:=some true}) hget cl.args hl hr
        unfold Oper.wp
        rw[call_run ho hf hv hspec.1]
        refine(h.call (fl:=[]) hspec hpure (leL_view _ _ _ hle hpure) hsz hvs).mono ?_
        rintro e w' ⟨v',m',rfl,hr',hO,hb,hdw,hnew⟩
        have:=hr'.sc_inv
        subst this
        exact hk m _ _ ((h.grow hb).put o.dst (.cond (fun _=>.im .sc) (fun e=>by cases e))) fun _ _=>rfl
      ·cases hop
     ·split at hop
      ·rename_i hv;exact val hv hop.1 hop.2
      ·cases hop
    ·split at hop
     ·rename_i hv;exact val hv hop.1 hop.2
     ·cases hop
   ·cases hop
end Go.Am
namespace Go.Am
open Go.RowKit
variable {P:Program} {E:Env} {st:St} {m:Nm} {w:World} {a:Act}
def ancs:List (List Nat)→List Oper→List (List Nat)
 |acc,[]=>acc
 |acc,o::rest=>
  let a1:=after1 o
  ancs (acc++[(List.range acc.length).filter fun j=>a1.contains j||a1.any fun k=>(acc.getD k []).contains j]) rest
def shapeB (ops:List Oper) (A:List (List Nat)) (size nq:Nat):Bool:=
 (ops.zipIdx.all fun(o,i)=>
  (after1 o).all (·<i)&&((A.getD i []).all fun j=>j<i&&((after1 o).contains j||(after1 o).any fun k=>(A.getD k []).contains j))&&
  (decide (nq≤i)||((tmpsOf ops o).all (fun t=>ops.zipIdx.all fun(o',j)=>o'.dst != some t||(A.getD i []).contains j||(A.getD j []).contains i)&&
   (match o.dst with
    |some d=>decide (d<size)&&ops.zipIdx.all fun(o',j)=>i==j||o'.dst != some d
    |none=>true))))&&
 decide (nq≤ops.length)&&(List.range ops.length).all fun i=>decide (i<nq)||(List.range i).all fun j=>(A.getD i []).contains j
structure Shape (ops:List Oper) (A:List (List Nat)) (size nq:Nat):Prop where
 back:∀i o,ops[i]? =some o→∀j∈after1 o,j<i
 anc:∀i o,ops[i]? =some o→∀j∈A.getD i [],j<i∧(j∈after1 o∨∃k∈after1 o,j∈A.getD k [])
 tmps:∀i o,i<nq→ops[i]? =some o→∀t∈tmpsOf ops o,∀j o',ops[j]? =some o'→o'.dst=some t→j∈A.getD i []∨i∈A.getD j []
 dist:∀i o,i<nq→ops[i]? =some o→∀d,o.dst=some d→∀j o',ops[j]? =some o'→o'.dst=some d→i=j
 size:∀i o d,i<nq→ops[i]? =some o→o.dst=some d→d<size
 le:nq≤ops.length
 nq:∀i,nq≤i→i<ops.length→∀j,j<i→j∈A.getD i []
theorem zipIdx_get {α:Type} (l:List α) (i:Nat) (x:α) (h:l[i]? =some x):(x,i)∈l.zipIdx:=by
 rw[List.mem_zipIdx_iff_getElem?];exact h
theorem shape_of {ops:List Oper} {A:List (List Nat)} {size nq:Nat} (h:shapeB ops A size nq=true):Shape ops A size nq:=by
 unfold shapeB at h
 rw[Bool.and_eq_true,Bool.and_eq_true]at h
 obtain⟨⟨h1,h0⟩,h2⟩:=h
 have h1:=List.all_eq_true.1 h1
 have key:∀i o,ops[i]? =some o→_:=fun i o ho=>h1 (o,i) (zipIdx_get ops i o ho)
 simp only[Bool.and_eq_true]at key
 refine⟨fun i o ho j hj=>?_,fun i o ho j hj=>?_,fun i o hi ho t ht j o' ho' hd=>?_,fun i o hi ho d hd j o' ho' hd'=>?_,fun i o d hi ho hd=>?_,of_decide_eq_true h0,fun i hi hlt j hj=>?_⟩
 ·have:=List.all_eq_true.1 (key i o ho).1.1 j hj
  simpa using this
 ·have:=List.all_eq_true.1 (key i o ho).1.2 j hj
  simp only[Bool.and_eq_true,Bool.or_eq_true,List.contains_iff_mem,List.any_eq_true,decide_eq_true_eq]at this
  exact this
 ·have:=(key i o ho).2
  simp only[Bool.or_eq_true,decide_eq_true_eq,Bool.and_eq_true]at this
  rcases this with h|h
  ·omega
  have:=List.all_eq_true.1 (List.all_eq_true.1 h.1 t ht) (o',j) (zipIdx_get ops j o' ho')
  simp[hd]at this
  simpa using this
 ·have:=(key i o ho).2
  simp only[Bool.or_eq_true,decide_eq_true_eq,Bool.and_eq_true]at this
  rcases this with h|h
  ·omega
  have:=h.2
  rw[hd]at this
  simp only[Bool.and_eq_true,decide_eq_true_eq]at this
  have:=List.all_eq_true.1 this.2 (o',j) (zipIdx_get ops j o' ho')
  simpa [hd']using this
 ·have:=(key i o ho).2
  simp only[Bool.or_eq_true,decide_eq_true_eq,Bool.and_eq_true]at this
  rcases this with h|h
  ·omega
  have:=h.2
  rw[hd]at this
  simp only[Bool.and_eq_true,decide_eq_true_eq]at this
  exact this.1
 ·simp only[Bool.or_eq_true,decide_eq_true_eq,List.all_eq_true,List.contains_iff_mem,List.mem_range]at h2
  rcases h2 i hlt with h|h
  ·omega
  ·exact h j hj
theorem fr_in' {ops:List Oper} {res:List Res} {is:List Nat} {F:List (Nat×AV)} {j:Nat} {o:Oper} {r:AV} {ob:Option AObj} {t:Tmp} (hd:∀j' o',ops[j']? =some o'→o'.dst=some t→j=j') (hj:j∈is) (ho:ops[j]? =some o) (hr:res[j]? =some (r,ob)) (ht:o.dst=some t):
  look (frOf ops res is++F) t=some r:=by
 rw[look_app,look_some (frOf ops res is) t r (mem_frOf.2 ⟨j,o,r,ob,hj,ho,hr,ht,rfl⟩)]
 intro p hp he
 obtain⟨j',o',r',ob',hj',ho',hr',hd',he'⟩:=mem_frOf.1 hp
 have:=hd j' o' ho' (by rw[hd',he])
 subst this
 rw[hr]at hr';cases hr'
 exact he'
def idx (nq:Nat) (listed:Array Bool):List Nat:=(List.range nq).filter fun j=>listed.getD j false
theorem mem_idx {nq:Nat} {listed:Array Bool} {j:Nat}:j∈idx nq listed↔j<nq∧listed.getD j false=true:=by simp[idx]
theorem readySome {ops:Array Oper} {listed:Array Bool} (hsz:listed.size=ops.size) (hb:∀i o,ops.toList[i]? =some o→∀j∈after1 o,j<i):
  ∀n,n≤ops.size→(∀j,j<n→listed.getD j false=true)∨∃i,i<n∧i∈Region.ready .any ops listed
 |0,_=>.inl fun j hj=>by omega
 |n+1,hn=>by
  rcases readySome hsz hb n (by omega)with h|⟨i,hi,hr⟩
  ·cases hl:listed.getD n false with
   |true=>exact .inl fun j hj=>by rcases Nat.lt_or_ge j n with h1|h1;exact h j h1;rw[show j=n by omega];exact hl
   |false=>
    right
    refine⟨n,by omega,mem_ready.2 ⟨?_,ops[n]'(by omega),Array.getElem?_eq_getElem (by omega),fun e he hbd=>?_⟩⟩
    ·have:n<listed.size:=by omega
     simpa [Array.getD_eq_getD_getElem?,this]using hl
    ·refine h _ (hb n (ops[n]'(by omega)) (by simp[Array.getElem?_toList,show n<ops.size by omega]) e.on ?_)
     unfold after1
     rw[List.mem_map]
     exact⟨e,by rw[List.mem_filter];exact⟨by simpa using he,hbd⟩,rfl⟩
  ·exact .inr ⟨i,by omega,hr⟩
theorem getD_set_iff {listed:Array Bool} {i j:Nat} (h:i<listed.size):(listed.setIfInBounds i true).getD j false=true↔j=i∨listed.getD j false=true:=by
 by_cases e:i=j
 ·subst e;simp[Array.getD_eq_getD_getElem?,h]
 ·rw[getD_set_ne _ e];simp[show ¬j=i from fun h=>e h.symm]
theorem SimF.tick (h:SimF E st m a w):SimF E st m a {w with drawn:=w.drawn+1}:=
 h.grow ⟨rfl,rfl,rfl,Nat.le_refl _,fun _ _=>rfl⟩
theorem SimF.obj_lt (h:SimF E st m a w) {n:Nat} {x:AObj} (hn:st.obj n=some x):n<st.next:=by
 obtain⟨l,hl,_⟩:=h.objs n x hn
 rcases Nat.lt_or_ge n st.next with h1|h1
 ·exact h1
 ·rw[h.fresh n h1]at hl;cases hl
theorem stMin_obj {ops:List Oper} {res:List Res} {is:List Nat} {n:Nat} {x:AObj} (h:(stMin ops res st is).obj n=some x):(∃j r,j∈is∧res[j]? =some (r,some x)∧n=st.next+j)∨st.obj n=some x:=by
 unfold St.obj stMin at h
 simp only at h
 rw[look_app]at h
 split at h
 ·rename_i y hy
  cases h
  obtain⟨j,r,hj,hr,he⟩:=mem_obOf.1 (look_mem hy)
  exact .inl ⟨j,r,hj,hr,he⟩
 ·exact .inr h
theorem suffix_inv {Q:Exit→Act→World→Prop} {ops:Array Oper} {A:List (List Nat)} {sz nq:Nat} (hS:Shape ops.toList A sz nq):
  ∀(fuel i:Nat) (listed:Array Bool) (a:Act) (w:World),nq≤i→i≤ops.size→listed.size=ops.size→ops.size-i≤fuel→(∀j,j<i→listed.getD j false=true)→(∀j,i≤j→listed.getD j false=false)→
   wpList P ops Q (ops.toList.drop i) a w→wpAny P .any ops Q fuel listed a w:=by
 have done:∀(fuel i:Nat) (listed:Array Bool) (a:Act) (w:World),i=ops.size→listed.size=ops.size→(∀j,j<i→listed.getD j false=true)→wpList P ops Q (ops.toList.drop i) a w→wpAny P .any ops Q fuel listed a w:=by
  intro fuel i listed a w hi hl hlo hw
  refine wpAny_done ?_ ?_ fuel
  ·rw[List.eq_nil_iff_forall_not_mem]
   intro j hj
   obtain⟨h1,o',ho',_⟩:=mem_ready.1 hj
   have hjlt:j<ops.size:=(Array.getElem?_eq_some_iff.1 ho').1
   have h2:=hlo j (by omega)
   have h3:j<listed.size:=by omega
   simp only[Array.getD_eq_getD_getElem?,Array.getElem?_eq_getElem h3,Option.getD_some]at h1 h2
   rw[h1]at h2;cases h2
  ·subst hi
   rw[List.drop_eq_nil_of_le (by simp)]at hw
   exact hw
 intro fuel
 induction fuel with
 |zero=>
  intro i listed a w hnq hi hl hf hlo hhi hw
  exact done 0 i listed a w (by omega) hl hlo hw
 |succ fuel ih=>
  intro i listed a w hnq hi hl hf hlo hhi hw
  rcases Nat.eq_or_lt_of_le hi with e|hlt
  ·exact done _ i listed a w e hl hlo hw
  ·have hoi:ops[i]? =some ops[i]:=Array.getElem?_eq_getElem hlt
   have hdrop:ops.toList.drop i=ops[i]::ops.toList.drop (i+1):=by
    rw[List.drop_eq_getElem_cons (by simpa using hlt)];simp
   rw[hdrop]at hw
   have hil:=hhi i (Nat.le_refl _)
   have hready:∀j,j∈Region.ready .any ops listed→j=i:=by
    intro j hj
    obtain⟨h1,o,ho,hed⟩:=mem_ready.1 hj
    have hjlt:j<ops.size:=(Array.getElem?_eq_some_iff.1 ho).1
    have hoL:ops.toList[j]? =some o:=by simpa using ho
    have hjl:listed.getD j false=false:=by
     have h2:j<listed.size:=by omega
     simpa [Array.getD_eq_getD_getElem?,h2]using h1
    rcases Nat.lt_trichotomy j i with h|h|h
    ·rw[hlo j h]at hjl;cases hjl
    ·exact h
    ·exfalso
     have hedge:∀k∈after1 o,listed.getD k false=true:=by
      intro k hk
      unfold after1 at hk
      rw[List.mem_map]at hk
      obtain⟨e,he,rfl⟩:=hk
      rw[List.mem_filter]at he
      exact hed e (by simpa using he.1) he.2
     have hiA:=hS.nq j (by omega) (by simpa using hjlt) i h
     rcases(hS.anc j o hoL i hiA).2 with h3|⟨k,hk,h3⟩
     ·have:=hedge i h3
      rw[hil]at this;cases this
     ·have hkl:=hedge k hk
      have hkj:=hS.back j o hoL k hk
      have hk2:ops.toList[k]? =some (ops[k]'(by omega)):=by simp[Array.getElem?_toList,show k<ops.size by omega]
      have:=(hS.anc k _ hk2 i h3).1
      rw[hhi k (by omega)]at hkl;cases hkl
   have hmem:i∈Region.ready .any ops listed:=by
    have hsL:ops.toList[i]? =some ops[i]:=by simp[Array.getElem?_toList,hlt]
    refine mem_ready.2 ⟨?_,ops[i],hoi,fun e he hbd=>?_⟩
    ·have:i<listed.size:=by omega
     simpa [Array.getD_eq_getD_getElem?,this]using hil
    ·refine hlo _ (hS.back i _ hsL e.on ?_)
     unfold after1
     rw[List.mem_map]
     exact⟨e,by rw[List.mem_filter];exact⟨by simpa using he,hbd⟩,rfl⟩
   refine⟨fun hr=>(by rw[hr]at hmem;cases hmem),?_⟩
   intro j hj
   have:=hready j hj
   subst this
   unfold wpOp
   rw[hoi]
   simp only
   have next:∀a w,wpList P ops Q (ops.toList.drop (j+1)) a w→wpAny P .any ops Q fuel (listed.setIfInBounds j true) a w:=by
    intro a w h
    refine ih (j+1) _ a w (by omega) (by omega) (by simpa using hl) (by omega) (fun k hk=>?_) (fun k hk=>?_) h
    ·rw[getD_set_iff (by omega)]
     rcases Nat.lt_or_ge k j with h1|h1
     ·exact .inr (hlo k h1)
     ·exact .inl (by omega)
    ·rw[getD_set_ne _ (by omega)]
     exact hhi k (by omega)
   unfold wpList at hw
   split at hw
   ·rename_i hwant
    rw[if_pos hwant]
    exact hw.imp (Oper.wp_mono next) id
   ·rename_i hwant
    rw[if_neg hwant]
    exact next _ _ hw
theorem region_inv {Q:Exit→Act→World→Prop} {ops:Array Oper} {A:List (List Nat)} {res:List Res} {nq:Nat} (hS:Shape ops.toList A st.size nq) (hres:res.length=nq) (hst:∀n x,st.obj n=some x→n<st.next)
  (hops:∀i o re,ops.toList[i]? =some o→res[i]? =some re→OpA P ops.toList (stMin ops.toList res st (A.getD i [])) o (st.next+i) re)
  (heff:∀m a w,SimF E (stMin ops.toList res st (List.range nq)) m a w→((∀re∈res,re.2=none)→∀n,st.next≤n→m n=none)→wpList P ops Q (ops.toList.drop nq) a w):
  ∀(fuel:Nat) (listed:Array Bool) (m:Nm) (a:Act) (w:World),listed.size=ops.size→((List.range ops.size).filter fun j=>!listed.getD j false).length≤fuel→
   (∀i,listed.getD i false=true→∀j∈A.getD i [],listed.getD j false=true)→(∀j,nq≤j→listed.getD j false=false)→SimF E (stMin ops.toList res st (idx nq listed)) m a w→
   (∀j,j<nq→listed.getD j false=false→m (st.next+j)=none)→((∀re∈res,re.2=none)→∀n,st.next≤n→m n=none)→wpAny P .any ops Q fuel listed a w:=by
 have hle:nq≤ops.size:=by simpa using hS.le
 have full:∀(listed:Array Bool),(∀j,j<nq→listed.getD j false=true)→idx nq listed=List.range nq:=by
  intro listed h
  unfold idx
  rw[List.filter_eq_self]
  intro j hj
  exact h j (by simpa using hj)
 have toSuffix:∀(fuel:Nat) (listed:Array Bool) (m:Nm) (a:Act) (w:World),listed.size=ops.size→((List.range ops.size).filter fun j=>!listed.getD j false).length≤fuel→(∀j,nq≤j→listed.getD j false=false)→
   SimF E (stMin ops.toList res st (idx nq listed)) m a w→((∀re∈res,re.2=none)→∀n,st.next≤n→m n=none)→(∀j,j<nq→listed.getD j false=true)→wpAny P .any ops Q fuel listed a w:=by
  intro fuel listed m a w hl hcnt hnq hs hno hf
  rw[full listed hf]at hs
  refine suffix_inv hS fuel nq listed a w (Nat.le_refl _) hle hl ?_ hf hnq (heff m a w hs hno)
  have hsub:(List.range ops.size).filter (fun j=>!listed.getD j false)=(List.range ops.size).filter (fun j=>decide (nq≤j)):=by
   apply List.filter_congr
   intro j hj
   rcases Nat.lt_or_ge j nq with h1|h1
   ·rw[hf j h1];simp;omega
   ·rw[hnq j h1];simp;omega
  have hlen:∀n,((List.range n).filter (fun j=>decide (nq≤j))).length=n-nq:=by
   intro n
   induction n with
   |zero=>simp
   |succ n ih=>
    rw[List.range_succ,List.filter_append,List.length_append,ih]
    by_cases h:nq≤n
    ·simp[h];omega
    ·simp[h];omega
  rw[hsub,hlen]at hcnt
  exact hcnt
 intro fuel
 induction fuel with
 |zero=>
  intro listed m a w hl hcnt hdown hnq hs hfresh hno
  refine toSuffix 0 listed m a w hl hcnt hnq hs hno ?_
  intro j hj
  cases hlj:listed.getD j false with
  |true=>rfl
  |false=>
   have hnil:=List.eq_nil_of_length_eq_zero (Nat.le_zero.1 hcnt)
   have:j∈((List.range ops.size).filter fun j=>!listed.getD j false):=by
    rw[List.mem_filter,List.mem_range]
    exact⟨by omega,by rw[hlj];rfl⟩
   rw[hnil]at this;cases this
 |succ fuel ih=>
  intro listed m a w hl hcnt hdown hnq hs hfresh hno
  by_cases hfull:∀j,j<nq→listed.getD j false=true
  ·exact toSuffix _ listed m a w hl hcnt hnq hs hno hfull
  refine⟨?_,?_⟩
  ·intro hr
   exfalso
   rcases readySome hl hS.back nq hle with h|⟨i,_,hi⟩
   ·exact hfull h
   ·rw[hr]at hi;cases hi
  intro i hi
  obtain⟨h1,o,ho,hed⟩:=mem_ready.1 hi
  have hlt:i<ops.size:=(Array.getElem?_eq_some_iff.1 ho).1
  have hoL:ops.toList[i]? =some o:=by simpa using ho
  have hil:listed.getD i false=false:=by
   have h2:i<listed.size:=by omega
   simpa [Array.getD_eq_getD_getElem?,h2]using h1
  have hedge:∀j∈after1 o,listed.getD j false=true:=by
   intro j hj
   unfold after1 at hj
   rw[List.mem_map]at hj
   obtain⟨e,he,rfl⟩:=hj
   rw[List.mem_filter]at he
   exact hed e (by simpa using he.1) he.2
  have hAi:∀j∈A.getD i [],listed.getD j false=true:=by
   intro j hj
   rcases(hS.anc i o hoL j hj).2 with h|⟨k,hk,h⟩
   ·exact hedge j h
   ·exact hdown k (hedge k hk) j h
  have hq:i<nq:=by
   rcases Nat.lt_or_ge i nq with h|h
   ·exact h
   ·exact absurd (fun j hj=>hAi j (hS.nq i h (by simpa using hlt) j (by omega))) hfull
  unfold wpOp
  rw[ho]
  simp only
  obtain⟨re,hre⟩:∃re,res[i]? =some re:=⟨res[i]'(by omega),List.getElem?_eq_getElem (by omega)⟩
  have hA:∀j,j∈A.getD i []→j∈idx nq listed:=fun j hj=>mem_idx.2 ⟨by have:=(hS.anc i o hoL j hj).1;omega,hAi j hj⟩
  have getres:∀j,j<nq→∃r ob,res[j]? =some (r,ob):=fun j hj=>⟨(res[j]'(by omega)).1,(res[j]'(by omega)).2,by rw[List.getElem?_eq_getElem (by omega)]⟩
  have hop:OpA P ops.toList (stMin ops.toList res st (idx nq listed)) o (st.next+i) re:=by
   refine OpA_mono (s:=stMin ops.toList res st (A.getD i [])) rfl rfl ?_ ?_ (hops i o re hoL hre)
   ·intro t ht
    unfold St.raw stMin
    simp only
    by_cases hex:∃(j:Nat) (o':Oper),ops.toList[j]? =some o'∧o'.dst=some t
    ·obtain⟨j,o',ho',hd⟩:=hex
     rcases hS.tmps i o hq hoL t ht j o' ho' hd with hj|hij
     rotate_left
     ·have hno:∀(is:List Nat),j∉is→(∀k∈is,k<nq)→∀j' o'',j'∈is→ops.toList[j']? =some o''→o''.dst≠some t:=by
       intro is hjs hlt' j' o'' hj' ho'' hd'
       have:=hS.dist j' o'' (hlt' j' hj') ho'' t hd' j o' ho' hd
       subst this
       exact hjs hj'
      have h1:j∉idx nq listed:=by
       intro hj
       have:=hdown j (mem_idx.1 hj).2 i hij
       rw[hil]at this;cases this
      have h2:j∉A.getD i []:=by
       intro hj
       have h3:=(hS.anc i o hoL j hj).1
       have h4:=(hS.anc j o' ho' i hij).1
       omega
      rw[fr_out (hno _ h1 fun k hk=>(mem_idx.1 hk).1),fr_out (hno _ h2 fun k hk=>by have:=(hS.anc i o hoL k hk).1;omega)]
     have hjlt:j<nq:=by have:=(hS.anc i o hoL j hj).1;omega
     obtain⟨r,ob,hr⟩:=getres j hjlt
     have hdd:=fun j' o'' h1 h2=>hS.dist j o' hjlt ho' t hd j' o'' h1 h2
     rw[fr_in' hdd (hA j hj) ho' hr hd,fr_in' hdd hj ho' hr hd]
    ·rw[fr_out (fun j o' _ ho' hd=>hex ⟨j,o',ho',hd⟩),fr_out (fun j o' _ ho' hd=>hex ⟨j,o',ho',hd⟩)]
   ·intro n x hn
    rcases stMin_obj hn with⟨j,r,hj,hr,rfl⟩|hn
    ·exact ob_in (hA j hj) hr
    ·have:=hst n x hn
     show look _ n=some x
     rw[stMin]
     simp only
     rw[ob_out (fun j r o' _ _ e=>by omega)]
     exact hn
  have hnm:m (st.next+i)=none:=hfresh i hq hil
  refine OpA_exec hs hop hnm (by simp only[stMin,Array.length_toList];omega) ?_
  intro m' a' w' hs' hm'
  have hset:∀j,j∈idx nq (listed.setIfInBounds i true)↔j=i∨j∈idx nq listed:=by
   intro j
   rw[mem_idx,mem_idx,getD_set_iff (by omega)]
   constructor
   ·rintro⟨h1,h2⟩;exact h2.imp id fun h=>⟨h1,h⟩
   ·rintro(rfl|⟨h1,h2⟩)
    ·exact⟨hq,.inl rfl⟩
    ·exact⟨h1,.inr h2⟩
  refine ih (listed.setIfInBounds i true) m' a' w' (by simpa using hl) ?_ ?_ ?_ ?_ ?_ (fun hall n hn=>(hm' n (.inr (hall re (List.mem_of_getElem? hre)))).trans (hno hall n hn))
  ·have:((List.range ops.size).filter fun j=>!(listed.setIfInBounds i true).getD j false).length<((List.range ops.size).filter fun j=>!listed.getD j false).length:=by
    have e:((List.range ops.size).filter fun j=>!(listed.setIfInBounds i true).getD j false)=(((List.range ops.size).filter fun j=>!listed.getD j false)).filter fun j=>j≠i:=by
     rw[List.filter_filter]
     apply List.filter_congr
     intro j _
     have:=getD_set_iff (listed:=listed) (i:=i) (j:=j) (by omega)
     by_cases e:j=i
     ·subst e;simp[this.2 (.inl rfl)]
     ·cases hlj:listed.getD j false with
      |true=>rw[this.2 (.inr hlj)];simp
      |false=>
       have h3:(listed.setIfInBounds i true).getD j false=false:=by
        cases h4:(listed.setIfInBounds i true).getD j false with
        |false=>rfl
        |true=>rcases this.1 h4 with h5|h5;exact absurd h5 e;rw[hlj]at h5;cases h5
       rw[h3];simp[e]
    rw[e]
    apply List.length_filter_lt_length_iff_exists.2
    exact⟨i,by rw[List.mem_filter,List.mem_range];exact⟨hlt,by rw[hil];rfl⟩,by simp⟩
   omega
  ·intro k hk j hj
   rw[getD_set_iff (by omega)]at hk⊢
   rcases hk with rfl|hk
   ·exact .inr (hAi j hj)
   ·exact .inr (hdown k hk j hj)
  ·intro j hj
   rw[getD_set_ne _ (by omega)]
   exact hnq j hj
  ·
   obtain⟨r,ob⟩:=re
   refine hs'.same ?_ ?_ ?_ ?_ rfl
   ·intro s
    have hleft:∀d,o.dst=some d→look (frOf ops.toList res (idx nq (listed.setIfInBounds i true))++st.fr) d=some r:=fun d hd=>
     fr_in' (fun j' o' h1 h2=>hS.dist i o hq hoL d hd j' o' h1 h2) ((hset i).2 (.inl rfl)) hoL hre hd
    have hother:o.dst≠some s→look (frOf ops.toList res (idx nq (listed.setIfInBounds i true))++st.fr) s=look (frOf ops.toList res (idx nq listed)++st.fr) s:=by
     intro hne
     by_cases hex:∃(j:Nat) (o':Oper),j∈idx nq listed∧ops.toList[j]? =some o'∧o'.dst=some s
     ·obtain⟨j,o',hj,ho',hd⟩:=hex
      have hjlt:=(mem_idx.1 hj).1
      obtain⟨r',ob',hr⟩:=getres j hjlt
      have hdd:=fun j' o'' h1 h2=>hS.dist j o' hjlt ho' s hd j' o'' h1 h2
      rw[fr_in' hdd ((hset j).2 (.inr hj)) ho' hr hd,fr_in' hdd hj ho' hr hd]
     ·rw[fr_out,fr_out]
      ·exact fun j o' hj ho' hd=>hex ⟨j,o',hj,ho',hd⟩
      ·intro j o' hj ho' hd
       rcases(hset j).1 hj with rfl|hj
       ·rw[hoL]at ho';cases ho';exact hne hd
       ·exact hex ⟨j,o',hj,ho',hd⟩
    unfold St.withRes
    cases hd:o.dst with
    |none=>
     have:=hother (by rw[hd];simp)
     cases ob<;>exact this
    |some d=>
     have hlt:=hS.size i o d hq hoL hd
     by_cases e:d=s
     ·subst e
      have:=hleft d hd
      cases ob<;>simp[stMin,St.put,St.newAt,look,hlt,this]
     ·have:=hother (by rw[hd];simpa using e)
      cases ob<;>simp[stMin,St.put,St.newAt,look,e,this]
   ·intro n
    have h1:((stMin ops.toList res st (idx nq listed)).withRes o.dst (st.next+i) (r,ob)).obj n=look ((match ob with|some x=>[(st.next+i,x)]|none=>[])++(obOf res st.next (idx nq listed)++st.objs)) n:=by
     unfold St.withRes St.obj
     rw[put_objs]
     cases ob<;>rfl
    rw[h1]
    show look (obOf res st.next (idx nq (listed.setIfInBounds i true))++st.objs) n=_
    by_cases hex:∃j r' x,j∈idx nq (listed.setIfInBounds i true)∧res[j]? =some (r',some x)∧n=st.next+j
    ·obtain⟨j,r',x,hj,hr',rfl⟩:=hex
     rw[ob_in hj hr']
     rcases(hset j).1 hj with rfl|hj'
     ·rw[hre]at hr';cases hr'
      simp[look]
     ·by_cases e:j=i
      ·subst e
       rw[hre]at hr';cases hr'
       simp[look]
      ·cases ob with
       |none=>simp only[List.nil_append];rw[ob_in hj' hr']
       |some y=>
        simp only[List.cons_append,List.nil_append,look,show ¬st.next+i=st.next+j by omega,if_false]
        rw[ob_in hj' hr']
    ·rw[ob_out (fun j r' x hj hr' e=>hex ⟨j,r',x,hj,hr',e⟩)]
     have h2:look (obOf res st.next (idx nq listed)++st.objs) n=look st.objs n:=ob_out (fun j r' x hj hr' e=>hex ⟨j,r',x,(hset j).2 (.inr hj),hr',e⟩)
     cases ob with
     |none=>simp only[List.nil_append];rw[h2]
     |some y=>
      have:¬st.next+i=n:=fun e=>hex ⟨i,r,y,(hset i).2 (.inl rfl),hre,e.symm⟩
      simp only[List.cons_append,List.nil_append,look,this,if_false]
      rw[h2]
   ·unfold St.withRes
    rw[put_next]
    cases ob<;>exact Nat.le_refl _
   ·unfold St.withRes
    rw[put_size]
    cases ob<;>rfl
  ·intro j hj hlj
   have e:j≠i:=by rintro rfl;rw[(getD_set_iff (by omega)).2 (.inl rfl)]at hlj;cases hlj
   rw[hm' _ (.inl (by omega))]
   refine hfresh j hj ?_
   rw[getD_set_ne _ (fun h=>e h.symm)]at hlj
   exact hlj
theorem region_any {Q:Exit→Act→World→Prop} {ops:Array Oper} {A:List (List Nat)} {res:List Res} {nq:Nat} (hP:P.follows .mixedOrders=true) (hS:Shape ops.toList A st.size nq) (hres:res.length=nq)
  (hops:∀i o re,ops.toList[i]? =some o→res[i]? =some re→OpA P ops.toList (stMin ops.toList res st (A.getD i [])) o (st.next+i) re) (h:SimF E st m a w)
  (heff:∀m a w,SimF E (stMin ops.toList res st (List.range nq)) m a w→((∀re∈res,re.2=none)→∀n,st.next≤n→m n=none)→wpList P ops Q (ops.toList.drop nq) a w):
  wpAny P .any ops Q ops.size (Array.replicate ops.size false) a {w with drawn:=w.drawn+1}:=by
 have hno:∀j,(Array.replicate ops.size false).getD j false=false:=by
  intro j
  simp[Array.getD_eq_getD_getElem?,Array.getElem?_replicate]
  split<;>rfl
 refine region_inv hS hres (fun n x hn=>h.obj_lt hn) hops heff ops.size _ m a _ (by simp) ?_ ?_ (fun j _=>hno j) ?_ ?_ (fun _ n hn=>h.fresh n hn)
 ·exact Nat.le_trans (List.length_filter_le _ _) (by simp)
 ·intro i hi;rw[hno]at hi;cases hi
 ·have e:idx nq (Array.replicate ops.size false)=[]:=by
   unfold idx
   rw[List.filter_eq_nil_iff]
   intro j _
   rw[hno];simp
  rw[e]
  exact h.tick.same (fun _=>rfl) (fun _=>rfl) (by simp[stMin]) rfl rfl
 ·intro j _ _
  exact h.fresh _ (by omega)
end Go.Am
