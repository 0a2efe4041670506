import Derived.RangeFuncLeaves
import Derived.RangeFuncRecord
import Derived.OrdersIn
import Derived.TacticsIn
import Derived.RangeFuncNested
import Derived.ProofKit
import Derived.OpenShut
import Derived.JoinedCond
import Derived.Carry
import Derived.Deep.Slices
import Derived.Shelf.SlSortCmp.Whole1
import Derived.Test.YtcognmloglhpcaaGreatDoorWD2
set_option linter.unusedVariables false
set_option linter.unusedSimpArgs false
set_option linter.unusedSectionVars false
namespace Go.Am
open Go.RowKit
variable {P:Program} {E:Env} {st:St} {m:Nm} {w:World} {a:Act}
def CallQ (P:Program) (g:FuncId) (args:List AV) (d:Option Nat) (k:St→Prop) (st:St):Prop:=
 ∃(args':List AV) (r:AV),FSpec P g args' [] r []∧AV.pureL args'=true∧AV.leL args args'∧r.pure=true∧k (st.put d r)
def CallQG (P:Program) (c:Bool) (g:FuncId) (args:List AV) (d:Option Nat) (k:St→Prop) (st:St):Prop:=
 ∃(args':List AV) (v:Value),(c=true→FSpec P g args' [] (.im (.sc v)) []∧AV.leL args args')∧AV.pureL args'=true∧k (st.put d (.cond c (.im (.sc v))))
def cfQ (P:Program) (o:Oper) (k:St→Prop) (st:St):Prop:=
 match o.op with
 |.alloc _|.box _ _|.store _ _ _=>False
 |.call c=>match c.callee with
  |.value f=>match st.ev f with
   |.fn g cap=>CallQ P g (c.args.toList.map st.ev++cap) o.dst k st
   |_=>False
  |_=>match aVal P st o.op with
   |some (s,r)=>s=true∧k (st.put o.dst r)
   |none=>False
 |op=>match aVal P st op with
  |some (s,r)=>s=true∧k (st.put o.dst r)
  |none=>False
def cfQG (P:Program) (o:Oper) (c:Bool) (k:St→Prop) (st:St):Prop:=
 match o.op with
 |.alloc _|.box _ _|.store _ _ _=>False
 |.call cl=>match cl.callee with
  |.value f=>match ({st with grd:=some c}:St).ev f with
   |.fn g cap=>CallQG P c g (cl.args.toList.map ({st with grd:=some c}:St).ev++cap) o.dst k st
   |_=>c=false∧k (st.put o.dst (.cond false .undef))
  |_=>match aVal P {st with grd:=some c} o.op with
   |some (s,r)=>(c=true→s=true)∧k (st.put o.dst (.cond c r))
   |none=>c=false∧k (st.put o.dst (.cond false .undef))
 |op=>match aVal P {st with grd:=some c} op with
  |some (s,r)=>(c=true→s=true)∧k (st.put o.dst (.cond c r))
  |none=>c=false∧k (st.put o.dst (.cond false .undef))
def St.bump (st:St) (n:Nat):St:=st
def cfQs (P:Program) (ops:List Oper):Nat→List Oper→(St→Prop)→St→Prop
 |0,l,k,st=>cfOps P ops l k st
 |_+1,[],k,st=>k st
 |n+1,o::rest,k,st=>match o.guard with
  |none=>cfQ P o (cfQs P ops n rest k) st
  |some (j,want)=>match (ops[j]?).bind (·.dst)with
   |none=>False
   |some g=>match guardOf (st.raw g) want with
    |some c=>cfQG P o c (cfQs P ops n rest k) st
    |none=>False
theorem cfQ_inv {ops:List Oper} {o:Oper} {k:St→Prop} (hg:o.guard=none) (nm:Nat) (h:cfQ P o k st):∃r,OpA P ops st o nm (r,none)∧k (st.put o.dst r):=by
 unfold cfQ at h
 unfold OpA
 rw[hg]
 simp only
 unfold OpF
 split at h
 ·cases h
 ·cases h
 ·cases h
 ·rename_i c hc
  rw[hc]
  simp only
  split at h
  ·rename_i f hf
   split at h
   ·rename_i g cap hfe
    obtain⟨args',r,h1,h2,h3,h4,h5⟩:=h
    simp only[hf,hfe]
    exact⟨r,⟨args',h1,h2,h3,h4,trivial⟩,h5⟩
   ·cases h
  ·rename_i hnv
   split at h
   ·rename_i s r hv
    refine⟨r,?_,h.2⟩
    rw[hc]at hv
    cases hcal:c.callee with
    |value f=>exact absurd hcal (hnv f)
    |_=>simp only[hv];exact⟨h.1,trivial⟩
   ·cases h
 ·rename_i h1 h2 h3 h4
  split at h
  ·rename_i s r hv
   refine⟨r,?_,h.2⟩
   split
   ·rename_i t e;exact absurd e (h1 t)
   ·rename_i t x e;exact absurd e (h2 t x)
   ·rename_i t x v e;exact absurd e (h3 t x v)
   ·rename_i c e;exact absurd e (h4 c)
   ·simp only[hv]
    exact⟨h.1,trivial⟩
  ·cases h
theorem cfQG_inv {ops:List Oper} {o:Oper} {c:Bool} {k:St→Prop} {j:Nat} {want:Bool} {g:Tmp} (hg:o.guard=some (j,want)) (hd:(ops[j]?).bind (·.dst)=some g) (hgo:guardOf (st.raw g) want=some c) (nm:Nat) (h:cfQG P o c k st):
  ∃r,OpA P ops st o nm (r,none)∧k (st.put o.dst r):=by
 unfold cfQG at h
 unfold OpA
 rw[hg]
 simp only[hd,hgo]
 split at h
 ·cases h
 ·cases h
 ·cases h
 ·rename_i cl hc
  split at h
  ·rename_i f hf
   split at h
   ·rename_i gg cap hfe
    obtain⟨args',v,h1,h2,h3⟩:=h
    refine⟨_,.inr (.inr ?_),h3⟩
    unfold OpFG
    simp only[hc,hf,hfe]
    exact⟨v,args',rfl,h1,h2⟩
   ·obtain⟨rfl,h⟩:=h
    exact⟨_,.inl ⟨rfl,_,rfl⟩,h⟩
  ·rename_i hnv
   split at h
   ·rename_i s r hv
    refine⟨_,.inr (.inr ?_),h.2⟩
    unfold OpFG
    rw[hc]at hv⊢
    simp only
    cases hcal:cl.callee with
    |value f=>exact absurd hcal (hnv f)
    |_=>simp only[hv];exact⟨h.1,trivial⟩
   ·obtain⟨rfl,h⟩:=h
    exact⟨_,.inl ⟨rfl,_,rfl⟩,h⟩
 ·rename_i h1 h2 h3 h4
  split at h
  ·rename_i s r hv
   refine⟨_,.inr (.inr ?_),h.2⟩
   unfold OpFG
   split
   ·rename_i t e;exact absurd e (h1 t)
   ·rename_i t x e;exact absurd e (h2 t x)
   ·rename_i t x v e;exact absurd e (h3 t x v)
   ·rename_i c e;exact absurd e (h4 c)
   ·simp only[hv]
    exact⟨h.1,trivial⟩
  ·obtain⟨rfl,h⟩:=h
   exact⟨_,.inl ⟨rfl,_,rfl⟩,h⟩
def accS (ops:List Oper):St→Nat→List AV→St
 |s,_,[]=>s
 |s,i,r::rs=>accS ops (s.put ((ops[i]?).bind (·.dst)) r) (i+1) rs
theorem cfQs_inv {ops:List Oper} {k:St→Prop} (base:Nat):∀(n i:Nat) (s:St),i+n≤ops.length→cfQs P ops n (ops.drop i) k s→
  ∃rs:List AV,rs.length=n∧(∀j o r,ops[i+j]? =some o→rs[j]? =some r→OpA P ops (accS ops s i (rs.take j)) o (base+(i+j)) (r,none))∧cfOps P ops (ops.drop (i+n)) k ((accS ops s i rs).bump ops.length)
 |0,i,s,hle,h=>⟨[],rfl,fun j o r _ hr=>(by simp at hr),h⟩
 |n+1,i,s,hle,h=>by
  have hlt:i<ops.length:=by omega
  have hoi:ops[i]? =some ops[i]:=List.getElem?_eq_getElem hlt
  rw[List.drop_eq_getElem_cons hlt]at h
  have key:∃r,OpA P ops s ops[i] (base+i) (r,none)∧cfQs P ops n (ops.drop (i+1)) k (s.put ops[i].dst r):=by
   unfold cfQs at h
   split at h
   ·rename_i hg;exact cfQ_inv hg _ h
   ·rename_i j want hg
    split at h
    ·cases h
    ·rename_i g hd
     split at h
     ·rename_i c hgo;exact cfQG_inv hg hd hgo _ h
     ·cases h
  obtain⟨r,h1,h2⟩:=key
  obtain⟨rs,g1,g2,g3⟩:=cfQs_inv base n (i+1) _ (by omega) h2
  have hb:(ops[i]?).bind (·.dst)=ops[i].dst:=by rw[hoi];rfl
  refine⟨r::rs,by simp[g1],fun j o r' ho hr=>?_,?_⟩
  ·cases j with
   |zero=>
    simp at ho hr
    subst hr
    have:o=ops[i]:=by simpa [hoi]using ho.symm
    subst this
    simpa [accS]using h1
   |succ j=>
    have:=g2 j o r' (by rw[←ho];congr 1;omega) (by simpa using hr)
    simp only[List.take_succ_cons,accS,hb]
    rw[show base+(i+(j+1))=base+(i+1+j)by omega]
    exact this
  ·simp only[accS,hb]
   rw[show i+(n+1)=i+1+n by omega]
   exact g3
theorem accS_objs (ops:List Oper):∀(rs:List AV) (s:St) (i:Nat),(accS ops s i rs).objs=s.objs∧(accS ops s i rs).next=s.next∧(accS ops s i rs).size=s.size∧(accS ops s i rs).grd=s.grd
 |[],s,i=>⟨rfl,rfl,rfl,rfl⟩
 |r::rs,s,i=>by
  obtain⟨h1,h2,h3,h4⟩:=accS_objs ops rs (s.put ((ops[i]?).bind (·.dst)) r) (i+1)
  exact⟨h1.trans (put_objs _ _ _),h2.trans (put_next _ _ _),h3.trans (put_size _ _ _),h4.trans (put_grd _ _ _)⟩
theorem accS_snoc (ops:List Oper):∀(rs:List AV) (r:AV) (s:St) (i:Nat),accS ops s i (rs++[r])=(accS ops s i rs).put ((ops[i+rs.length]?).bind (·.dst)) r
 |[],r,s,i=>rfl
 |x::rs,r,s,i=>by
  simp only[List.cons_append,accS,List.length_cons]
  rw[accS_snoc ops rs r _ (i+1),show i+1+rs.length=i+(rs.length+1)by omega]
theorem accS_lookJ {ops:List Oper} {A:List (List Nat)} {nq:Nat} (hS:Shape ops A st.size nq) (rs:List AV) (hrs:rs.length=nq):∀j,j≤nq→∀t,look (accS ops st 0 (rs.take j)).fr t=look (stMin ops (rs.map fun r=>(r,none)) st (List.range j)).fr t
 |0,_,t=>rfl
 |j+1,hj,t=>by
  have ih:=accS_lookJ hS rs hrs j (by omega) t
  have hlt:j<rs.length:=by omega
  have hle:=hS.le
  have hoj:ops[j]? =some (ops[j]'(by omega)):=List.getElem?_eq_getElem (by omega)
  have hres:(rs.map fun r=>((r,none):Res))[j]? =some (rs[j],none):=by simp[List.getElem?_eq_getElem hlt]
  rw[List.take_add_one,List.getElem?_eq_getElem hlt,Option.toList_some,accS_snoc]
  simp only[List.length_take,Nat.min_eq_left (Nat.le_of_lt hlt),Nat.zero_add,hoj,Option.bind_some]
  have hother:(ops[j]'(by omega)).dst≠some t→look (frOf ops (rs.map fun r=>((r,none):Res)) (List.range (j+1))++st.fr) t=look (frOf ops (rs.map fun r=>((r,none):Res)) (List.range j)++st.fr) t:=by
   intro hne
   by_cases hex:∃(i:Nat) (o':Oper),i∈List.range j∧ops[i]? =some o'∧o'.dst=some t
   ·obtain⟨i,o',hi,ho',hd⟩:=hex
    have hil:=List.mem_range.1 hi
    have hr:(rs.map fun r=>((r,none):Res))[i]? =some (rs[i]'(by omega),none):=by simp[List.getElem?_eq_getElem (show i<rs.length by omega)]
    have hdd:=fun j' o'' h1 h2=>hS.dist i o' (by omega) ho' t hd j' o'' h1 h2
    rw[fr_in' hdd (List.mem_range.2 (by omega)) ho' hr hd,fr_in' hdd hi ho' hr hd]
   ·rw[fr_out,fr_out]
    ·exact fun i o' hi ho' hd=>hex ⟨i,o',hi,ho',hd⟩
    ·intro i o' hi ho' hd
     rcases Nat.lt_or_ge i j with h|h
     ·exact hex ⟨i,o',List.mem_range.2 h,ho',hd⟩
     ·have:i=j:=by have:=List.mem_range.1 hi;omega
      subst this
      rw[hoj]at ho';cases ho'
      exact hne hd
  cases hd:(ops[j]'(by omega)).dst with
  |none=>
   show look (accS ops st 0 (rs.take j)).fr t=_
   rw[ih]
   unfold stMin
   simp only
   rw[hother (by rw[hd];simp)]
  |some d=>
   have hds:=hS.size j _ d (by omega) hoj hd
   by_cases e:d=t
   ·subst e
    unfold stMin
    simp only
    rw[fr_in' (fun j' o' h1 h2=>hS.dist j _ (by omega) hoj d hd j' o' h1 h2) (List.mem_range.2 (Nat.lt_succ_self j)) hoj hres hd]
    simp[St.put,look,(accS_objs ops (rs.take j) st 0).2.2.1,hds]
   ·have h1:look ((accS ops st 0 (rs.take j)).put (some d) rs[j]).fr t=look (accS ops st 0 (rs.take j)).fr t:=by
     simp[St.put,look,e]
    rw[h1,ih]
    unfold stMin
    simp only
    rw[hother (by rw[hd];simpa using e)]
theorem accS_raw {ops:List Oper} {A:List (List Nat)} {nq:Nat} (hS:Shape ops A st.size nq) (rs:List AV) (hrs:rs.length=nq) (j:Nat) (hj:j≤nq) (t:Nat):(accS ops st 0 (rs.take j)).raw t=(stMin ops (rs.map fun r=>(r,none)) st (List.range j)).raw t:=by
 unfold St.raw
 rw[accS_lookJ hS rs hrs j hj t]
theorem accS_look {ops:List Oper} {A:List (List Nat)} {nq:Nat} (hS:Shape ops A st.size nq) (rs:List AV) (hrs:rs.length=nq) (t:Nat):look (accS ops st 0 rs).fr t=look (stMin ops (rs.map fun r=>(r,none)) st (List.range nq)).fr t:=by
 have:=accS_lookJ hS rs hrs nq (Nat.le_refl _) t
 rwa [List.take_of_length_le (by omega)]at this
theorem obOf_none (rs:List AV) (base:Nat) (is:List Nat):obOf (rs.map fun r=>((r,none):Res)) base is=[]:=by
 unfold obOf
 rw[List.filterMap_eq_nil_iff]
 intro j _
 simp only[List.getElem?_map]
 cases rs[j]?<;>rfl
theorem cfQs_sound {Q:Exit→Act→World→Prop} {ops:Array Oper} {nq:Nat} {k:St→Prop} (hP:P.follows .mixedOrders=true) (hsh:shapeB ops.toList (ancs [] ops.toList) st.size nq=true) (h:SimF E st m a w)
  (hc:cfQs P ops.toList nq ops.toList k st) (hk:∀st' m' a' w',k st'→SimF E st' m' a' w'→Q .normal a' w'):wpAny P .any ops Q ops.size (Array.replicate ops.size false) a {w with drawn:=w.drawn+1}:=by
 have hS:=shape_of hsh
 have hle:nq≤ops.toList.length:=hS.le
 obtain⟨rs,h1,h2,h3⟩:=cfQs_inv st.next nq 0 st (by rw[Nat.zero_add];exact hle) (by simpa using hc)
 refine region_any (A:=ancs [] ops.toList) (res:=rs.map fun r=>(r,none)) hP hS (by simpa using h1) ?_ h ?_
 ·intro i o re ho hre
  simp only[List.getElem?_map,Option.map_eq_some_iff]at hre
  obtain⟨r,hr,rfl⟩:=hre
  have hi:i<nq:=by have:=(List.getElem?_eq_some_iff.1 hr).1;omega
  have:=h2 i o r (by simpa using ho) hr
  rw[Nat.zero_add]at this
  refine OpA_mono (s:=accS ops.toList st 0 (rs.take i)) ?_ rfl ?_ ?_ this
  ·exact(accS_objs _ _ _ _).2.2.2.trans h.grd
  ·intro t ht
   rw[accS_raw hS rs h1 i (by omega) t]
   unfold St.raw stMin
   simp only
   by_cases hex:∃(j:Nat) (o':Oper),ops.toList[j]? =some o'∧o'.dst=some t
   ·obtain⟨j,o',ho',hd⟩:=hex
    rcases hS.tmps i o hi ho t ht j o' ho' hd with hj|hij
    ·have hjlt:=(hS.anc i o ho j hj).1
     have hr':(rs.map fun r=>((r,none):Res))[j]? =some (rs[j]'(by omega),none):=by simp[List.getElem?_eq_getElem (show j<rs.length by omega)]
     have hdd:=fun j' o'' h1 h2=>hS.dist j o' (by omega) ho' t hd j' o'' h1 h2
     rw[fr_in' hdd hj ho' hr' hd,fr_in' hdd (List.mem_range.2 hjlt) ho' hr' hd]
    ·have hijlt:=(hS.anc j o' ho' i hij).1
     have hno:∀(is:List Nat),j∉is→(∀q∈is,q<nq)→∀j' o'',j'∈is→ops.toList[j']? =some o''→o''.dst≠some t:=by
      intro is hjs hlt' j' o'' hj' ho'' hd'
      have:=hS.dist j' o'' (hlt' j' hj') ho'' t hd' j o' ho' hd
      subst this
      exact hjs hj'
     rw[fr_out (hno _ (fun hj=>by have:=(hS.anc i o ho j hj).1;omega) fun q hq=>by have:=(hS.anc i o ho q hq).1;omega),fr_out (hno _ (fun hj=>by have:=List.mem_range.1 hj;omega) fun q hq=>by have:=List.mem_range.1 hq;omega)]
   ·rw[fr_out (fun j o' _ ho' hd=>hex ⟨j,o',ho',hd⟩),fr_out (fun j o' _ ho' hd=>hex ⟨j,o',ho',hd⟩)]
  ·intro n x hn
   have:st.obj n=some x:=by
    have e:(accS ops.toList st 0 (rs.take i)).obj n=st.obj n:=by unfold St.obj;rw[(accS_objs _ _ _ _).1]
    rw[e]at hn;exact hn
   unfold St.obj stMin
   simp only[obOf_none,List.nil_append]
   exact this
 ·intro m' a' w' hs hno
  have hobj:=accS_objs ops.toList rs st 0
  have hno:∀n,st.next≤n→m' n=none:=hno fun re hre=>by
   rw[List.mem_map]at hre
   obtain⟨r,_,rfl⟩:=hre
   rfl
  have hs0:SimF E {stMin ops.toList (rs.map fun r=>(r,none)) st (List.range nq)with next:=st.next} m' a' w':={hs with fresh:=hno}
  have hs':SimF E ((accS ops.toList st 0 rs).bump ops.toList.length) m' a' w':=by
   refine hs0.same ?_ ?_ ?_ ?_ ?_
   ·intro t
    have:=accS_look hS rs h1 t
    exact this
   ·intro n
    unfold St.obj St.bump stMin
    simp only[obOf_none,List.nil_append,hobj.1]
   ·simp only[St.bump,hobj.2.1];exact Nat.le_refl _
   ·exact hobj.2.2.1
   ·exact hobj.2.2.2.trans h.grd
  rw[Nat.zero_add]at h3
  exact cfOps_sound hk _ _ _ _ _ hs' h3
end Go.Am
namespace Go.Am
open Go.RowKit
variable {P:Program} {E:Env} {st:St} {m:Nm} {w:World} {a:Act}
def frAfter (d:Option Tmp) (fr1 fr:List (Nat×AV)):List (Nat×AV):=
 match d with
 |none=>fr
 |some d=>(d,(look fr1 d).getD .undef)::fr
def QF:Exit→Act→World→Prop:=fun _ _ _=>False
theorem wp_put {o:Oper} {a0:Act} (ht:a0.tmps=a.tmps) {K0 K:Act→World→Prop} {Q:Exit→Act→World→Prop} (h:o.wp P a0 w K0 QF)
  (hK0:∀a' w',K0 a' w'→a'.defers=[]) (hk:∀v w',K0 (a0.put o.dst v) w'→K (a.put o.dst v) w'):o.wp P a w K Q:=by
 unfold Oper.wp at*
 have he:a.eval=a0.eval:=by
  funext x
  cases x<;>simp only[Act.eval,ht]
 rw[he]
 generalize hres:(execOp a0.eval o).run P w=res at*
 cases res with
 |ok n w'=>
  cases n with
  |value v=>exact hk _ _ h
  |skip=>exact hk _ _ h
  |defer d=>
   exfalso
   have:=hK0 _ _ h
   cases hd:o.dst<;>rw[hd]at this<;>cases this
  |enter f args=>
   simp only[Oper.upon]at h⊢
   refine Calls.mono h fun e w'' he=>?_
   cases e with
   |returned v=>exact hk _ _ he
   |panicked c=>exact he.elim
   |outgrown=>obtain⟨_,_,he⟩:=he;exact he.elim
  |row r args=>
   simp only[Oper.upon]at h⊢
   exact Rows.mono h fun v w'' he=>hk _ _ he
  |_=>simp only[Oper.upon]at h⊢
 |halt x w'=>cases x<;>simp only[Oper.upon]at h⊢<;>exact h.elim
theorem VRep.monoH {m m':Nm} {c c':Addr→Value→Prop} (hm:∀n l,m n=some l→l≠.hole→m' n=some l) (hc:∀p v,c p v→c' p v) {x:AV} {v:Value}
  (h:VRep m c x v):VRep m' c' x v:=by
 induction h with
 |im h=>exact .im (h.mono hc)
 |eptr u a h0 h1 h2=>exact .eptr u a h0 (fun j y h=>hc _ _ (h1 j y h)) (fun j y h=>(h2 j y h).mono hc)
 |yld h=>exact .yld (hm _ _ h (by simp))
 |sub h hl hcp=>exact .sub (hm _ _ h (by simp)) hl hcp
 |cut h hl=>exact .cut (hm _ _ h (by simp)) hl
 |rptr h=>exact .rptr (hm _ _ h (by simp))
 |ptr h=>exact .ptr (hm _ _ h (by simp))
 |row h=>exact .row (hm _ _ h (by simp))
 |agg hl _ ih=>exact .agg hl ih
 |tup hl _ ih=>exact .tup hl ih
 |fn hl _ ih=>exact .fn hl ih
 |map h=>exact .map (hm _ _ h (by simp))
 |cond _ hf ih=>exact .cond ih hf
 |undef=>exact .undef
theorem objRep_monoH {m m':Nm} {c c':Addr→Value→Prop} {w w':World} {l:Loc} {o:AObj} (hm:∀n l,m n=some l→l≠.hole→m' n=some l) (hc:∀p v,c p v→c' p v)
  (hb:∀b,l.own=some b→o.owns=true→w'.heap[b]? =w.heap[b]?) (h:ObjRep m c w l o):ObjRep m' c' w' l o:=by
 cases o with
 |box t cs=>
  obtain⟨b,arr,rfl,hh,hsz,hone,hr⟩:=h
  exact⟨b,arr,rfl,(hb b rfl rfl).trans hh,hsz,hone,fun j y u h1 h2=>(hr j y u h1 h2).monoH hm hc⟩
 |row e k xs=>
  obtain⟨A,cp,flat,rfl,hown,hone,hlen,hr⟩:=h
  refine⟨A,cp,flat,rfl,?_,hone,hlen,fun i x j y u h1 h2 h3=>(hr i x j y u h1 h2 h3).mono hc⟩
  obtain⟨h1,h2⟩:=hown
  refine⟨h1,?_⟩
  rcases h2 with h2|⟨g,cap,cur,hv,hg,hh,r⟩
  ·exact .inl h2
  ·refine .inr ⟨g,cap,cur,hv,hg,?_,r⟩
   cases hv
   exact(hb g rfl rfl).trans hh
 |fz k xs=>
  obtain⟨A,cp,rfl,hx⟩:=h
  exact⟨A,cp,rfl,hx.mono hc⟩
 |rowE e k Q=>
  obtain⟨xs,hQ,A,cp,flat,rfl,hown,hone,hlen,hr⟩:=h
  refine⟨xs,hQ,A,cp,flat,rfl,?_,hone,hlen,fun i x j y u h1 h2 h3=>(hr i x j y u h1 h2 h3).mono hc⟩
  obtain⟨h1,h2⟩:=hown
  refine⟨h1,?_⟩
  rcases h2 with h2|⟨g,cap,cur,hv,hg,hh,r⟩
  ·exact .inl h2
  ·refine .inr ⟨g,cap,cur,hv,hg,?_,r⟩
   cases hv
   exact(hb g rfl rfl).trans hh
 |mp q xs=>
  obtain⟨b,es,rfl,hh,hsz,hr⟩:=h
  exact⟨b,es,rfl,(hb b rfl rfl).trans hh,hsz,fun i x e h1 h2=>⟨(hr i x e h1 h2).1,(hr i x e h1 h2).2.1,(hr i x e h1 h2).2.2.monoH hm hc⟩⟩
 |it n since seen=>
  obtain⟨b,bm,rfl,hn,hh⟩:=h
  exact⟨b,bm,rfl,hm _ _ hn (by simp),(hb b rfl rfl).trans hh⟩
 |lp b r s p=>
  obtain⟨rfl,hh⟩:=h
  exact⟨rfl,(hb b rfl rfl).trans hh⟩
 |sv a fr=>
  obtain⟨h1,h2,h3⟩:=h
  exact⟨h1,fun d hd=>let ⟨b,e,hx⟩:=h2 d hd;⟨b,e,hc _ _ hx⟩,fun s y hy=>(h3 s y hy).monoH hm hc⟩
 |rowP e k hl cp xs=>
  obtain⟨A,flat,rfl,hle,hown,hone,hlen,hr⟩:=h
  refine⟨A,flat,rfl,hle,?_,hone,hlen,fun i x j y u h1 h2 h3=>(hr i x j y u h1 h2 h3).mono hc⟩
  obtain⟨h1,h2⟩:=hown
  refine⟨h1,?_⟩
  rcases h2 with h2|⟨g,cap,cur,hv,hg,hh,r⟩
  ·exact .inl h2
  ·refine .inr ⟨g,cap,cur,hv,hg,?_,r⟩
   cases hv
   exact(hb g rfl rfl).trans hh
 |gl gs=>exact⟨h.1,fun g cs hg=>(h.2 g cs hg).monoH hm hc⟩
 |gone=>trivial
theorem SimF.layH {fr:List (Nat×AV)} {ob:List (Nat×AObj)} {nx sz:Nat} (h:SimF E ⟨fr,ob,nx,sz,none⟩ m a w) {nm:Nat} (hf:m nm=some .hole) (hlt:nm<nx) (hm0:E.m0 nm=none) (hno:look ob nm=none) (t:TypeId) {arr:Array Value} {oh:AObj} {lh:Loc} (hlh:lh.own=some w.heap.size)
  (hrep:∀(m':Nm) (c':Addr→Value→Prop),(∀n l,m n=some l→l≠.hole→m' n=some l)→(∀p v,seen w ((⟨fr,ob,nx,sz,none⟩:St).X m E.Y) p v→c' p v)→ObjRep m' c' (w.alloc (.cells arr t)) lh oh):
  SimF E (⟨fr,(nm,oh)::ob,nx,sz,none⟩:St) (fun n=>if n=nm then some lh else m n) a (w.alloc (.cells arr t)):=by
 have hb:=below_alloc1 w (.cells arr t)
 have hm:∀n l',m n=some l'→l'≠.hole→(fun n=>if n=nm then some (lh)else m n) n=some l':=by
  intro n l' hn hl
  have:n≠nm:=by rintro rfl;rw[hf]at hn;cases hn;exact hl rfl
  simp[this,hn]
 have hown:∀b,(⟨fr,(nm,oh)::ob,nx,sz,none⟩:St).owned (fun n=>if n=nm then some (lh)else m n) b→b=w.heap.size∨(⟨fr,ob,nx,sz,none⟩:St).owned m b:=by
  rintro b ⟨n,o,l,h1,h2,h3,h4⟩
  simp only[St.obj,look]at h1
  by_cases e:n=nm
  ·subst e
   simp at h3
   subst h3
   rw[hlh]at h4
   cases h4
   exact .inl rfl
  ·rw[if_neg (fun h=>e h.symm)]at h1
   simp[e]at h3
   exact .inr ⟨n,o,l,h1,h2,h3,h4⟩
 have hX:∀b,b<w.heap.size→(⟨fr,(nm,oh)::ob,nx,sz,none⟩:St).X (fun n=>if n=nm then some (lh)else m n) E.Y b→(⟨fr,ob,nx,sz,none⟩:St).X m E.Y b:=by
  intro b hlt hx
  rcases hx with hx|hx
  ·rcases hown b hx with hx|hx
   ·omega
   ·exact .inl hx
  ·exact .inr hx
 have hc:=seen_mono (w:=w) (w':=w.alloc (.cells arr t)) (fun b hb' (_:¬(⟨fr,ob,nx,sz,none⟩:St).X m E.Y b)=>hb.block b hb') hX
 have hs:SimF E (⟨fr,(nm,oh)::ob,nx,sz,none⟩:St) (fun n=>if n=nm then some lh else m n) a (w.alloc (.cells arr t)):=by
  refine{objs:=?_,apart:=?_,foreign:=?_,fresh:=?_,defers:=fun d hd=>(let ⟨b,e,hx⟩:=h.defers d hd;⟨b,e,hc _ _ hx⟩),size:=h.size,fr:=fun s y hy=>(h.fr s y hy).monoH hm hc,kept:=(h.grow hb).kept,mine:=?_,mext:=?_,ylt:=h.ylt,esz:=h.esz,grd:=rfl,dnd:=h.dnd,dge:=h.dge,ndf:=h.ndf}
  ·intro n o' hn
   simp only[St.obj,look]at hn
   by_cases e:n=nm
   ·subst e
    simp at hn
    subst hn
    exact⟨lh,by simp,hrep _ _ hm hc⟩
   ·rw[if_neg (fun h=>e h.symm)]at hn
    obtain⟨l',hl',hr'⟩:=h.objs n o' hn
    refine⟨l',by simp[e,hl'],objRep_monoH hm hc (fun b hbl ho=>hb.block b (h.owned_lt ⟨n,o',l',hn,ho,hl',hbl⟩)) hr'⟩
  ·intro n n' o1 o2 l1 l2 b h1 h2 h3 h4 h5 h6 h7 h8
   simp only[St.obj,look]at h1 h2
   by_cases e:n=nm<;>by_cases e':n'=nm
   ·rw[e,e']
   ·subst e
    simp at h5
    subst h5
    rw[hlh]at h7
    cases h7
    rw[if_neg (fun h=>e' h.symm)]at h2
    simp[e']at h6
    have:=h.owned_lt ⟨n',o2,l2,h2,h4,h6,h8⟩
    omega
   ·subst e'
    simp at h6
    subst h6
    rw[hlh]at h8
    cases h8
    rw[if_neg (fun h=>e h.symm)]at h1
    simp[e]at h5
    have:=h.owned_lt ⟨n,o1,l1,h1,h3,h5,h7⟩
    omega
   ·rw[if_neg (fun h=>e h.symm)]at h1
    rw[if_neg (fun h=>e' h.symm)]at h2
    simp[e]at h5
    simp[e']at h6
    exact h.apart n n' o1 o2 l1 l2 b h1 h2 h3 h4 h5 h6 h7 h8
  ·intro b hb' hy
   rcases hown b hb' with hx|hx
   ·subst hx
    have:=h.ylt _ hy
    have:=h.kept.size
    omega
   ·exact h.foreign b hx hy
  ·intro n hn
   have:n≠nm:=by simp only at hn;omega
   simp[this]
   exact h.fresh n hn
  ·intro b hb'
   rcases hown b hb' with hx|hx
   ·subst hx;exact .inr h.kept.size
   ·exact h.mine b hx
  ·intro n l hn
   have:n≠nm:=by rintro rfl;rw[hm0]at hn;cases hn
   simp[this]
   exact h.mext n l hn
 exact hs
theorem SimF.allocH {fr:List (Nat×AV)} {ob:List (Nat×AObj)} {nx sz:Nat} (h:SimF E ⟨fr,ob,nx,sz,none⟩ m a w) {nm:Nat} (hf:m nm=some .hole) (hlt:nm<nx) (hm0:E.m0 nm=none) (hno:look ob nm=none) (t:TypeId) {cs:List AV} {arr:Array Value} (hsz:arr.size=cs.length) (hone:∀u,u∈arr→u.oneCell'=true)
  (hr:∀(j:Nat) (y:AV) (u:Value),cs[j]? =some y→arr[j]? =some u→VRep m (seen w ((⟨fr,ob,nx,sz,none⟩:St).X m E.Y)) y u) (d:Option Nat):
  SimF E ((⟨fr,(nm,.box t cs)::ob,nx,sz,none⟩:St).put d (.ptr nm 0)) (fun n=>if n=nm then some (.blk w.heap.size)else m n) (a.put d (.pointer (some ⟨w.heap.size,0,none⟩))) (w.alloc (.cells arr t)):=
 (h.layH hf hlt hm0 hno t (arr:=arr) (oh:=.box t cs) (lh:=.blk w.heap.size) rfl fun m' c' hm hc=>⟨w.heap.size,arr,rfl,heap_alloc_new w _,hsz,hone,fun j y u g1 g2=>(hr j y u g1 g2).monoH hm hc⟩).put d (.ptr (by simp))
theorem SimF.rowH {fr:List (Nat×AV)} {ob:List (Nat×AObj)} {nx sz:Nat} (h:SimF E ⟨fr,ob,nx,sz,none⟩ m a w) {nm:Nat} (hf:m nm=some .hole) (hlt:nm<nx) (hm0:E.m0 nm=none) (hno:look ob nm=none) (e:TypeId) (v:Value) (hone:v.oneCell'=true) (d:Option Nat):
  SimF E ((⟨fr,(nm,.row e 1 [[.sc v]])::ob,nx,sz,none⟩:St).put d (.row nm)) (fun n=>if n=nm then some (.hdr (some ⟨w.heap.size,0,none⟩) 1 1)else m n) (a.put d (.slice (some ⟨w.heap.size,0,none⟩) 1 1)) (w.alloc (.cells #[v] e)):=
 (h.layH hf hlt hm0 hno e (arr:=#[v]) (oh:=.row e 1 [[.sc v]]) (lh:=.hdr (some ⟨w.heap.size,0,none⟩) 1 1) rfl fun m' c' hm hc=>⟨_,_,[v],rfl,World.ownsRow_lit (base:=0) (e:=e) (size:=1) w #[v] 1 (Nat.zero_le _) (by unfold maxLen;omega) rfl,by simp;exact hone,fun i x hx=>by
  cases i with
  |zero=>simp at hx;subst hx;rfl
  |succ i=>simp at hx,fun i x j y u g1 g2 g3=>by
  cases i with
  |zero=>
   simp at g1;subst g1
   cases j with
   |zero=>simp at g2 g3;subst g2;subst g3;exact .sc
   |succ j=>simp at g2
  |succ i=>simp at g1⟩).put d (.row (by simp))
theorem SimF.holes (h:SimF E st m a w) (L:Nat→Bool) {nx:Nat} (hL:∀n,L n=true→st.next≤n∧n<nx) (hnx:st.next≤nx):SimF E {st with next:=nx} (fun n=>if L n=true then some .hole else m n) a w:=by
 have hm:∀n l',m n=some l'→(fun n=>if L n=true then some Loc.hole else m n) n=some l':=by
  intro n l' hn
  have:¬L n=true:=fun e=>by rw[h.fresh n (hL n e).1]at hn;cases hn
  simp[this,hn]
 have hown:∀b,({st with next:=nx}:St).owned (fun n=>if L n=true then some Loc.hole else m n) b→st.owned m b:=by
  rintro b ⟨n,o,l,h1,h2,h3,h4⟩
  simp only at h3
  split at h3
  ·cases h3;cases h4
  ·exact⟨n,o,l,h1,h2,h3,h4⟩
 have hc:=seen_mono (w:=w) (w':=w) (X:=st.X m E.Y) (X':=({st with next:=nx}:St).X (fun n=>if L n=true then some Loc.hole else m n) E.Y) (fun _ _ _=>rfl) (fun b _ hx=>hx.elim (fun hx=>.inl (hown b hx)) .inr)
 refine{objs:=?_,apart:=?_,foreign:=fun b hb=>h.foreign b (hown b hb),fresh:=?_,defers:=fun d hd=>(let ⟨b,e,hx⟩:=h.defers d hd;⟨b,e,hc _ _ hx⟩),size:=h.size,fr:=fun s y hy=>(h.fr s y hy).mono hm hc,kept:=h.kept,mine:=fun b hb=>h.mine b (hown b hb),mext:=fun n l hn=>hm n l (h.mext n l hn),ylt:=h.ylt,esz:=h.esz,grd:=h.grd,dnd:=h.dnd,dge:=h.dge,ndf:=h.ndf}
 ·intro n o' hn
  obtain⟨l',hl',hr'⟩:=h.objs n o' hn
  exact⟨l',hm n l' hl',objRep_mono hm hc (fun _ _ _=>rfl) hr'⟩
 ·intro n n' o1 o2 l1 l2 b h1 h2 h3 h4 h5 h6 h7 h8
  have h5:(if L n=true then some Loc.hole else m n)=some l1:=h5
  have h6:(if L n'=true then some Loc.hole else m n')=some l2:=h6
  split at h5
  ·cases h5;cases h7
  split at h6
  ·cases h6;cases h8
  exact h.apart n n' o1 o2 l1 l2 b h1 h2 h3 h4 h5 h6 h7 h8
 ·intro n hn
  have h1:¬L n=true:=fun e=>by have:=(hL n e).2;simp only at hn;omega
  simp[h1]
  exact h.fresh n (Nat.le_trans hnx hn)
theorem look_app' {α:Type} (l l':List (Nat×α)) (n:Nat):look (l++l') n=match look l n with
  |some x=>some x
  |none=>look l' n:=by
 induction l with
 |nil=>rfl
 |cons x l ih=>
  obtain⟨i,y⟩:=x
  simp only[List.cons_append,look]
  split
  ·rfl
  ·exact ih
theorem SimF.framed {fr:List (Nat×AV)} {ex ob0:List (Nat×AObj)} {nx sz:Nat} (h:SimF E ⟨fr,ex++ob0,nx,sz,none⟩ m a w) (hdis:∀n x,look ex n=some x→look ob0 n=none) {fr0:List (Nat×AV)} (h0:∀s y,look fr0 s=some y→VRep m (seen w ((⟨fr,ex++ob0,nx,sz,none⟩:St).X m E.Y)) y (a.tmps.getD s Go.undef)) {o:Oper} {K0:St→Prop} {K:Act→World→Prop} {Q:Exit→Act→World→Prop}
  (hc:cfOp P o K0 ⟨fr0,ob0,nx,sz,none⟩) (hdis1:∀st1,K0 st1→∀n x,look ex n=some x→look st1.objs n=none)
  (hk:∀st1 m' a' w',K0 st1→SimF E ⟨frAfter o.dst st1.fr fr,ex++st1.objs,st1.next,sz,none⟩ m' a' w'→(∀n l,m n=some l→m' n=some l)→K a' w'):o.wp P a w K Q:=by
 have hsub:∀n x,look ob0 n=some x→look (ex++ob0) n=some x:=by
  intro n x hn
  rw[look_app']
  cases he:look ex n with
  |none=>exact hn
  |some y=>rw[hdis n y he]at hn;cases hn
 have hexs:∀n x,look ex n=some x→look (ex++ob0) n=some x:=by
  intro n x hn
  rw[look_app',hn]
 have hspl:∀(X:List (Nat×AObj)) n x,look (ex++X) n=some x→look ex n=some x∨(look ex n=none∧look X n=some x):=by
  intro X n x hn
  rw[look_app']at hn
  cases he:look ex n with
  |none=>rw[he]at hn;exact .inr ⟨rfl,hn⟩
  |some y=>rw[he]at hn;exact .inl hn
 obtain⟨W,hW⟩:∃W:Nat→Prop,W=fun b=>∃n x l,look ex n=some x∧x.owns=true∧m n=some l∧l.own=some b:=⟨_,rfl⟩
 have hown0:∀b,(⟨fr0,ob0,nx,sz,none⟩:St).owned m b→(⟨fr,ex++ob0,nx,sz,none⟩:St).owned m b:=by
  rintro b ⟨n,x,l,h1,h2,h3,h4⟩
  exact⟨n,x,l,hsub n x h1,h2,h3,h4⟩
 have hownW:∀b,W b→(⟨fr,ex++ob0,nx,sz,none⟩:St).owned m b:=by
  intro b hb
  rw[hW]at hb
  obtain⟨n,x,l,h1,h2,h3,h4⟩:=hb
  exact⟨n,x,l,hexs n x h1,h2,h3,h4⟩
 have hown1:∀b,(⟨fr,ex++ob0,nx,sz,none⟩:St).owned m b→(⟨fr0,ob0,nx,sz,none⟩:St).owned m b∨W b:=by
  rintro b ⟨n,x,l,h1,h2,h3,h4⟩
  rcases hspl ob0 n x h1 with h1|⟨_,h1⟩
  ·right;rw[hW];exact⟨n,x,l,h1,h2,h3,h4⟩
  ·exact .inl ⟨n,x,l,h1,h2,h3,h4⟩
 have hX0:∀b,(⟨fr0,ob0,nx,sz,none⟩:St).X m (fun b=>E.Y b∨W b) b→(⟨fr,ex++ob0,nx,sz,none⟩:St).X m E.Y b:=by
  rintro b (hx|hx|hx)
  ·exact .inl (hown0 b hx)
  ·exact .inr hx
  ·exact .inl (hownW b hx)
 have hs0:∀p u,seen w ((⟨fr,ex++ob0,nx,sz,none⟩:St).X m E.Y) p u→seen w ((⟨fr0,ob0,nx,sz,none⟩:St).X m fun b=>E.Y b∨W b) p u:=seen_mono (fun _ _ _=>rfl) fun b _ hx=>hX0 b hx
 let E':Env:={Y:=fun b=>E.Y b∨W b,Z:=(⟨fr0,ob0,nx,sz,none⟩:St).owned m,w0:=w,m0:=m,sz:=sz,nodf:=true}
 have hs:SimF E' ⟨fr0,ob0,nx,sz,none⟩ m {tmps:=a.tmps,defers:=[]} w:={
  objs:=fun n x hn=>by
   obtain⟨l,hl,hr⟩:=h.objs n x (hsub n x hn)
   exact⟨l,hl,objRep_mono (fun _ _ h=>h) hs0 (fun _ _ _=>rfl) hr⟩
  apart:=fun n n' x x' l l' b h1 h2=>h.apart n n' x x' l l' b (hsub n x h1) (hsub n' x' h2)
  foreign:=fun b hb hy=>by
   rcases hy with hy|hy
   ·exact h.foreign b (hown0 b hb) hy
   ·rw[hW]at hy
    obtain⟨n,x,l,h1,h2,h3,h4⟩:=hy
    obtain⟨n',x',l',g1,g2,g3,g4⟩:=hb
    have:=h.apart n n' x x' l l' b (hexs n x h1) (hsub n' x' g1) h2 g2 h3 g3 h4 g4
    subst this
    have g1:look ob0 n=some x':=g1
    rw[hdis n x h1]at g1
    cases g1
  fresh:=h.fresh
  defers:=fun d hd=>by cases hd
  size:=h.size
  fr:=fun s y hy=>(h0 s y hy).mono (fun _ _ h=>h) hs0
  kept:=Kept.refl _ _
  mine:=fun b hb=>.inl hb
  mext:=fun _ _ h=>h
  ylt:=fun b hb=>by
   rcases hb with hb|hb
   ·exact Nat.lt_of_lt_of_le (h.ylt b hb) h.kept.size
   ·exact h.owned_lt (hownW b hb)
  esz:=rfl
  grd:=rfl
  dnd:=List.nodup_nil
  dge:=fun b hb=>by cases hb
  ndf:=fun _=>rfl}
 have h1:=cfOp_sound (P:=P) (Q:=QF) (K:=fun a' w'=>∃st1 m',K0 st1∧SimF E' st1 m' a' w') hs hc (fun st' m' a' w' hK hs'=>⟨st',m',hK,hs'⟩)
 refine wp_put (a:=a) (a0:={tmps:=a.tmps,defers:=[]}) rfl h1 ?_ ?_
 ·rintro a' w' ⟨st1,m',_,hs'⟩
  exact hs'.ndf rfl
 rintro v w' ⟨st1,m',hK,hs'⟩
 have hm:∀n l,m n=some l→m' n=some l:=hs'.mext
 refine hk st1 m' _ w' hK ?_ hm
 have hkp:Kept ((⟨fr0,ob0,nx,sz,none⟩:St).owned m) w w':=hs'.kept
 have hmine:∀b,st1.owned m' b→(⟨fr0,ob0,nx,sz,none⟩:St).owned m b∨w.heap.size≤b:=hs'.mine
 have hd1:=hdis1 st1 hK
 have hsub1:∀n x,look st1.objs n=some x→look (ex++st1.objs) n=some x:=by
  intro n x hn
  rw[look_app']
  cases he:look ex n with
  |none=>exact hn
  |some y=>rw[hd1 n y he]at hn;cases hn
 have hexm:∀n x,look ex n=some x→∃l,m n=some l∧m' n=some l:=by
  intro n x hn
  obtain⟨l,hl,_⟩:=h.objs n x (hexs n x hn)
  exact⟨l,hl,hm n l hl⟩
 have hownN:∀b,(⟨frAfter o.dst st1.fr fr,ex++st1.objs,st1.next,sz,none⟩:St).owned m' b→st1.owned m' b∨W b:=by
  rintro b ⟨n,x,l,h1,h2,h3,h4⟩
  rcases hspl st1.objs n x h1 with h1|⟨_,h1⟩
  ·right
   obtain⟨l0,g1,g2⟩:=hexm n x h1
   rw[g2]at h3;cases h3
   rw[hW]
   exact⟨n,x,_,h1,h2,g1,h4⟩
  ·exact .inl ⟨n,x,l,h1,h2,h3,h4⟩
 have hs1:∀p u,seen w' (st1.X m' fun b=>E.Y b∨W b) p u→seen w' ((⟨frAfter o.dst st1.fr fr,ex++st1.objs,st1.next,sz,none⟩:St).X m' E.Y) p u:=
  seen_mono (fun _ _ _=>rfl) fun b _ hx=>by
   rcases hx with hx|hx
   ·rcases hownN b hx with hx|hx
    ·exact .inl hx
    ·exact .inr (.inr hx)
   ·exact .inr (.inl hx)
 have hXn:∀b,b<w.heap.size→(⟨frAfter o.dst st1.fr fr,ex++st1.objs,st1.next,sz,none⟩:St).X m' E.Y b→(⟨fr,ex++ob0,nx,sz,none⟩:St).X m E.Y b:=by
  intro b hb hx
  rcases hx with hx|hx
  ·rcases hownN b hx with hx|hx
   ·rcases hmine b hx with hx|hx
    ·exact .inl (hown0 b hx)
    ·omega
   ·exact .inl (hownW b hx)
  ·exact .inr hx
 have hseen:∀p u,seen w ((⟨fr,ex++ob0,nx,sz,none⟩:St).X m E.Y) p u→seen w' ((⟨frAfter o.dst st1.fr fr,ex++st1.objs,st1.next,sz,none⟩:St).X m' E.Y) p u:=
  seen_mono (fun b hb hx=>hkp.block b hb fun ho=>hx (.inl (hown0 b ho))) hXn
 have hsz1:st1.size=sz:=hs'.esz
 have hts:(a.put o.dst v).tmps.size=sz:=by
  have:=h.size
  cases o.dst with
  |none=>exact this
  |some d=>simpa [Act.put]using this
 exact{
  objs:=fun n x hn=>by
   rcases hspl st1.objs n x hn with hn|⟨_,hn⟩
   ·obtain⟨l,hl,hr⟩:=h.objs n x (hexs n x hn)
    refine⟨l,hm n l hl,objRep_mono hm hseen (fun b hbl ho=>?_) hr⟩
    have hWb:W b:=by rw[hW];exact⟨n,x,l,hn,ho,hl,hbl⟩
    refine hkp.block b (h.owned_lt (hownW b hWb)) fun hob=>?_
    obtain⟨n',x',l',g1,g2,g3,g4⟩:=hob
    have:=h.apart n n' x x' l l' b (hexs n x hn) (hsub n' x' g1) ho g2 hl g3 hbl g4
    subst this
    have g1:look ob0 n=some x':=g1
    rw[hdis n x hn]at g1
    cases g1
   ·obtain⟨l,hl,hr⟩:=hs'.objs n x hn
    exact⟨l,hl,objRep_mono (fun _ _ h=>h) hs1 (fun _ _ _=>rfl) hr⟩
  apart:=fun n n' x x' l l' b g1 g2 g3 g4 g5 g6 g7 g8=>by
   rcases hspl st1.objs n x g1 with g1|⟨_,g1⟩<;>rcases hspl st1.objs n' x' g2 with g2|⟨_,g2⟩
   ·obtain⟨l0,k1,k2⟩:=hexm n x g1
    obtain⟨l0',k3,k4⟩:=hexm n' x' g2
    rw[k2]at g5;cases g5
    rw[k4]at g6;cases g6
    exact h.apart n n' x x' _ _ b (hexs n x g1) (hexs n' x' g2) g3 g4 k1 k3 g7 g8
   ·exfalso
    obtain⟨l0,k1,k2⟩:=hexm n x g1
    rw[k2]at g5;cases g5
    refine hs'.foreign b ⟨n',x',l',g2,g4,g6,g8⟩ (.inr ?_)
    rw[hW];exact⟨n,x,_,g1,g3,k1,g7⟩
   ·exfalso
    obtain⟨l0,k1,k2⟩:=hexm n' x' g2
    rw[k2]at g6;cases g6
    refine hs'.foreign b ⟨n,x,l,g1,g3,g5,g7⟩ (.inr ?_)
    rw[hW];exact⟨n',x',_,g2,g4,k1,g8⟩
   ·exact hs'.apart n n' x x' l l' b g1 g2 g3 g4 g5 g6 g7 g8
  foreign:=fun b hb hy=>by
   rcases hownN b hb with hx|hx
   ·exact hs'.foreign b hx (.inl hy)
   ·exact h.foreign b (hownW b hx) hy
  fresh:=hs'.fresh
  defers:=fun d hd=>by
   have hd:d∈a.defers:=by cases hdd:o.dst<;>rw[hdd]at hd<;>exact hd
   obtain⟨b,e,hx⟩:=h.defers d hd
   exact⟨b,e,hseen _ _ hx⟩
  size:=hts
  fr:=fun s y hy=>by
   cases hd:o.dst with
   |none=>
    rw[hd]at hy
    exact(h.fr s y hy).mono hm hseen
   |some d=>
    rw[hd]at hy
    simp only[frAfter,look]at hy
    split at hy
    ·rename_i e
     subst e
     cases hy
     have:=(raw_rep hs'.fr d).mono (fun _ _ h=>h) hs1
     rw[hd]at this
     exact this
    ·rename_i e
     have h2:=(h.fr s y hy).mono hm hseen
     have:(a.put (some d) v).tmps.getD s Go.undef=a.tmps.getD s Go.undef:=by
      simp[Act.put,Array.getD_eq_getD_getElem?,Array.getElem?_setIfInBounds,e]
     rw[this]
     exact h2
  kept:=h.kept.trans hkp fun b hb hx=>by
   rcases h.mine b (hown0 b hx)with h3|h3
   ·exact h3
   ·omega
  mine:=fun b hb=>by
   rcases hownN b hb with hx|hx
   ·rcases hmine b hx with h3|h3
    ·exact h.mine b (hown0 b h3)
    ·exact .inr (Nat.le_trans h.kept.size h3)
   ·exact h.mine b (hownW b hx)
  mext:=fun n l hn=>hm n l (h.mext n l hn)
  ylt:=h.ylt
  esz:=h.esz
  grd:=rfl
  dnd:=by cases o.dst<;>exact h.dnd
  dge:=by cases o.dst<;>exact h.dge
  ndf:=by cases o.dst<;>exact h.ndf}
end Go.Am
namespace Go.Am
open Go.RowKit
variable {P:Program} {E:Env} {st:St} {m:Nm} {w:World} {a:Act}
def rz (res:List AV):List Res:=res.map fun r=>(r,none)
theorem rz_get (res:List AV) (j:Nat):(rz res)[j]? =res[j]?.map fun r=>(r,none):=by simp[rz]
abbrev Snap:=List (Nat×AObj)×Nat
abbrev Als:=Nat→Option (Nat×AObj×Nat)
def exs (al:Als) (is:List Nat) (n:Nat):List (Nat×AObj):=is.filterMap fun j=>match al j with
 |some (nm,ob,mr)=>if n≤mr then some (nm,ob)else none
 |none=>none
def mgs (al:Als) (nq n:Nat):List (Nat×AObj):=(List.range nq).filterMap fun j=>match al j with
 |some (nm,ob,mr)=>if mr=n then some (nm,ob)else none
 |none=>none
def InjA (al:Als):Prop:=∀(j j' nm:Nat) (ob ob':AObj) (mr mr':Nat),al j=some (nm,ob,mr)→al j'=some (nm,ob',mr')→j=j'
theorem look_exs {al:Als} (hi:InjA al) {is:List Nat} {n k:Nat} {ob:AObj}:look (exs al is n) k=some ob↔∃j mr,j∈is∧al j=some (k,ob,mr)∧n≤mr:=by
 have hmem:∀k ob,(k,ob)∈exs al is n↔∃j mr,j∈is∧al j=some (k,ob,mr)∧n≤mr:=by
  intro k ob
  unfold exs
  rw[List.mem_filterMap]
  constructor
  ·rintro⟨j,hj,h⟩
   split at h
   ·rename_i nm ob' mr ha
    split at h
    ·rename_i hn;cases h;exact⟨j,mr,hj,ha,hn⟩
    ·cases h
   ·cases h
  ·rintro⟨j,mr,hj,ha,hn⟩
   exact⟨j,hj,by rw[ha];simp[hn]⟩
 constructor
 ·intro h;exact(hmem k ob).1 (look_mem h)
 ·intro h
  refine look_some _ k ob ((hmem k ob).2 h) ?_
  rintro⟨k',ob'⟩ hp rfl
  obtain⟨j,mr,_,h1,_⟩:=h
  obtain⟨j',mr',_,h2,_⟩:=(hmem _ _).1 hp
  have:=hi j j' _ _ _ _ _ h1 h2
  subst this
  rw[h1]at h2
  cases h2
  rfl
theorem look_mgs {al:Als} (hi:InjA al) {nq n k:Nat} {ob:AObj}:look (mgs al nq n) k=some ob↔∃j,j<nq∧al j=some (k,ob,n):=by
 have hmem:∀k ob,(k,ob)∈mgs al nq n↔∃j,j<nq∧al j=some (k,ob,n):=by
  intro k ob
  unfold mgs
  rw[List.mem_filterMap]
  constructor
  ·rintro⟨j,hj,h⟩
   split at h
   ·rename_i nm ob' mr ha
    split at h
    ·rename_i hn;cases h;subst hn;exact⟨j,List.mem_range.1 hj,ha⟩
    ·cases h
   ·cases h
  ·rintro⟨j,hj,ha⟩
   exact⟨j,List.mem_range.2 hj,by rw[ha];simp⟩
 constructor
 ·intro h;exact(hmem k ob).1 (look_mem h)
 ·intro h
  refine look_some _ k ob ((hmem k ob).2 h) ?_
  rintro⟨k',ob'⟩ hp rfl
  obtain⟨j,_,h1⟩:=h
  obtain⟨j',_,h2⟩:=(hmem _ _).1 hp
  have:=hi j j' _ _ _ _ _ h1 h2
  subst this
  rw[h1]at h2
  cases h2
  rfl
theorem look_ext {l l':List (Nat×AObj)} {k:Nat} (h:∀ob,look l k=some ob↔look l' k=some ob):look l k=look l' k:=by
 cases h1:look l k with
 |some x=>exact((h x).1 h1).symm
 |none=>
  cases h2:look l' k with
  |none=>rfl
  |some x=>rw[(h x).2 h2]at h1;cases h1
def stM (ops:List Oper) (res:List AV) (st:St) (OB:Nat→Snap) (al:Als) (is:List Nat) (n:Nat):St:=⟨frOf ops (rz res) is++st.fr,exs al is n++(OB n).1,(OB n).2,st.size,none⟩
def ecnt (isE:Nat→Bool) (nq:Nat) (S:Nat→Bool):Nat:=(List.range nq).countP fun j=>isE j&&S j
theorem ecnt_mono {isE:Nat→Bool} {nq:Nat} {S S':Nat→Bool} (h:∀j,j<nq→isE j=true→S j=true→S' j=true):ecnt isE nq S≤ecnt isE nq S':=by
 refine List.countP_mono_left fun j hj h1=>?_
 simp only[Bool.and_eq_true]at h1⊢
 exact⟨h1.1,h j (by simpa using hj) h1.1 h1.2⟩
theorem ecnt_congr {isE:Nat→Bool} {nq:Nat} {S S':Nat→Bool} (h:∀j,j<nq→isE j=true→S j=S' j):ecnt isE nq S=ecnt isE nq S':=
 Nat.le_antisymm (ecnt_mono fun j h1 h2 h3=>by rw[←h j h1 h2];exact h3) (ecnt_mono fun j h1 h2 h3=>by rw[h j h1 h2];exact h3)
theorem ecnt_add {isE:Nat→Bool} {S S':Nat→Bool} {i:Nat} (hi:isE i=true) (h0:S i=false) (hS:∀j,S' j=true↔j=i∨S j=true):∀nq,i<nq→ecnt isE nq S'=ecnt isE nq S+1:=by
 have hne:∀j,j≠i→S' j=S j:=by
  intro j hj
  cases h1:S j with
  |true=>exact(hS j).2 (.inr h1)
  |false=>
   cases h2:S' j with
   |false=>rfl
   |true=>rcases(hS j).1 h2 with h3|h3;exact absurd h3 hj;rw[h1]at h3;cases h3
 intro nq
 induction nq with
 |zero=>intro h;omega
 |succ nq ih=>
  intro h
  unfold ecnt at*
  rw[List.range_succ,List.countP_append,List.countP_append]
  rcases Nat.lt_or_ge i nq with h1|h1
  ·rw[ih h1]
   have:nq≠i:=by omega
   simp only[List.countP_cons,List.countP_nil,hne nq this]
   omega
  ·have:nq=i:=by omega
   subst this
   have e:List.countP (fun j=>isE j&&S' j) (List.range nq)=List.countP (fun j=>isE j&&S j) (List.range nq):=by
    refine List.countP_congr fun j hj=>?_
    have:j≠nq:=by have:=List.mem_range.1 hj;omega
    rw[hne j this]
   rw[e]
   simp[List.countP_cons,hi,h0,(hS nq).2 (.inl rfl)]
theorem OpF_nm {s:St} {o:Oper} {nm nm':Nat} {r:AV} (h:OpF P s o nm (r,none)):OpF P s o nm' (r,none):=by
 unfold OpF at*
 split at h
 ·split at h
  ·obtain⟨_,h⟩:=h;cases h
  ·exact h.elim
 ·split at h
  ·cases h
  ·exact h.elim
 ·exact h.elim
 ·exact h
 ·exact h
theorem OpA_nm {ops:List Oper} {s:St} {o:Oper} {nm nm':Nat} {r:AV} (h:OpA P ops s o nm (r,none)):OpA P ops s o nm' (r,none):=by
 unfold OpA at*
 split at h
 ·exact OpF_nm h
 ·split at h
  ·exact h
  ·split at h
   ·exact h.imp id (Or.imp (And.imp id OpF_nm) id)
   ·exact h
theorem pure_exec {ops:Array Oper} {o:Oper} {nm:Nat} {r:AV} {K:Act→World→Prop} {Q:Exit→Act→World→Prop} (h:SimF E st m a w) (hop:OpA P ops.toList st o nm (r,none))
  (hk:∀a' w',SimF E (st.put o.dst r) m a' w'→K a' w'):
  if Region.wanted o (yielded ops a.tmps)then o.wp P a w K Q∨(o.asks P a w∧LetsOut Q)else K (a.put o.dst Go.undef) w:=by
 have hs:SimF E {st with next:=st.next+1} m a w:={h with fresh:=fun n hn=>h.fresh n (by simp only at hn;omega)}
 refine OpA_exec hs (nm:=st.next) (re:=(r,none)) ?_ (h.fresh _ (Nat.le_refl _)) (by simp) ?_
 ·exact OpA_nm (OpA_mono (s:=st) h.grd hs.grd (fun _ _=>rfl) (fun _ _ h=>h) hop)
 ·intro m' a' w' hs' hm
  have e:m'=m:=funext fun n=>hm n (.inr rfl)
  subst e
  refine hk a' w' ?_
  have hf:∀n,(st.put o.dst r).next≤n→m' n=none:=by
   intro n hn
   rw[put_next]at hn
   exact h.fresh n hn
  cases hd:o.dst with
  |none=>
   rw[hd]at hs' hf
   exact{hs' with fresh:=hf}
  |some d=>
   rw[hd]at hs' hf
   exact{hs' with fresh:=hf}
theorem stM_raw {ops:List Oper} {A:List (List Nat)} {size nq:Nat} (hS:Shape ops A size nq) {res:List AV} (hres:res.length=nq) {OB:Nat→Snap} {al:Als} {i n n':Nat} {o:Oper} (hq:i<nq) (hoL:ops[i]? =some o) {is:List Nat}
  (hlt:∀j∈is,j<nq) (hA:∀j,j∈A.getD i []→j∈is) (hdown:∀j,j∈is→∀k∈A.getD j [],k∈is) (hi:i∉is):∀t∈tmpsOf ops o,(stM ops res st OB al is n).raw t=(stM ops res st OB al (A.getD i []) n').raw t:=by
 intro t ht
 have getres:∀j,j<nq→∃r ob,(rz res)[j]? =some (r,ob):=fun j hj=>⟨res[j]'(by omega),none,by rw[rz_get,List.getElem?_eq_getElem (by omega)];rfl⟩
 unfold St.raw stM
 simp only
 by_cases hex:∃(j:Nat) (o':Oper),ops[j]? =some o'∧o'.dst=some t
 ·obtain⟨j,o',ho',hd⟩:=hex
  rcases hS.tmps i o hq hoL t ht j o' ho' hd with hj|hij
  rotate_left
  ·have hno:∀(is:List Nat),j∉is→(∀k∈is,k<nq)→∀j' o'',j'∈is→ops[j']? =some o''→o''.dst≠some t:=by
    intro is hjs hlt' j' o'' hj' ho'' hd'
    have:=hS.dist j' o'' (hlt' j' hj') ho'' t hd' j o' ho' hd
    subst this
    exact hjs hj'
   have h1:j∉is:=fun hj=>hi (hdown j hj i hij)
   have h2:j∉A.getD i []:=by
    intro hj
    have h3:=(hS.anc i o hoL j hj).1
    have h4:=(hS.anc j o' ho' i hij).1
    omega
   rw[fr_out (hno _ h1 hlt),fr_out (hno _ h2 fun k hk=>by have:=(hS.anc i o hoL k hk).1;omega)]
  have hjlt:j<nq:=by have:=(hS.anc i o hoL j hj).1;omega
  obtain⟨r,ob,hr⟩:=getres j hjlt
  have hdd:=fun j' o'' h1 h2=>hS.dist j o' hjlt ho' t hd j' o'' h1 h2
  rw[fr_in' hdd (hA j hj) ho' hr hd,fr_in' hdd hj ho' hr hd]
 ·rw[fr_out (fun j o' _ ho' hd=>hex ⟨j,o',ho',hd⟩),fr_out (fun j o' _ ho' hd=>hex ⟨j,o',ho',hd⟩)]
def LayD (P:Program) (ev:Operand→AV) (o:Oper) (nm:Nat) (ob:AObj) (r:AV):Prop:=
 (r=.ptr nm 0∧∃t zs,o.op=.alloc t∧zcells P t=some zs∧zs.all Value.oneCell'=true∧ob=.box t (zs.map fun v=>.im (.sc v)))∨
 (r=.row nm∧∃t e x z q n,o.op=.buildSlice t 1 #[(0,x)]∧elt P t=some e∧tsz P e=some 1∧zcells P e=some [z]∧ev x=.im (.sc (.int q n))∧ob=.row e 1 [[.sc (.int q n)]])
theorem exec_one {o:Oper} {t e:TypeId} {x:Operand} {z:Value} {q:IntKind} {n:Int} {ρ:Operand→Value} (hop:o.op=.buildSlice t 1 #[(0,x)]) (he:elt P t=some e) (hk0:tsz P e=some 1) (hz:zcells P e=some [z]) (hx:ρ x=.int q n) (w:World):
  (execOp ρ o).run P w=.ok (.value (.slice (some ⟨w.heap.size,0,none⟩) 1 1)) (w.alloc (.cells #[.int q n] e)):=by
 obtain⟨i,z',hi,hzz,hzc⟩:=zcells_of hz
 have hsz:z'.cells.size=1:=by
  have:=congrArg List.length hzc
  simpa using this
 have hc1:(Value.int q n).cells=#[.int q n]:=rfl
 obtain⟨us,f1,f2,f3⟩:=fill_seq (k:=1) (len:=1) [(0,Value.int q n)] 0 ((Array.range (1*1)).map (z'.cells[· % z'.cells.size]!)) (by simp) (fun j p hj=>by
  cases j with
  |zero=>simp at hj;subst hj;exact⟨rfl,by rw[hc1];rfl⟩
  |succ j=>simp at hj) rfl
 have hus:us=#[.int q n]:=by
  have h0:=f3 0 (by omega)
  apply Array.ext_getElem?
  intro j
  cases j with
  |zero=>rw[h0];simp[hc1]
  |succ j=>rw[Array.getElem?_eq_none (by omega),Array.getElem?_eq_none (by simp)]
 subst hus
 simp only[execOp,hop,Instr.buildSlice,Sem.run_bind,run_underlying (elt_under he),Result.andThen_ok,run_tsz hk0,Sem.run_pure]
 simp[zeroValue,typeInfo,hi,hzz,hx,newRow]at f1⊢
 simp[f1]
theorem mix_inv {Q:Exit→Act→World→Prop} {ops:Array Oper} {A:List (List Nat)} {nq:Nat} {isE:Nat→Bool} {res:List AV} {OB:Nat→Snap} {al:Als} (hS:Shape ops.toList A st.size nq) (hres:res.length=nq)
  (hch:∀i j,i<j→j<nq→isE i=true→isE j=true→i∈A.getD j [])
  (hp:∀i o r,ops.toList[i]? =some o→res[i]? =some r→isE i=false→al i=none→∀n,ecnt isE nq (fun j=>(A.getD i []).contains j)≤n→n≤ecnt isE nq (fun j=>!(A.getD j []).contains i)→
   OpA P ops.toList ⟨frOf ops.toList (rz res) (A.getD i [])++st.fr,exs al (A.getD i []) n++(OB n).1,(OB n).2,st.size,none⟩ o 0 (r,none))
  (he:∀i o r,ops.toList[i]? =some o→res[i]? =some r→isE i=true→o.guard=none∧(∀j nm ob,j<nq→al j=some (nm,ob,ecnt isE nq (fun j=>decide (j<i)))→j∈A.getD i [])∧∃fr0,(∀s y,look fr0 s=some y→s∈tmpsOf ops.toList o∧y=(stM ops.toList res st OB al (A.getD i []) 0).raw s)∧
   cfOp P o (fun s=>s.objs=(OB (ecnt isE nq (fun j=>decide (j<i))+1)).1∧s.next=(OB (ecnt isE nq (fun j=>decide (j<i))+1)).2∧∀d,o.dst=some d→(look s.fr d).getD .undef=r)
    ⟨fr0,mgs al nq (ecnt isE nq (fun j=>decide (j<i)))++(OB (ecnt isE nq (fun j=>decide (j<i)))).1,(OB (ecnt isE nq (fun j=>decide (j<i)))).2,st.size,none⟩)
  (hal:∀i o nm ob mr,i<nq→ops.toList[i]? =some o→al i=some (nm,ob,mr)→isE i=false∧o.guard=none∧ecnt isE nq (fun j=>!(A.getD j []).contains i)≤mr∧
   ∃r,res[i]? =some r∧LayD P (fun x=>(stM ops.toList res st OB al (A.getD i []) 0).ev x) o nm ob r)
  (hinj:InjA al) (hm0:∀j nm ob mr,j<nq→al j=some (nm,ob,mr)→E.m0 nm=none) (hdisj:∀n j nm ob mr,n≤(ecnt isE nq fun _=>true)→j<nq→al j=some (nm,ob,mr)→n≤mr→look (OB n).1 nm=none)
  (heff:∀m a w,SimF E (stM ops.toList res st OB al (List.range nq) (ecnt isE nq fun _=>true)) m a w→wpList P ops Q (ops.toList.drop nq) a w):
  ∀(fuel:Nat) (listed:Array Bool) (m:Nm) (a:Act) (w:World),listed.size=ops.size→((List.range ops.size).filter fun j=>!listed.getD j false).length≤fuel→
   (∀i,listed.getD i false=true→∀j∈A.getD i [],listed.getD j false=true)→(∀j,nq≤j→listed.getD j false=false)→
   SimF E (stM ops.toList res st OB al (idx nq listed) (ecnt isE nq fun j=>listed.getD j false)) m a w→(∀j nm ob mr,j<nq→al j=some (nm,ob,mr)→listed.getD j false=false→m nm=some .hole)→wpAny P .any ops Q fuel listed a w:=by
 have hle:nq≤ops.size:=by simpa using hS.le
 have full:∀(listed:Array Bool),(∀j,j<nq→listed.getD j false=true)→idx nq listed=List.range nq:=by
  intro listed h
  unfold idx
  rw[List.filter_eq_self]
  intro j hj
  exact h j (by simpa using hj)
 have toSuffix:∀(fuel:Nat) (listed:Array Bool) (m:Nm) (a:Act) (w:World),listed.size=ops.size→((List.range ops.size).filter fun j=>!listed.getD j false).length≤fuel→(∀j,nq≤j→listed.getD j false=false)→
   SimF E (stM ops.toList res st OB al (idx nq listed) (ecnt isE nq fun j=>listed.getD j false)) m a w→(∀j,j<nq→listed.getD j false=true)→wpAny P .any ops Q fuel listed a w:=by
  intro fuel listed m a w hl hcnt hnq hs hf
  rw[full listed hf,ecnt_congr (S':=fun _=>true) (fun j hj _=>hf j hj)]at hs
  refine suffix_inv hS fuel nq listed a w (Nat.le_refl _) hle hl ?_ hf hnq (heff m a w hs)
  have hsub:(List.range ops.size).filter (fun j=>!listed.getD j false)=(List.range ops.size).filter (fun j=>decide (nq≤j)):=by
   apply List.filter_congr
   intro j hj
   rcases Nat.lt_or_ge j nq with h1|h1
   ·rw[hf j h1];simp;omega
   ·rw[hnq j h1];simp;omega
  have hlen:∀n,((List.range n).filter (fun j=>decide (nq≤j))).length=n-nq:=by
   intro n
   induction n with
   |zero=>simp
   |succ n ih=>
    rw[List.range_succ,List.filter_append,List.length_append,ih]
    by_cases h:nq≤n
    ·simp[h];omega
    ·simp[h];omega
  rw[hsub,hlen]at hcnt
  exact hcnt
 intro fuel
 induction fuel with
 |zero=>
  intro listed m a w hl hcnt hdown hnq hs hho
  refine toSuffix 0 listed m a w hl hcnt hnq hs ?_
  intro j hj
  cases hlj:listed.getD j false with
  |true=>rfl
  |false=>
   have hnil:=List.eq_nil_of_length_eq_zero (Nat.le_zero.1 hcnt)
   have:j∈((List.range ops.size).filter fun j=>!listed.getD j false):=by
    rw[List.mem_filter,List.mem_range]
    exact⟨by omega,by rw[hlj];rfl⟩
   rw[hnil]at this;cases this
 |succ fuel ih=>
  intro listed m a w hl hcnt hdown hnq hs hho
  by_cases hfull:∀j,j<nq→listed.getD j false=true
  ·exact toSuffix _ listed m a w hl hcnt hnq hs hfull
  refine⟨?_,?_⟩
  ·intro hr
   exfalso
   rcases readySome hl hS.back nq hle with h|⟨i,_,hi⟩
   ·exact hfull h
   ·rw[hr]at hi;cases hi
  intro i hi
  obtain⟨h1,o,ho,hed⟩:=mem_ready.1 hi
  have hlt:i<ops.size:=(Array.getElem?_eq_some_iff.1 ho).1
  have hoL:ops.toList[i]? =some o:=by simpa using ho
  have hil:listed.getD i false=false:=by
   have h2:i<listed.size:=by omega
   simpa [Array.getD_eq_getD_getElem?,h2]using h1
  have hedge:∀j∈after1 o,listed.getD j false=true:=by
   intro j hj
   unfold after1 at hj
   rw[List.mem_map]at hj
   obtain⟨e,he,rfl⟩:=hj
   rw[List.mem_filter]at he
   exact hed e (by simpa using he.1) he.2
  have hAi:∀j∈A.getD i [],listed.getD j false=true:=by
   intro j hj
   rcases(hS.anc i o hoL j hj).2 with h|⟨k,hk,h⟩
   ·exact hedge j h
   ·exact hdown k (hedge k hk) j h
  have hq:i<nq:=by
   rcases Nat.lt_or_ge i nq with h|h
   ·exact h
   ·exact absurd (fun j hj=>hAi j (hS.nq i h (by simpa using hlt) j (by omega))) hfull
  unfold wpOp
  rw[ho]
  simp only
  obtain⟨r,hr⟩:∃r,res[i]? =some r:=⟨res[i]'(by omega),List.getElem?_eq_getElem (by omega)⟩
  have hA:∀j,j∈A.getD i []→j∈idx nq listed:=fun j hj=>mem_idx.2 ⟨by have:=(hS.anc i o hoL j hj).1;omega,hAi j hj⟩
  have hraw:∀(n n':Nat),∀t∈tmpsOf ops.toList o,(stM ops.toList res st OB al (idx nq listed) n).raw t=(stM ops.toList res st OB al (A.getD i []) n').raw t:=fun n n'=>
   stM_raw hS hres hq hoL (fun j hj=>(mem_idx.1 hj).1) hA (fun j hj k hk=>mem_idx.2 ⟨by
    have hjq:=(mem_idx.1 hj).1
    have hjo:ops.toList[j]? =some (ops[j]'(by omega)):=by simp[Array.getElem?_toList,show j<ops.size by omega]
    have:=(hS.anc j _ hjo k hk).1
    omega,hdown j (mem_idx.1 hj).2 k hk⟩) (fun hi=>by have:=(mem_idx.1 hi).2;rw[hil]at this;cases this)
  have hset:∀j,(listed.setIfInBounds i true).getD j false=true↔j=i∨listed.getD j false=true:=fun j=>getD_set_iff (by omega)
  have hidx:∀j,j∈idx nq (listed.setIfInBounds i true)↔j=i∨j∈idx nq listed:=by
   intro j
   rw[mem_idx,mem_idx,hset]
   constructor
   ·rintro⟨h1,h2⟩;exact h2.imp id fun h=>⟨h1,h⟩
   ·rintro(rfl|⟨h1,h2⟩)
    ·exact⟨hq,.inl rfl⟩
    ·exact⟨h1,.inr h2⟩
  have hdec:((List.range ops.size).filter fun j=>!(listed.setIfInBounds i true).getD j false).length<((List.range ops.size).filter fun j=>!listed.getD j false).length:=by
   have e:((List.range ops.size).filter fun j=>!(listed.setIfInBounds i true).getD j false)=(((List.range ops.size).filter fun j=>!listed.getD j false)).filter fun j=>j≠i:=by
    rw[List.filter_filter]
    apply List.filter_congr
    intro j _
    have:=hset j
    by_cases e:j=i
    ·subst e;simp[this.2 (.inl rfl)]
    ·cases hlj:listed.getD j false with
     |true=>rw[this.2 (.inr hlj)];simp
     |false=>
      have h3:(listed.setIfInBounds i true).getD j false=false:=by
       cases h4:(listed.setIfInBounds i true).getD j false with
       |false=>rfl
       |true=>rcases this.1 h4 with h5|h5;exact absurd h5 e;rw[hlj]at h5;cases h5
      rw[h3];simp[e]
   rw[e]
   apply List.length_filter_lt_length_iff_exists.2
   exact⟨i,by rw[List.mem_filter,List.mem_range];exact⟨hlt,by rw[hil];rfl⟩,by simp⟩
  have hdown':∀k,(listed.setIfInBounds i true).getD k false=true→∀j∈A.getD k [],(listed.setIfInBounds i true).getD j false=true:=by
   intro k hk j hj
   rw[hset]at hk⊢
   rcases hk with rfl|hk
   ·exact .inr (hAi j hj)
   ·exact .inr (hdown k hk j hj)
  have hnq':∀j,nq≤j→(listed.setIfInBounds i true).getD j false=false:=by
   intro j hj
   rw[getD_set_ne _ (by omega)]
   exact hnq j hj
  have hfr:∀(s:Nat),look (frOf ops.toList (rz res) (idx nq (listed.setIfInBounds i true))++st.fr) s=look (match o.dst with|some d=>(d,r)::(frOf ops.toList (rz res) (idx nq listed)++st.fr)|none=>frOf ops.toList (rz res) (idx nq listed)++st.fr) s:=by
   intro s
   have hre:(rz res)[i]? =some (r,none):=by rw[rz_get,hr];rfl
   have getres:∀j,j<nq→∃r ob,(rz res)[j]? =some (r,ob):=fun j hj=>⟨res[j]'(by omega),none,by rw[rz_get,List.getElem?_eq_getElem (by omega)];rfl⟩
   have hother:o.dst≠some s→look (frOf ops.toList (rz res) (idx nq (listed.setIfInBounds i true))++st.fr) s=look (frOf ops.toList (rz res) (idx nq listed)++st.fr) s:=by
    intro hne
    by_cases hex:∃(j:Nat) (o':Oper),j∈idx nq listed∧ops.toList[j]? =some o'∧o'.dst=some s
    ·obtain⟨j,o',hj,ho',hd⟩:=hex
     have hjlt:=(mem_idx.1 hj).1
     obtain⟨r',ob',hr⟩:=getres j hjlt
     have hdd:=fun j' o'' h1 h2=>hS.dist j o' hjlt ho' s hd j' o'' h1 h2
     rw[fr_in' hdd ((hidx j).2 (.inr hj)) ho' hr hd,fr_in' hdd hj ho' hr hd]
    ·rw[fr_out,fr_out]
     ·exact fun j o' hj ho' hd=>hex ⟨j,o',hj,ho',hd⟩
     ·intro j o' hj ho' hd
      rcases(hidx j).1 hj with rfl|hj
      ·rw[hoL]at ho';cases ho';exact hne hd
      ·exact hex ⟨j,o',hj,ho',hd⟩
   cases hd:o.dst with
   |none=>exact hother (by rw[hd];simp)
   |some d=>
    by_cases e:d=s
    ·subst e
     simp only[look,if_true]
     exact fr_in' (fun j' o' h1 h2=>hS.dist i o hq hoL d hd j' o' h1 h2) ((hidx i).2 (.inl rfl)) hoL hre hd
    ·simp only[look,if_neg e]
     exact hother (by rw[hd];simpa using e)
  have hnM:(ecnt isE nq fun j=>listed.getD j false)≤ecnt isE nq fun _=>true:=ecnt_mono fun _ _ _ _=>rfl
  have hhi:(ecnt isE nq fun j=>listed.getD j false)≤ecnt isE nq (fun j=>!(A.getD j []).contains i):=by
   refine ecnt_mono fun j _ _ hj=>?_
   simp only[Bool.not_eq_true',List.contains_eq_mem,decide_eq_false_iff_not]
   intro hc
   have:=hdown j hj i hc
   rw[hil]at this;cases this
  have hexN:al i=none→∀n k,look (exs al (idx nq (listed.setIfInBounds i true)) n) k=look (exs al (idx nq listed) n) k:=by
   intro hali n k
   refine look_ext fun ob=>?_
   rw[look_exs hinj,look_exs hinj]
   constructor
   ·rintro⟨j,mr,hj,k1,k2⟩
    rcases(hidx j).1 hj with hji|hj
    ·rw[hji,hali]at k1;cases k1
    ·exact⟨j,mr,hj,k1,k2⟩
   ·rintro⟨j,mr,hj,h1,h2⟩
    exact⟨j,mr,(hidx j).2 (.inr hj),h1,h2⟩
  have hdis:∀n,n≤(ecnt isE nq fun _=>true)→∀k x,look (exs al (idx nq listed) n) k=some x→look (OB n).1 k=none:=by
   intro n hn k x hk
   obtain⟨j,mr,hj,h1,h2⟩:=(look_exs hinj).1 hk
   exact hdisj n j k x mr hn (mem_idx.1 hj).1 h1 h2
  have hho':al i=none→∀(m':Nm),(∀n l,m n=some l→m' n=some l)→∀j nm ob mr,j<nq→al j=some (nm,ob,mr)→(listed.setIfInBounds i true).getD j false=false→m' nm=some .hole:=by
   intro hali m' hm j nm ob mr hj h1 h2
   have hji:j≠i:=fun e=>by rw[e,hali]at h1;cases h1
   rw[getD_set_ne _ (fun e=>hji e.symm)]at h2
   exact hm _ _ (hho j nm ob mr hj h1 h2)
  cases hali:al i with
  |some x=>
   obtain⟨nm,ob,mr⟩:=x
   obtain⟨hE,hg,hmr,r',hres',hlay⟩:=hal i o nm ob mr hq hoL hali
   rw[hr]at hres'
   cases hres'
   have hwant:Region.wanted o (yielded ops a.tmps)=true:=by simp[Region.wanted,hg]
   rw[if_pos hwant]
   have hcntI:ecnt isE nq (fun j=>(listed.setIfInBounds i true).getD j false)=ecnt isE nq fun j=>listed.getD j false:=by
    refine ecnt_congr fun j hj hje=>?_
    have hji:j≠i:=by rintro rfl;rw[hE]at hje;cases hje
    exact getD_set_ne _ (fun e=>hji e.symm)
   have hmn:=hho i nm _ mr hq hali hil
   have hnone:look (exs al (idx nq listed) (ecnt isE nq fun j=>listed.getD j false)++(OB (ecnt isE nq fun j=>listed.getD j false)).1) nm=none:=by
    rw[look_app]
    cases hx:look (exs al (idx nq listed) (ecnt isE nq fun j=>listed.getD j false)) nm with
    |some y=>
     obtain⟨j,mr',hj,h1,h2⟩:=(look_exs hinj).1 hx
     have:=hinj j i nm _ _ _ _ h1 hali
     subst this
     have:=(mem_idx.1 hj).2
     rw[hil]at this;cases this
    |none=>exact hdisj _ i nm _ mr hnM hq hali (Nat.le_trans hhi hmr)
   have hlt':nm<(OB (ecnt isE nq fun j=>listed.getD j false)).2:=by
    apply Classical.byContradiction
    intro hc
    have:=hs.fresh nm (by simp only[stM];omega)
    rw[hmn]at this;cases this
   have cont:∀(lh:Loc) (v:Value) (w2:World),SimF E ((⟨frOf ops.toList (rz res) (idx nq listed)++st.fr,(nm,ob)::(exs al (idx nq listed) (ecnt isE nq fun j=>listed.getD j false)++(OB (ecnt isE nq fun j=>listed.getD j false)).1),(OB (ecnt isE nq fun j=>listed.getD j false)).2,st.size,none⟩:St).put o.dst r) (fun n=>if n=nm then some lh else m n) (a.put o.dst v) w2→wpAny P .any ops Q fuel (listed.setIfInBounds i true) (a.put o.dst v) w2:=by
    intro lh v w2 hs2
    refine ih _ (fun n=>if n=nm then some lh else m n) _ _ (by simpa using hl) (by omega) hdown' hnq' ?_ ?_
    ·rw[hcntI]
     refine hs2.same ?_ ?_ ?_ ?_ rfl
     ·intro s
      refine(hfr s).trans ?_
      cases hd:o.dst with
      |none=>rfl
      |some d=>
       have hlt:=hS.size i o d hq hoL hd
       simp[stM,St.put,look,hlt]
     ·intro k
      unfold St.obj
      rw[put_objs]
      show look (exs al _ _++_) k=(if nm=k then some _ else look (exs al _ _++_) k)
      rw[look_app,look_app]
      by_cases e:nm=k
      ·subst e
       rw[if_pos rfl,(look_exs hinj).2 ⟨i,mr,(hidx i).2 (.inl rfl),hali,Nat.le_trans hhi hmr⟩]
      ·rw[if_neg e]
       have:look (exs al (idx nq (listed.setIfInBounds i true)) (ecnt isE nq fun j=>listed.getD j false)) k=look (exs al (idx nq listed) (ecnt isE nq fun j=>listed.getD j false)) k:=by
        refine look_ext fun ob=>?_
        rw[look_exs hinj,look_exs hinj]
        constructor
        ·rintro⟨j,mr',hj,k1,k2⟩
         rcases(hidx j).1 hj with hji|hj
         ·rw[hji,hali]at k1;cases k1;exact absurd rfl e
         ·exact⟨j,mr',hj,k1,k2⟩
        ·rintro⟨j,mr',hj,h1,h2⟩
         exact⟨j,mr',(hidx j).2 (.inr hj),h1,h2⟩
       rw[this]
     ·rw[put_next];exact Nat.le_refl _
     ·rw[put_size];rfl
    ·intro j nm' ob' mr' hj h1 h2
     have hji:j≠i:=by rintro rfl;rw[(hset j).2 (.inl rfl)]at h2;cases h2
     rw[getD_set_ne _ (fun e=>hji e.symm)]at h2
     have hne:nm'≠nm:=by
      rintro rfl
      exact hji (hinj j i _ _ _ _ _ h1 hali)
     simp[hne]
     exact hho j nm' ob' mr' hj h1 h2
   rcases hlay with⟨rfl,t,zs,hop,hz,hone,rfl⟩|⟨rfl,t,e,x,z,q,n,hop,he',hk0,hz,hev,rfl⟩
   ·simp only[zcells,Option.map_eq_some_iff,Option.bind_eq_some_iff]at hz
    obtain⟨z,⟨ti,hti,hz⟩,rfl⟩:=hz
    have hs2:=hs.allocH hmn hlt' (hm0 i nm _ mr hq hali) hnone t (cs:=z.cells.toList.map fun v=>.im (.sc v)) (arr:=z.cells) (by simp) (fun u hu=>List.all_eq_true.1 hone u (by simpa using hu)) (fun j y u h1 h2=>by
     simp at h1
     obtain⟨x,hx,rfl⟩:=h1
     rw[hx]at h2;cases h2
     exact .im .sc) o.dst
    refine .inl (wp_of_value (v:=.pointer (some ⟨w.heap.size,0,none⟩)) (w':=w.alloc (.cells z.cells t)) ?_ (cont _ _ _ hs2))
    simp[execOp,hop,Instr.alloc,zeroValue,typeInfo,hti,hz,newVar,newRow]
   ·have hs2:=hs.rowH hmn hlt' (hm0 i nm _ mr hq hali) hnone e (.int q n) rfl o.dst
    have hxe:a.eval x=.int q n:=by
     have h1:=ev_rep hs.get x
     have h2:(stM ops.toList res st OB al (idx nq listed) (ecnt isE nq fun j=>listed.getD j false)).ev x=(stM ops.toList res st OB al (A.getD i []) 0).ev x:=by
      cases x with
      |tmp t'=>exact hraw _ 0 t' (by unfold tmpsOf;rw[hop];simp[Op.operands])
      |const v=>rfl
      |global g=>rfl
      |func f=>rfl
     have hev:(stM ops.toList res st OB al (A.getD i []) 0).ev x=.im (.sc (.int q n)):=hev
     rw[h2,hev]at h1
     exact h1.sc_inv
    exact .inl (wp_of_value (exec_one hop he' hk0 hz hxe w) (cont _ _ _ hs2))
  |none=>
  cases hE:isE i with
  |false=>
   have hcntI:ecnt isE nq (fun j=>(listed.setIfInBounds i true).getD j false)=ecnt isE nq fun j=>listed.getD j false:=by
    refine ecnt_congr fun j hj hje=>?_
    have hji:j≠i:=by rintro rfl;rw[hE]at hje;cases hje
    exact getD_set_ne _ (fun e=>hji e.symm)
   refine pure_exec hs (nm:=0) (r:=r) ?_ ?_
   ·refine OpA_mono (s:=⟨frOf ops.toList (rz res) (A.getD i [])++st.fr,exs al (A.getD i []) (ecnt isE nq fun j=>listed.getD j false)++(OB (ecnt isE nq fun j=>listed.getD j false)).1,(OB (ecnt isE nq fun j=>listed.getD j false)).2,st.size,none⟩) rfl rfl (fun t ht=>hraw _ 0 t ht) (fun k x hk=>?_) (hp i o r hoL hr hE hali _ ?_ hhi)
    ·show look (exs al _ _++_) k=some x
     have hk:look (exs al (A.getD i []) (ecnt isE nq fun j=>listed.getD j false)++(OB (ecnt isE nq fun j=>listed.getD j false)).1) k=some x:=hk
     rw[look_app]at hk⊢
     cases hy:look (exs al (A.getD i []) (ecnt isE nq fun j=>listed.getD j false)) k with
     |some y=>
      rw[hy]at hk
      cases hk
      obtain⟨j,mr,hj,h1,h2⟩:=(look_exs hinj).1 hy
      rw[(look_exs hinj).2 ⟨j,mr,hA j hj,h1,h2⟩]
     |none=>
     rw[hy]at hk
     cases hx:look (exs al (idx nq listed) (ecnt isE nq fun j=>listed.getD j false)) k with
     |none=>exact hk
     |some y=>
      have:=hdis _ hnM k y hx
      have hk:look (OB (ecnt isE nq fun j=>listed.getD j false)).1 k=some x:=hk
      rw[this]at hk;cases hk
    ·exact ecnt_mono fun j _ _ hj=>hAi j (by simpa using hj)
   ·intro a' w' hs'
    refine ih _ m a' w' (by simpa using hl) (by omega) hdown' hnq' ?_ (hho' hali m fun _ _ h=>h)
    rw[hcntI]
    refine hs'.same ?_ (fun n=>?_) (by rw[put_next];exact Nat.le_refl _) (by rw[put_size];rfl) rfl
    ·intro s
     have:=hfr s
     refine this.trans ?_
     cases hd:o.dst with
     |none=>rfl
     |some d=>
      have hlt:=hS.size i o d hq hoL hd
      simp[stM,St.put,look,hlt]
    ·unfold St.obj
     rw[put_objs]
     show look (exs al _ _++_) n=look (exs al _ _++_) n
     rw[look_app,look_app,hexN hali]
  |true=>
   obtain⟨hg,hmA,fr0,hfr0,hc⟩:=he i o r hoL hr hE
   have hcI:(ecnt isE nq fun j=>listed.getD j false)=ecnt isE nq fun j=>decide (j<i):=by
    refine ecnt_congr fun j hj hje=>?_
    rcases Nat.lt_trichotomy j i with h|h|h
    ·rw[hAi j (hch j i h hq hje hE)];simp[h]
    ·subst h;rw[hil];simp
    ·cases hlj:listed.getD j false with
     |false=>simp;omega
     |true=>
      have:=hdown j hlj i (hch i j h hj hE hje)
      rw[hil]at this;cases this
   have hcN:(ecnt isE nq fun j=>(listed.setIfInBounds i true).getD j false)=ecnt isE nq (fun j=>decide (j<i))+1:=by
    rw[←hcI]
    exact ecnt_add hE hil hset nq hq
   have hN1:ecnt isE nq (fun j=>decide (j<i))+1≤ecnt isE nq fun _=>true:=by rw[←hcN];exact ecnt_mono fun _ _ _ _=>rfl
   rw[hcI]at hs
   generalize ecnt isE nq (fun j=>decide (j<i))=n at*
   have hwant:Region.wanted o (yielded ops a.tmps)=true:=by simp[Region.wanted,hg]
   rw[if_pos hwant]
   have hlk:∀k,look (exs al (idx nq listed) (n+1)++(mgs al nq n++(OB n).1)) k=look (exs al (idx nq listed) n++(OB n).1) k:=by
    intro k
    rw[look_app,look_app (mgs al nq n),look_app (exs al (idx nq listed) n)]
    cases h1:look (exs al (idx nq listed) (n+1)) k with
    |some x=>
     obtain⟨j,mr,hj,g1,g2⟩:=(look_exs hinj).1 h1
     rw[(look_exs hinj).2 ⟨j,mr,hj,g1,by omega⟩]
    |none=>
     cases h2:look (mgs al nq n) k with
     |some x=>
      obtain⟨j,hj,g1⟩:=(look_mgs hinj).1 h2
      rw[(look_exs hinj).2 ⟨j,n,hA j (hmA j k x hj g1),g1,Nat.le_refl _⟩]
     |none=>
      cases h3:look (exs al (idx nq listed) n) k with
      |none=>rfl
      |some x=>
       exfalso
       obtain⟨j,mr,hj,g1,g2⟩:=(look_exs hinj).1 h3
       rcases Nat.lt_or_ge n mr with g3|g3
       ·rw[(look_exs hinj).2 ⟨j,mr,hj,g1,g3⟩]at h1;cases h1
       ·have:mr=n:=by omega
        subst this
        rw[(look_mgs hinj).2 ⟨j,(mem_idx.1 hj).1,g1⟩]at h2;cases h2
   have hs2:SimF E ⟨frOf ops.toList (rz res) (idx nq listed)++st.fr,exs al (idx nq listed) (n+1)++(mgs al nq n++(OB n).1),(OB n).2,st.size,none⟩ m a w:=
    hs.same (fun _=>rfl) (fun k=>hlk k) (Nat.le_refl _) rfl rfl
   refine .inl (SimF.framed hs2 ?_ (fr0:=fr0) ?_ hc ?_ ?_)
   ·intro k x hk
    obtain⟨j,mr,hj,g1,g2⟩:=(look_exs hinj).1 hk
    rw[look_app]
    cases h2:look (mgs al nq n) k with
    |some y=>
     obtain⟨j',hj',g3⟩:=(look_mgs hinj).1 h2
     have:=hinj j j' _ _ _ _ _ g1 g3
     subst this
     rw[g1]at g3
     cases g3
     omega
    |none=>exact hdisj n j k x mr (by omega) (mem_idx.1 hj).1 g1 (by omega)
   ·intro s y hy
    obtain⟨h3,rfl⟩:=hfr0 s y hy
    rw[←hraw n 0 s h3]
    exact raw_rep (st:=⟨frOf ops.toList (rz res) (idx nq listed)++st.fr,exs al (idx nq listed) (n+1)++(mgs al nq n++(OB n).1),(OB n).2,st.size,none⟩) hs2.fr s
   ·rintro st1 ⟨h3,h4,h5⟩ k x hk
    rw[h3]
    exact hdis (n+1) hN1 k x hk
   ·rintro st1 m' a' w' ⟨h3,h4,h5⟩ hs' hm
    refine ih _ m' a' w' (by simpa using hl) (by omega) hdown' hnq' ?_ (hho' hali m' hm)
    rw[hcN]
    refine hs'.same ?_ (fun k=>?_) (by simp only[stM];rw[h4];exact Nat.le_refl _) rfl rfl
    ·intro s
     refine(hfr s).trans ?_
     cases hd:o.dst with
     |none=>rfl
     |some d=>simp only[frAfter,h5 d hd]
    ·show look (exs al _ _++_) k=look (exs al _ _++_) k
     rw[look_app,look_app,hexN hali,h3]
theorem region_mix {Q:Exit→Act→World→Prop} {ops:Array Oper} {A:List (List Nat)} {nq:Nat} {isE:Nat→Bool} {res:List AV} {OB:Nat→Snap} {al:Als} (hS:Shape ops.toList A st.size nq) (hres:res.length=nq)
  (hch:∀i j,i<j→j<nq→isE i=true→isE j=true→i∈A.getD j []) (h01:(OB 0).1=st.objs) (h02:st.next≤(OB 0).2) (hnms:∀j nm ob mr,j<nq→al j=some (nm,ob,mr)→st.next≤nm∧nm<(OB 0).2)
  (hp:∀i o r,ops.toList[i]? =some o→res[i]? =some r→isE i=false→al i=none→∀n,ecnt isE nq (fun j=>(A.getD i []).contains j)≤n→n≤ecnt isE nq (fun j=>!(A.getD j []).contains i)→
   OpA P ops.toList ⟨frOf ops.toList (rz res) (A.getD i [])++st.fr,exs al (A.getD i []) n++(OB n).1,(OB n).2,st.size,none⟩ o 0 (r,none))
  (he:∀i o r,ops.toList[i]? =some o→res[i]? =some r→isE i=true→o.guard=none∧(∀j nm ob,j<nq→al j=some (nm,ob,ecnt isE nq (fun j=>decide (j<i)))→j∈A.getD i [])∧∃fr0,(∀s y,look fr0 s=some y→s∈tmpsOf ops.toList o∧y=(stM ops.toList res st OB al (A.getD i []) 0).raw s)∧
   cfOp P o (fun s=>s.objs=(OB (ecnt isE nq (fun j=>decide (j<i))+1)).1∧s.next=(OB (ecnt isE nq (fun j=>decide (j<i))+1)).2∧∀d,o.dst=some d→(look s.fr d).getD .undef=r)
    ⟨fr0,mgs al nq (ecnt isE nq (fun j=>decide (j<i)))++(OB (ecnt isE nq (fun j=>decide (j<i)))).1,(OB (ecnt isE nq (fun j=>decide (j<i)))).2,st.size,none⟩)
  (hal:∀i o nm ob mr,i<nq→ops.toList[i]? =some o→al i=some (nm,ob,mr)→isE i=false∧o.guard=none∧ecnt isE nq (fun j=>!(A.getD j []).contains i)≤mr∧
   ∃r,res[i]? =some r∧LayD P (fun x=>(stM ops.toList res st OB al (A.getD i []) 0).ev x) o nm ob r)
  (hinj:InjA al) (hdisj:∀n j nm ob mr,n≤(ecnt isE nq fun _=>true)→j<nq→al j=some (nm,ob,mr)→n≤mr→look (OB n).1 nm=none)
  (h:SimF E st m a w)
  (heff:∀m a w,SimF E (stM ops.toList res st OB al (List.range nq) (ecnt isE nq fun _=>true)) m a w→wpList P ops Q (ops.toList.drop nq) a w):
  wpAny P .any ops Q ops.size (Array.replicate ops.size false) a {w with drawn:=w.drawn+1}:=by
 have hno:∀j,(Array.replicate ops.size false).getD j false=false:=by
  intro j
  simp[Array.getD_eq_getD_getElem?,Array.getElem?_replicate]
  split<;>rfl
 have hm0:∀j nm ob mr,j<nq→al j=some (nm,ob,mr)→E.m0 nm=none:=by
  intro j nm ob mr hj h1
  cases hx:E.m0 nm with
  |none=>rfl
  |some l=>
   have:=h.mext nm l hx
   rw[h.fresh nm (hnms j nm ob mr hj h1).1]at this
   cases this
 let L:Nat→Bool:=fun n=>(List.range nq).any fun j=>match al j with
  |some (nm,_,_)=>nm==n
  |none=>false
 have hL:∀n,L n=true↔∃j ob mr,j<nq∧al j=some (n,ob,mr):=by
  intro n
  simp only[L,List.any_eq_true,List.mem_range]
  constructor
  ·rintro⟨j,hj,h1⟩
   split at h1
   ·rename_i nm ob mr ha
    have:nm=n:=by simpa using h1
    subst this
    exact⟨j,ob,mr,hj,ha⟩
   ·cases h1
  ·rintro⟨j,ob,mr,hj,ha⟩
   exact⟨j,hj,by rw[ha];simp⟩
 have hh:=h.tick.holes L (nx:=(OB 0).2) (fun n hn=>by
  obtain⟨j,ob,mr,hj,ha⟩:=(hL n).1 hn
  exact hnms j n ob mr hj ha) h02
 refine mix_inv hS hres hch hp he hal hinj hm0 hdisj heff ops.size _ (fun n=>if L n=true then some .hole else m n) a _ (by simp) ?_ ?_ (fun j _=>hno j) ?_ ?_
 ·exact Nat.le_trans (List.length_filter_le _ _) (by simp)
 ·intro i hi;rw[hno]at hi;cases hi
 ·have e:idx nq (Array.replicate ops.size false)=[]:=by
   unfold idx
   rw[List.filter_eq_nil_iff]
   intro j _
   rw[hno];simp
  have e2:ecnt isE nq (fun j=>(Array.replicate ops.size false).getD j false)=0:=by
   unfold ecnt
   rw[List.countP_eq_zero]
   intro j _
   simp only[hno];simp
  rw[e,e2]
  refine hh.same (fun _=>rfl) (fun n=>?_) ?_ rfl rfl
  ·unfold St.obj stM;rw[h01];rfl
  ·simp only[stM];exact Nat.le_refl _
 ·intro j nm ob mr hj h1 _
  have:L nm=true:=(hL nm).2 ⟨j,ob,mr,hj,h1⟩
  simp[this]
end Go.Am
namespace Go.Am
open Go.RowKit
variable {P:Program} {E:Env} {st:St} {m:Nm} {w:World} {a:Act}
inductive RC where
 |p (ns js:List Nat)
 |e (us:List Tmp)
 |a (j mr:Nat)
def RC.isE:RC→Bool
 |.p _ _=>false
 |.e _=>true
 |.a _ _=>false
def RC.isA:RC→Bool
 |.a _ _=>true
 |_=>false
abbrev Held:=List (Nat×Nat×AObj)
def mgH (n:Nat):Held→List (Nat×AObj)
 |[]=>[]
 |(mr,nm,ob)::h=>if mr=n then(nm,ob)::mgH n h else mgH n h
def endH (n:Nat):Held→List (Nat×AObj)
 |[]=>[]
 |(mr,nm,ob)::h=>if n≤mr then(nm,ob)::endH n h else endH n h
def disN (nm mr:Nat):List Snap→Nat→Prop
 |[],_=>True
 |X::L,n=>(n≤mr→look X.1 nm=none)∧disN nm mr L (n+1)
def disH (L:List Snap):Held→Prop
 |[]=>True
 |(mr,nm,_)::h=>disN nm mr L 0∧disH L h
def nE (cs:List RC):Nat:=cs.countP RC.isE
def isEc (cs:List RC) (i:Nat):Bool:=((cs[i]?).map RC.isE).getD false
def restr (fr:List (Nat×AV)):List Tmp→List (Nat×AV)
 |[]=>[]
 |t::us=>(t,(look fr t).getD .undef)::restr fr us
theorem look_restr {fr:List (Nat×AV)}:∀{us:List Tmp} {s:Nat} {y:AV},look (restr fr us) s=some y→s∈us∧y=(look fr s).getD .undef
 |[],s,y,h=>by simp[restr,look]at h
 |t::us,s,y,h=>by
  simp only[restr,look]at h
  split at h
  ·rename_i e;subst e;cases h;exact⟨List.mem_cons_self,rfl⟩
  ·obtain⟨h1,h2⟩:=look_restr h
   exact⟨List.mem_cons_of_mem _ h1,h2⟩
def dstV (d:Option Tmp) (fr:List (Nat×AV)):AV:=
 match d with
 |none=>.undef
 |some d=>(look fr d).getD .undef
def selH (base:Nat) (js:List Nat) (h:Held):Held:=h.filter fun x=>js.any fun j=>base+j==x.2.1
def heldIn (base:Nat) (js:List Nat) (n:Nat) (h:Held) (st:St):St:=
 match js with
 |[]=>st
 |j::js=>⟨st.fr,endH n (selH base (j::js) h)++st.objs,st.next,st.size,st.grd⟩
def heldOut (js:List Nat) (st s':St):St:=
 match js with
 |[]=>s'
 |_::_=>⟨s'.fr,st.objs,s'.next,s'.size,s'.grd⟩
theorem selH_nil (base:Nat) (h:Held):selH base [] h=[]:=by
 unfold selH
 rw[List.filter_eq_nil_iff]
 intro x _
 simp
theorem heldIn_eq (base:Nat) (js:List Nat) (n:Nat) (h:Held) (st:St):heldIn base js n h st=⟨st.fr,endH n (selH base js h)++st.objs,st.next,st.size,st.grd⟩:=by
 cases js with
 |nil=>rw[selH_nil];rfl
 |cons j js=>rfl
theorem heldOut_put (base:Nat) (js:List Nat) (n:Nat) (h:Held) (st:St) (d:Option Tmp) (r:AV):heldOut js st ((heldIn base js n h st).put d r)=st.put d r:=by
 cases js with
 |nil=>rfl
 |cons j js=>cases d<;>rfl
def selP (base:Nat) (js:List Nat) (h:Held):Held:=
 match js with
 |[]=>[]
 |j::js=>selH base (j::js) h
theorem selP_eq (base:Nat) (js:List Nat) (h:Held):selP base js h=selH base js h:=by
 cases js with
 |nil=>rw[selH_nil];rfl
 |cons j js=>rfl
abbrev Pend:=Op×Option Bool×List (Nat×AV)×Snap×Held×List Nat
def grdOf (ops:List Oper) (o:Oper) (st:St):Option Bool:=
 match o.guard with
 |none=>none
 |some (j,want)=>match (ops[j]?).bind (·.dst)with
  |none=>none
  |some g=>guardOf (st.raw g) want
def chkG (P:Program) (sz:Nat) (op:Op) (fr:List (Nat×AV)) (X0 X:Snap):Option Bool→Prop
 |none=>True
 |some c=>aVal P ⟨fr,X.1,X.2,sz,some c⟩ op=aVal P ⟨fr,X0.1,X0.2,sz,some c⟩ op
def chkN (P:Program) (sz:Nat) (op:Op) (g:Option Bool) (fr:List (Nat×AV)) (X0:Snap) (se:Held) (L:List Snap):List Nat→Prop
 |[]=>True
 |n::ns=>(match L[n]? with
  |some X=>aVal P ⟨fr,endH n se++X.1,X.2,sz,none⟩ op=aVal P ⟨fr,X0.1,X0.2,sz,none⟩ op∧chkG P sz op fr X0 (endH n se++X.1,X.2) g
  |none=>False)∧chkN P sz op g fr X0 se L ns
def chkAll (P:Program) (sz:Nat) (L:List Snap):List Pend→Prop
 |[]=>True
 |(o,g,fr,X0,se,ns)::fl=>chkN P sz o g fr X0 se L ns∧chkAll P sz L fl
def cfQo (P:Program) (ops:List Oper) (o:Oper) (k:St→Prop) (st:St):Prop:=
 match o.guard with
 |none=>cfQ P o k st
 |some (j,want)=>match (ops[j]?).bind (·.dst)with
  |none=>False
  |some g=>match guardOf (st.raw g) want with
   |some c=>cfQG P o c k st
   |none=>False
def pendOf (ops:List Oper) (ns:List Nat) (o:Oper) (st:St) (se:Held) (fl:List Pend):List Pend:=
 match ns with
 |[]=>fl
 |_=>(o.op,grdOf ops o st,st.fr,(st.objs,st.next),se,ns)::fl
def effNext (d:Option Tmp) (fr:List (Nat×AV)) (sz:Nat) (k:St→Prop) (s1:St):Prop:=k (St.put ⟨fr,s1.objs,s1.next,sz,none⟩ d (dstV d s1.fr))
def alcK (P:Program) (o:Oper) (nm mr:Nat) (held:Held) (k:Held→St→Prop) (st:St):Prop:=
 match o.op with
 |.alloc t=>match zcells P t with
  |some zs=>zs.all Value.oneCell'=true∧k (held++[(mr,nm,.box t (zs.map fun v=>.im (.sc v)))]) (st.put o.dst (.ptr nm 0))
  |none=>False
 |.buildSlice t 1 parts=>match parts.toList,elt P t with
  |[(0,x)],some e=>match tsz P e,zcells P e,st.ev x with
   |some 1,some [_],.im (.sc (.int q n))=>k (held++[(mr,nm,.row e 1 [[.sc (.int q n)]])]) (st.put o.dst (.row nm))
   |_,_,_=>False
  |_,_=>False
 |_=>False
def cfR (P:Program) (ops:List Oper) (k:St→Prop) (base:Nat):List RC→List Oper→List Snap→List Pend→Held→St→Prop
 |[],l,sn,fl,hd,st=>chkAll P st.size (sn++[(st.objs,st.next)]) fl∧disH (sn++[(st.objs,st.next)]) hd∧cfOps P ops l k ⟨st.fr,endH sn.length hd++st.objs,st.next,st.size,none⟩
 |_::_,[],_,_,_,_=>False
 |.p ns js::cs,o::l,sn,fl,hd,st=>cfQo P ops o (fun s'=>cfR P ops k base cs l sn (pendOf ops ns o (heldIn base js sn.length hd st) (selP base js hd) fl) hd (heldOut js st s')) (heldIn base js sn.length hd st)
 |.a j mr::cs,o::l,sn,fl,hd,st=>o.guard=none∧alcK P o (base+j) mr hd (fun hd'=>cfR P ops k base cs l sn fl hd') st
 |.e us::cs,o::l,sn,fl,hd,st=>o.guard=none∧cfOp P o (effNext o.dst st.fr st.size (cfR P ops k base cs l (sn++[(st.objs,st.next)]) fl hd)) ⟨restr st.fr us,mgH sn.length hd++st.objs,st.next,st.size,none⟩
theorem cfQo_inv {ops:List Oper} {o:Oper} {k:St→Prop} (h:cfQo P ops o k st):∃r,OpA P ops st o 0 (r,none)∧k (st.put o.dst r):=by
 unfold cfQo at h
 split at h
 ·rename_i hg;exact cfQ_inv hg _ h
 ·rename_i j want hg
  split at h
  ·cases h
  ·rename_i g hd
   split at h
   ·rename_i c hgo;exact cfQG_inv hg hd hgo _ h
   ·cases h
theorem cfOp_one {o:Oper} {k:St→Prop} (hn:∀x,o.op≠.next x false) (h:cfOp P o k st):∃s,k s∧∀k':St→Prop,k' s→cfOp P o k' st:=by
 have eff:∀{r:Option (Bool×St)},effK r k→∃s,k s∧∀k':St→Prop,k' s→effK r k':=by
  intro r h
  unfold effK at h⊢
  split at h
  ·exact⟨_,h.2,fun k' hk=>⟨h.1,hk⟩⟩
  ·cases h
 unfold cfOp at h⊢
 split at h
 ·split at h
  ·rename_i hd;exact⟨_,h,fun k' hk=>by first|exact hk|(simp only[hd];exact hk)⟩
  ·cases h
 ·split at h
  ·rename_i hd;exact⟨_,h,fun k' hk=>by first|exact hk|(simp only[hd];exact hk)⟩
  ·cases h
 ·split at h
  ·rename_i hd;exact⟨_,h,fun k' hk=>by first|exact hk|(simp only[hd];exact hk)⟩
  ·rename_i hd
   obtain⟨s,h1,h2⟩:=eff h
   exact⟨s,h1,fun k' hk=>by first|exact h2 k' hk|(simp only[hd];exact h2 k' hk)⟩
 ·exact eff h
 ·exact eff h
 ·exact eff h
 ·exact eff h
 ·exact eff h
 ·rename_i x ho;exact absurd ho (hn x)
 ·rcases h with h|h
  ·split at h
   ·rename_i hv;exact⟨_,h.2,fun k' hk=>.inl (by first|exact⟨h.1,hk⟩|(simp only[hv];exact⟨h.1,hk⟩))⟩
   ·cases h
  ·rcases h with h|h
   ·obtain⟨s,h1,h2⟩:=eff h
    exact⟨s,h1,fun k' hk=>.inr (.inl (h2 k' hk))⟩
   ·obtain⟨s,h1,h2⟩:=eff h
    exact⟨s,h1,fun k' hk=>.inr (.inr (h2 k' hk))⟩
 ·rename_i c ho
  split at h
  ·rename_i f hf
   split at h
   ·rename_i g cap hfe
    obtain⟨ns,h⟩:=h
    rcases h with⟨fl,args',r,outs,h1,h2,h3,h4⟩|⟨fl,nms,args',ins,outs,r,h1,h2,h3,h4,h5,h6,h7⟩|⟨j,e,cc,hj,fl,nms,args',ins,outs,r,h1,h2,h3,h4,h5,h6,h7⟩|⟨m1,n1,k0,lo,len,e1,k1,ys,e,l,c0,xs,h1,h2,h3,h4,h5,h6,h7,h8,h9,h10⟩|⟨vs,r,v,h1,h2,h3,h4⟩
    ·split at h4
     ·rename_i hc;exact⟨_,h4,fun k' hk=>by first|exact⟨ns,.inl ⟨fl,args',r,outs,h1,h2,h3,by rw[if_pos hc];exact hk⟩⟩|(simp only[hfe];exact⟨ns,.inl ⟨fl,args',r,outs,h1,h2,h3,by rw[if_pos hc];exact hk⟩⟩)⟩
     ·rename_i hc;exact⟨_,h4,fun k' hk=>by first|exact⟨ns,.inl ⟨fl,args',r,outs,h1,h2,h3,by rw[if_neg hc];exact hk⟩⟩|(simp only[hfe];exact⟨ns,.inl ⟨fl,args',r,outs,h1,h2,h3,by rw[if_neg hc];exact hk⟩⟩)⟩
    ·exact⟨_,h7,fun k' hk=>by first|exact⟨ns,.inr (.inl ⟨fl,nms,args',ins,outs,r,h1,h2,h3,h4,h5,h6,hk⟩)⟩|(simp only[hfe];exact⟨ns,.inr (.inl ⟨fl,nms,args',ins,outs,r,h1,h2,h3,h4,h5,h6,hk⟩)⟩)⟩
    ·exact⟨_,h7,fun k' hk=>by first|exact⟨ns,.inr (.inr (.inl ⟨j,e,cc,hj,fl,nms,args',ins,outs,r,h1,h2,h3,h4,h5,h6,hk⟩))⟩|(simp only[hfe];exact⟨ns,.inr (.inr (.inl ⟨j,e,cc,hj,fl,nms,args',ins,outs,r,h1,h2,h3,h4,h5,h6,hk⟩))⟩)⟩
    ·exact⟨_,h10,fun k' hk=>by first|exact⟨ns,.inr (.inr (.inr (.inl ⟨m1,n1,k0,lo,len,e1,k1,ys,e,l,c0,xs,h1,h2,h3,h4,h5,h6,h7,h8,h9,hk⟩)))⟩|(simp only[hfe];exact⟨ns,.inr (.inr (.inr (.inl ⟨m1,n1,k0,lo,len,e1,k1,ys,e,l,c0,xs,h1,h2,h3,h4,h5,h6,h7,h8,h9,hk⟩)))⟩)⟩
    ·exact⟨_,h4,fun k' hk=>by first|exact⟨ns,.inr (.inr (.inr (.inr ⟨vs,r,v,h1,h2,h3,hk⟩)))⟩|(simp only[hfe];exact⟨ns,.inr (.inr (.inr (.inr ⟨vs,r,v,h1,h2,h3,hk⟩)))⟩)⟩
   ·cases h
  ·split at h
   ·rename_i hd;exact⟨_,h.2,fun k' hk=>by first|exact⟨h.1,hk⟩|(simp only[hd];exact⟨h.1,hk⟩)⟩
   ·rename_i hd
    split at h
    ·rename_i hd2;exact⟨_,h.2,fun k' hk=>by first|exact⟨h.1,hk⟩|(simp only[hd,hd2];exact⟨h.1,hk⟩)⟩
    ·rename_i hd2
     obtain⟨s,h1,h2⟩:=eff h
     exact⟨s,h1,fun k' hk=>by first|exact h2 k' hk|(simp only[hd,hd2];exact h2 k' hk)⟩
  ·split at h
   ·rename_i hd;exact⟨_,h.2,fun k' hk=>by first|exact⟨h.1,hk⟩|(simp only[hd];exact⟨h.1,hk⟩)⟩
   ·rename_i hd
    obtain⟨s,h1,h2⟩:=eff h
    exact⟨s,h1,fun k' hk=>by first|exact h2 k' hk|(simp only[hd];exact h2 k' hk)⟩
  ·exact eff h
  ·split at h
   ·rename_i hv;exact⟨_,h.2,fun k' hk=>by first|exact⟨h.1,hk⟩|(simp only[hv];exact⟨h.1,hk⟩)⟩
   ·cases h
 ·split at h
  ·rename_i hv;exact⟨_,h.2,fun k' hk=>by first|exact⟨h.1,hk⟩|(simp only[hv];exact⟨h.1,hk⟩)⟩
  ·cases h
theorem accS_fr (ops:List Oper):∀(rs:List AV) (s s':St) (i:Nat),s.fr=s'.fr→s.size=s'.size→(accS ops s i rs).fr=(accS ops s' i rs).fr
 |[],s,s',i,h,_=>h
 |r::rs,s,s',i,h,hz=>by
  refine accS_fr ops rs _ _ (i+1) ?_ ?_
  ·cases (ops[i]?).bind (·.dst)<;>simp[St.put,h,hz]
  ·rw[put_size,put_size];exact hz
def alOf (P:Program) (vv:Nat→AObj) (ops:List Oper) (base:Nat) (cs:List RC):Als:=fun j=>match cs[j]?,ops[j]? with
 |some (.a jj mr),some o=>(match o.op with
  |.alloc t=>(zcells P t).map fun zs=>(base+jj,.box t (zs.map fun v=>.im (.sc v)),mr)
  |.buildSlice _ _ _=>some (base+jj,vv j,mr)
  |_=>none)
 |_,_=>none
theorem alOf_congr {vv vv':Nat→AObj} {ops:List Oper} {base:Nat} {cs:List RC} {j:Nat} (h:vv j=vv' j):alOf P vv ops base cs j=alOf P vv' ops base cs j:=by
 unfold alOf
 rw[h]
def hOf (al:Als) (n:Nat):Held:=(List.range n).filterMap fun j=>(al j).map fun x=>(x.2.2,x.1,x.2.1)
theorem hOf_succ (al:Als) (n:Nat):hOf al (n+1)=hOf al n++((al n).map fun x=>(x.2.2,x.1,x.2.1)).toList:=by
 unfold hOf
 rw[List.range_succ,List.filterMap_append]
 congr 1
theorem hOf_congr {al al':Als}:∀n,(∀j,j<n→al j=al' j)→hOf al n=hOf al' n
 |0,_=>rfl
 |n+1,h=>by rw[hOf_succ,hOf_succ,hOf_congr n fun j hj=>h j (by omega),h n (by omega)]
theorem mgH_append (n:Nat):∀(h h':Held),mgH n (h++h')=mgH n h++mgH n h'
 |[],h'=>rfl
 |(mr,nm,ob)::h,h'=>by
  simp only[List.cons_append,mgH,mgH_append n h h']
  split<;>rfl
theorem endH_append (n:Nat):∀(h h':Held),endH n (h++h')=endH n h++endH n h'
 |[],h'=>rfl
 |(mr,nm,ob)::h,h'=>by
  simp only[List.cons_append,endH,endH_append n h h']
  split<;>rfl
theorem mgs_succ (al:Als) (q n:Nat):mgs al (q+1) n=mgs al q n++(match al q with
  |some (nm,ob,mr)=>if mr=n then[(nm,ob)]else[]
  |none=>[]):=by
 unfold mgs
 rw[List.range_succ,List.filterMap_append]
 congr 1
 cases ha:al q with
 |none=>simp[ha]
 |some x=>obtain⟨nm,ob,mr⟩:=x;by_cases e:mr=n<;>simp[ha,e]
theorem mgH_hOf (al:Als) (n:Nat):∀q,mgH n (hOf al q)=mgs al q n
 |0=>rfl
 |q+1=>by
  rw[hOf_succ,mgH_append,mgs_succ,mgH_hOf al n q]
  congr 1
  cases al q with
  |none=>rfl
  |some x=>obtain⟨nm,ob,mr⟩:=x;simp[mgH]
theorem endH_hOf (al:Als) (n:Nat):∀q,endH n (hOf al q)=exs al (List.range q) n
 |0=>rfl
 |q+1=>by
  rw[hOf_succ,endH_append,endH_hOf al n q]
  unfold exs
  rw[List.range_succ,List.filterMap_append]
  congr 1
  cases ha:al q with
  |none=>simp[ha,endH]
  |some x=>obtain⟨nm,ob,mr⟩:=x;by_cases e:n≤mr<;>simp[ha,endH,e]
theorem mgs_le (al:Als) (n i:Nat):∀d,(∀j nm ob,i≤j→j<i+d→al j=some (nm,ob,n)→False)→mgs al (i+d) n=mgs al i n
 |0,_=>rfl
 |d+1,h=>by
  rw[←Nat.add_assoc,mgs_succ,mgs_le al n i d fun j nm ob h1 h2 h3=>h j nm ob h1 (by omega) h3]
  have:(match al (i+d)with
   |some (nm,ob,mr)=>if mr=n then[(nm,ob)]else[]
   |none=>[])=[]:=by
   cases ha:al (i+d)with
   |none=>rfl
   |some x=>
    obtain⟨nm,ob,mr⟩:=x
    simp only
    rw[if_neg]
    rintro rfl
    exact h (i+d) nm ob (by omega) (by omega) ha
  rw[this,List.append_nil]
def OpR (P:Program) (ops:List Oper) (base:Nat) (aj:Option (Nat×AObj×Nat)) (hd:Held) (code:RC) (o:Oper) (r:AV) (fr:List (Nat×AV)) (sz:Nat) (L:List Snap) (c:Nat):Prop:=
 match code with
 |.p ns js=>∃X,L[c]? =some X∧OpA P ops ⟨fr,endH c (selH base js hd)++X.1,X.2,sz,none⟩ o 0 (r,none)∧(ns=[]∨chkN P sz o.op (grdOf ops o ⟨fr,endH c (selH base js hd)++X.1,X.2,sz,none⟩) fr (endH c (selH base js hd)++X.1,X.2) (selH base js hd) L ns)
 |.e us=>o.guard=none∧∃X X',L[c]? =some X∧L[c+1]? =some X'∧cfOp P o (fun s=>s.objs=X'.1∧s.next=X'.2∧dstV o.dst s.fr=r) ⟨restr fr us,mgH c hd++X.1,X.2,sz,none⟩
 |.a j mr=>o.guard=none∧∃ob,aj=some (base+j,ob,mr)∧LayD P (fun x=>(⟨fr,[],0,sz,none⟩:St).ev x) o (base+j) ob r
theorem nE_cons (c:RC) (cs:List RC):nE (c::cs)=nE cs+if c.isE=true then 1 else 0:=by
 unfold nE;rw[List.countP_cons]
theorem cfR_inv {ops:List Oper} {k:St→Prop} {base:Nat} {cs0:List RC} (hnx:∀o∈ops,∀x,o.op≠.next x false):∀(cs:List RC) (vv0:Nat→AObj) (i:Nat) (s:St) (sn:List Snap) (fl:List Pend),(∀j,cs[j]? =cs0[i+j]?)→s.grd=none→i+cs.length≤ops.length→cfR P ops k base cs (ops.drop i) sn fl (hOf (alOf P vv0 ops base cs0) i) s→
  ∃(vv:Nat→AObj) (rs:List AV) (fut:List Snap),(∀j,j<i→vv j=vv0 j)∧rs.length=cs.length∧fut.length=nE cs∧
   (∀j o r code,ops[i+j]? =some o→rs[j]? =some r→cs[j]? =some code→OpR P ops base (alOf P vv ops base cs0 (i+j)) (hOf (alOf P vv ops base cs0) (i+j)) code o r (accS ops s i (rs.take j)).fr s.size (sn++(s.objs,s.next)::fut) (sn.length+nE (cs.take j)))∧
   chkAll P s.size (sn++(s.objs,s.next)::fut) fl∧disH (sn++(s.objs,s.next)::fut) (hOf (alOf P vv ops base cs0) (i+cs.length))∧
   ∃X,(sn++(s.objs,s.next)::fut)[sn.length+nE cs]? =some X∧cfOps P ops (ops.drop (i+cs.length)) k ⟨(accS ops s i rs).fr,endH (sn.length+nE cs) (hOf (alOf P vv ops base cs0) (i+cs.length))++X.1,X.2,s.size,none⟩
 |[],vv0,i,s,sn,fl,hcs,hg,hle,h=>by
  refine⟨vv0,[],[],fun _ _=>rfl,rfl,rfl,fun j o r code _ hr=>(by simp at hr),h.1,by simpa using h.2.1,(s.objs,s.next),by simp[nE],?_⟩
  simp only[accS,List.length_nil,Nat.add_zero]
  exact h.2.2
 |c::cs,vv0,i,s,sn,fl,hcs,hg,hle,h=>by
  simp only[List.length_cons]at hle
  have hlt:i<ops.length:=by omega
  have hoi:ops[i]? =some ops[i]:=List.getElem?_eq_getElem hlt
  have hb:(ops[i]?).bind (·.dst)=ops[i].dst:=by rw[hoi];rfl
  have hs:(⟨s.fr,s.objs,s.next,s.size,none⟩:St)=s:=by rw[←hg]
  have hcs':∀j,cs[j]? =cs0[i+1+j]?:=fun j=>by
   have:=hcs (j+1)
   rw[List.getElem?_cons_succ]at this
   rw[this];congr 1;omega
  have hc0:cs0[i]? =some c:=by have:=hcs 0;simpa using this.symm
  rw[List.drop_eq_getElem_cons hlt]at h
  cases c with
  |p ns js=>
   obtain⟨r,h1,h2⟩:=cfQo_inv h
   rw[heldOut_put]at h2
   rw[heldIn_eq]at h1 h2
   rw[selP_eq]at h2
   have hno:alOf P vv0 ops base cs0 i=none:=by unfold alOf;rw[hc0]
   have hho:hOf (alOf P vv0 ops base cs0) (i+1)=hOf (alOf P vv0 ops base cs0) i:=by rw[hOf_succ,hno];simp
   rw[←hho]at h2
   obtain⟨vv,rs,fut,g0,g1,g2,g3,g4,g7,X,g5,g6⟩:=cfR_inv hnx cs vv0 (i+1) _ sn _ hcs' (by rw[put_grd];exact hg) (by omega) h2
   simp only[put_objs,put_next,put_size]at g3 g4 g5 g6 g7
   have hn:nE (RC.p ns js::cs)=nE cs:=by rw[nE_cons];rfl
   refine⟨vv,r::rs,fut,fun j hj=>g0 j (by omega),by simp[g1],by rw[hn];exact g2,?_,?_,?_,X,by rw[hn];exact g5,?_⟩
   ·intro j o r' code ho hr hc
    cases j with
    |zero=>
     simp only[Nat.add_zero]at ho
     rw[hoi]at ho
     cases ho
     cases hr
     cases hc
     have hsel:hOf (alOf P vv ops base cs0) (i+0)=hOf (alOf P vv0 ops base cs0) i:=hOf_congr i fun j hj=>alOf_congr (g0 j (by omega))
     have e0:sn.length+nE []=sn.length:=by simp[nE]
     refine⟨(s.objs,s.next),by simp[nE],?_,?_⟩
     ·simp only[List.take_zero,accS]
      rw[hsel,e0,←hg];exact h1
     ·cases ns with
      |nil=>exact .inl rfl
      |cons n ns=>
       refine .inr ?_
       have g41:=g4.1
       simp only[List.take_zero,accS]
       rw[hsel,e0]
       rw[hho,hg]at g41
       exact g41
    |succ j=>
     have:=g3 j o r' code (by rw[←ho];congr 1;omega) (by simpa using hr) (by simpa using hc)
     have e:nE ((RC.p ns js::cs).take (j+1))=nE (cs.take j):=by rw[List.take_succ_cons,nE_cons];rfl
     rw[e]
     simp only[List.take_succ_cons,accS,hb]
     rw[show i+(j+1)=i+1+j by omega]
     exact this
   ·cases ns with
    |nil=>exact g4
    |cons n ns=>exact g4.2
   ·simp only[List.length_cons]
    rw[show i+(cs.length+1)=i+1+cs.length by omega]
    exact g7
   ·simp only[accS,hb,List.length_cons]
    rw[show i+(cs.length+1)=i+1+cs.length by omega,hn]
    exact g6
  |a jj mr=>
   obtain⟨hgd,h⟩:=h
   unfold alcK at h
   split at h
   ·rename_i t hop
    split at h
    ·rename_i zs hz
     obtain⟨hone,h2⟩:=h
     have hal:alOf P vv0 ops base cs0 i=some (base+jj,.box t (zs.map fun v=>.im (.sc v)),mr):=by
      unfold alOf
      rw[hc0,hoi]
      simp only[hop,hz,Option.map_some]
     have hho:hOf (alOf P vv0 ops base cs0) (i+1)=hOf (alOf P vv0 ops base cs0) i++[(mr,base+jj,.box t (zs.map fun v=>.im (.sc v)))]:=by rw[hOf_succ,hal];rfl
     rw[←hho]at h2
     obtain⟨vv,rs,fut,g0,g1,g2,g3,g4,g7,X,g5,g6⟩:=cfR_inv hnx cs vv0 (i+1) _ sn _ hcs' (by rw[put_grd];exact hg) (by omega) h2
     simp only[put_objs,put_next,put_size]at g3 g4 g5 g6 g7
     have hn:nE (RC.a jj mr::cs)=nE cs:=by rw[nE_cons];rfl
     refine⟨vv,.ptr (base+jj) 0::rs,fut,fun j hj=>g0 j (by omega),by simp[g1],by rw[hn];exact g2,?_,g4,?_,X,by rw[hn];exact g5,?_⟩
     ·intro j o r' code ho hr hc
      cases j with
      |zero=>
       simp only[Nat.add_zero]at ho
       rw[hoi]at ho
       cases ho
       cases hr
       cases hc
       refine⟨hgd,_,?_,.inl ⟨rfl,t,zs,hop,hz,hone,rfl⟩⟩
       rw[Nat.add_zero,alOf_congr (g0 i (by omega)),hal]
      |succ j=>
       have:=g3 j o r' code (by rw[←ho];congr 1;omega) (by simpa using hr) (by simpa using hc)
       have e:nE ((RC.a jj mr::cs).take (j+1))=nE (cs.take j):=by rw[List.take_succ_cons,nE_cons];rfl
       rw[e]
       simp only[List.take_succ_cons,accS,hb]
       rw[show i+(j+1)=i+1+j by omega]
       exact this
     ·simp only[List.length_cons]
      rw[show i+(cs.length+1)=i+1+cs.length by omega]
      exact g7
     ·simp only[accS,hb,List.length_cons]
      rw[show i+(cs.length+1)=i+1+cs.length by omega,hn]
      exact g6
    ·exact h.elim
   ·rename_i t parts hop
    split at h
    ·rename_i x e hpl he
     split at h
     ·rename_i z q n hk0 hz hev
      have h2:=h
      have hop':ops[i].op=.buildSlice t 1 #[(0,x)]:=by rw[hop,←hpl]
      have hev':(⟨s.fr,[],0,s.size,none⟩:St).ev x=.im (.sc (.int q n)):=by
       rw[←hev,←hs]
       cases x<;>rfl
      let vv1:Nat→AObj:=fun j=>if j=i then .row e 1 [[.sc (.int q n)]]else vv0 j
      have hal:alOf P vv1 ops base cs0 i=some (base+jj,.row e 1 [[.sc (.int q n)]],mr):=by
       unfold alOf
       rw[hc0,hoi]
       simp only[hop,vv1,if_true]
      have hho:hOf (alOf P vv1 ops base cs0) (i+1)=hOf (alOf P vv0 ops base cs0) i++[(mr,base+jj,.row e 1 [[.sc (.int q n)]])]:=by
       rw[hOf_succ,hal,hOf_congr (al':=alOf P vv0 ops base cs0) i fun j hj=>alOf_congr (by simp only[vv1];rw[if_neg (by omega)])]
       rfl
      rw[←hho]at h2
      obtain⟨vv,rs,fut,g0,g1,g2,g3,g4,g7,X,g5,g6⟩:=cfR_inv hnx cs vv1 (i+1) _ sn _ hcs' (by rw[put_grd];exact hg) (by omega) h2
      simp only[put_objs,put_next,put_size]at g3 g4 g5 g6 g7
      have hn:nE (RC.a jj mr::cs)=nE cs:=by rw[nE_cons];rfl
      refine⟨vv,.row (base+jj)::rs,fut,fun j hj=>(g0 j (by omega)).trans (by simp only[vv1];rw[if_neg (by omega)]),by simp[g1],by rw[hn];exact g2,?_,g4,?_,X,by rw[hn];exact g5,?_⟩
      ·intro j o r' code ho hr hc
       cases j with
       |zero=>
        simp only[Nat.add_zero]at ho
        rw[hoi]at ho
        cases ho
        cases hr
        cases hc
        refine⟨hgd,_,?_,.inr ⟨rfl,t,e,x,z,q,n,hop',he,hk0,hz,hev',rfl⟩⟩
        rw[Nat.add_zero,alOf_congr (g0 i (by omega)),hal]
       |succ j=>
        have:=g3 j o r' code (by rw[←ho];congr 1;omega) (by simpa using hr) (by simpa using hc)
        have e:nE ((RC.a jj mr::cs).take (j+1))=nE (cs.take j):=by rw[List.take_succ_cons,nE_cons];rfl
        rw[e]
        simp only[List.take_succ_cons,accS,hb]
        rw[show i+(j+1)=i+1+j by omega]
        exact this
      ·simp only[List.length_cons]
       rw[show i+(cs.length+1)=i+1+cs.length by omega]
       exact g7
      ·simp only[accS,hb,List.length_cons]
       rw[show i+(cs.length+1)=i+1+cs.length by omega,hn]
       exact g6
     ·exact h.elim
    ·exact h.elim
   ·exact h.elim
  |e us=>
   obtain⟨hgd,h1⟩:=h
   obtain⟨s1,h2,h3⟩:=cfOp_one (hnx _ (List.getElem_mem hlt)) h1
   unfold effNext at h2
   have hno:alOf P vv0 ops base cs0 i=none:=by unfold alOf;rw[hc0]
   have hho:hOf (alOf P vv0 ops base cs0) (i+1)=hOf (alOf P vv0 ops base cs0) i:=by rw[hOf_succ,hno];simp
   rw[←hho]at h2
   obtain⟨vv,rs,fut,g0,g1,g2,g3,g4,g7,X,g5,g6⟩:=cfR_inv hnx cs vv0 (i+1) _ _ _ hcs' (by rw[put_grd]) (by omega) h2
   simp only[put_objs,put_next,put_size]at g3 g4 g5 g6 g7
   simp only[List.append_assoc,List.cons_append,List.nil_append]at g3 g4 g5 g7
   have hn:nE (RC.e us::cs)=nE cs+1:=by rw[nE_cons];rfl
   have hfr:∀(rs:List AV),(accS ops (St.put ⟨s.fr,s1.objs,s1.next,s.size,none⟩ ops[i].dst (dstV ops[i].dst s1.fr)) (i+1) rs).fr=(accS ops (s.put ops[i].dst (dstV ops[i].dst s1.fr)) (i+1) rs).fr:=fun rs=>
    accS_fr ops rs _ _ (i+1) (by cases ops[i].dst<;>rfl) (by rw[put_size,put_size])
   refine⟨vv,dstV ops[i].dst s1.fr::rs,(s1.objs,s1.next)::fut,fun j hj=>g0 j (by omega),by simp[g1],by rw[hn];simp[g2],?_,g4,?_,X,?_,?_⟩
   ·intro j o r' code ho hr hc
    cases j with
    |zero=>
     simp only[Nat.add_zero]at ho
     rw[hoi]at ho
     cases ho
     cases hr
     cases hc
     refine⟨hgd,(s.objs,s.next),(s1.objs,s1.next),by simp[nE],?_,?_⟩
     ·rw[List.take_zero,List.getElem?_append_right (by simp[nE])]
      simp[nE]
     ·simp only[List.take_zero,accS]
      have e0:sn.length+nE []=sn.length:=by simp[nE]
      rw[e0,Nat.add_zero,hOf_congr (al:=alOf P vv ops base cs0) (al':=alOf P vv0 ops base cs0) i fun j hj=>alOf_congr (g0 j (by omega))]
      exact h3 _ ⟨rfl,rfl,rfl⟩
    |succ j=>
     have:=g3 j o r' code (by rw[←ho];congr 1;omega) (by simpa using hr) (by simpa using hc)
     have e:nE ((RC.e us::cs).take (j+1))=nE (cs.take j)+1:=by rw[List.take_succ_cons,nE_cons];rfl
     rw[e]
     rw[hfr,List.length_append,List.length_singleton]at this
     simp only[List.take_succ_cons,accS,hb]
     rw[show sn.length+(nE (cs.take j)+1)=sn.length+1+nE (cs.take j)by omega,show i+(j+1)=i+1+j by omega]
     exact this
   ·simp only[List.length_cons]
    rw[show i+(cs.length+1)=i+1+cs.length by omega]
    exact g7
   ·rw[hn,←g5,List.length_append,List.length_singleton]
    congr 1;omega
   ·simp only[accS,hb,List.length_cons]
    rw[hfr,List.length_append,List.length_singleton]at g6
    rw[show i+(cs.length+1)=i+1+cs.length by omega,hn,show sn.length+(nE cs+1)=sn.length+1+nE cs by omega]
    exact g6
def nA (cs:List RC):Nat:=cs.countP RC.isA
def codeB (ops:List Oper) (A:List (List Nat)) (cs:List RC):Bool:=
 ((List.range cs.length).all fun j=>(List.range j).all fun i=>!(isEc cs i&&isEc cs j)||(A.getD j []).contains i)&&
 (cs.zipIdx.all fun(c,i)=>match c with
  |.e us=>(us.all fun t=>match ops[i]? with
    |some o=>(tmpsOf ops o).contains t
    |none=>false)&&
   cs.zipIdx.all fun(c',j)=>match c' with
    |.a _ mr=>mr != nE (cs.take i)||((A.getD i []).contains j&&decide (j<i))
    |_=>true
  |.p ns js=>(js.all fun jj=>cs.zipIdx.all fun(c',j)=>match c' with
    |.a jj' _=>jj != jj'||(A.getD i []).contains j
    |_=>true)&&
   (List.range (nE cs+1)).all fun n=>!(decide (ecnt (isEc cs) cs.length (fun j=>(A.getD i []).contains j)≤n)&&decide (n≤ecnt (isEc cs) cs.length (fun j=>!(A.getD j []).contains i)))||n==nE (cs.take i)||ns.contains n
  |.a jj mr=>decide (jj<nA cs)&&decide (ecnt (isEc cs) cs.length (fun j=>!(A.getD j []).contains i)≤mr)&&cs.zipIdx.all fun(c',j)=>match c' with
    |.a jj' _=>jj != jj'||i==j
    |_=>true)&&
 ops.all fun o=>match o.op with
  |.next _ _=>false
  |_=>true
theorem nE_take (cs:List RC):∀i,i≤cs.length→nE (cs.take i)=ecnt (isEc cs) cs.length (fun j=>decide (j<i))
 |0,_=>by
  unfold ecnt nE
  simp
 |i+1,h=>by
  have ih:=nE_take cs i (by omega)
  rw[List.take_add_one,List.getElem?_eq_getElem (by omega)]
  have e1:nE (cs.take i++[cs[i]])=nE (cs.take i)+nE [cs[i]]:=by unfold nE;rw[List.countP_append]
  simp only[Option.toList_some]
  rw[e1,ih]
  have hE:isEc cs i=(cs[i]).isE:=by unfold isEc;rw[List.getElem?_eq_getElem (by omega)];rfl
  cases hc:(cs[i]).isE with
  |true=>
   have:nE [cs[i]]=1:=by unfold nE;simp[hc]
   rw[this]
   exact(ecnt_add (i:=i) (by rw[hE,hc]) (by simp) (fun j=>by simp;omega) cs.length (by omega)).symm
  |false=>
   have:nE [cs[i]]=0:=by unfold nE;simp[hc]
   rw[this]
   refine ecnt_congr fun j hj hje=>?_
   have:j≠i:=by rintro rfl;rw[hE,hc]at hje;cases hje
   simp;omega
theorem ecnt_le_all (isE:Nat→Bool) (nq:Nat) (S:Nat→Bool):ecnt isE nq S≤ecnt isE nq fun _=>true:=ecnt_mono fun _ _ _ _=>rfl
theorem nE_all (cs:List RC):nE cs=ecnt (isEc cs) cs.length fun _=>true:=by
 have:=nE_take cs cs.length (Nat.le_refl _)
 rw[List.take_length]at this
 rw[this]
 exact ecnt_congr fun j hj _=>by simp[hj]
theorem OpF_snap {s s':St} {o:Oper} {nm:Nat} {r:AV} (hev:∀x,s'.ev x=s.ev x) (ha:aVal P s' o.op=aVal P s o.op) (h:OpF P s o nm (r,none)):OpF P s' o nm (r,none):=by
 have hmap:∀l:List Operand,l.map s'.ev=l.map s.ev:=fun l=>List.map_congr_left fun x _=>hev x
 unfold OpF at*
 split at h
 ·exact h
 ·rename_i t x ho
  rw[hev x];exact h
 ·exact h
 ·rename_i c hc
  split at h
  ·rename_i f hf
   rw[hev f,hmap]
   exact h
  ·rw[ha];exact h
 ·rw[ha];exact h
theorem OpFG_snap {s s':St} {c:Bool} {o:Oper} {re:Res} (hev:∀x,({s' with grd:=some c}:St).ev x=({s with grd:=some c}:St).ev x) (ha:aVal P {s' with grd:=some c} o.op=aVal P {s with grd:=some c} o.op) (h:OpFG P s c o re):OpFG P s' c o re:=by
 have hmap:∀l:List Operand,l.map ({s' with grd:=some c}:St).ev=l.map ({s with grd:=some c}:St).ev:=fun l=>List.map_congr_left fun x _=>hev x
 unfold OpFG at*
 split at h
 ·exact h
 ·exact h
 ·exact h
 ·rename_i cl hc
  split at h
  ·rename_i f hf
   rw[hev f,hmap]
   exact h
  ·rw[ha];exact h
 ·rw[ha];exact h
theorem disN_get {nm mr:Nat}:∀{L:List Snap} {i n:Nat} {X:Snap},disN nm mr L i→L[n]? =some X→i+n≤mr→look X.1 nm=none
 |[],i,n,X,_,h,_=>by simp at h
 |Y::L,i,0,X,hd,h,hle=>by
  simp at h;subst h
  exact hd.1 hle
 |Y::L,i,n+1,X,hd,h,hle=>disN_get (i:=i+1) hd.2 (by simpa using h) (by omega)
theorem disH_get {L:List Snap}:∀{h:Held} {mr nm:Nat} {ob:AObj},disH L h→(mr,nm,ob)∈h→disN nm mr L 0
 |(mr',nm',ob')::h,mr,nm,ob,hd,hm=>by
  rcases List.mem_cons.1 hm with e|hm
  ·cases e;exact hd.1
  ·exact disH_get hd.2 hm
theorem alOf_some {vv:Nat→AObj} {ops:List Oper} {base:Nat} {cs:List RC} {j nm mr:Nat} {ob:AObj} (h:alOf P vv ops base cs j=some (nm,ob,mr)):
  ∃jj o,cs[j]? =some (.a jj mr)∧ops[j]? =some o∧nm=base+jj:=by
 unfold alOf at h
 split at h
 ·rename_i jj mr' o h1 h2
  split at h
  ·rename_i t hop
   simp only[Option.map_eq_some_iff]at h
   obtain⟨zs,hz,h⟩:=h
   cases h
   exact⟨jj,o,h1,h2,rfl⟩
  ·cases h
   exact⟨jj,o,h1,h2,rfl⟩
  ·cases h
 ·cases h
theorem endH_mem {n:Nat} {k:Nat} {x:AObj}:∀{h:Held},(k,x)∈endH n h→∃mr,(mr,k,x)∈h∧n≤mr
 |[],h=>by cases h
 |(mr,nm,ob)::h,hm=>by
  simp only[endH]at hm
  split at hm
  ·rename_i hle
   rcases List.mem_cons.1 hm with e|hm
   ·cases e;exact⟨mr,List.mem_cons_self,hle⟩
   ·obtain⟨mr',h1,h2⟩:=endH_mem hm;exact⟨mr',List.mem_cons_of_mem _ h1,h2⟩
  ·obtain⟨mr',h1,h2⟩:=endH_mem hm;exact⟨mr',List.mem_cons_of_mem _ h1,h2⟩
theorem cfR_sound {Q:Exit→Act→World→Prop} {ops:Array Oper} {cs:List RC} {k:St→Prop} (hsh:shapeB ops.toList (ancs [] ops.toList) st.size cs.length=true) (hcd:codeB ops.toList (ancs [] ops.toList) cs=true) (h:SimF E st m a w)
  (hc:cfR P ops.toList k st.next cs ops.toList [] [] [] {st with next:=st.next+nA cs}) (hk:∀st' m' a' w',k st'→SimF E st' m' a' w'→Q .normal a' w'):wpAny P .any ops Q ops.size (Array.replicate ops.size false) a {w with drawn:=w.drawn+1}:=by
 have hS:=shape_of hsh
 generalize ancs [] ops.toList=A at*
 have hle:cs.length≤ops.toList.length:=hS.le
 unfold codeB at hcd
 simp only[Bool.and_eq_true]at hcd
 obtain⟨⟨c1,c2⟩,c3⟩:=hcd
 have hnx:∀o∈ops.toList,∀x,o.op≠.next x false:=by
  intro o ho x e
  have:=List.all_eq_true.1 c3 o ho
  rw[e]at this
  cases this
 obtain⟨vv,rs,fut,-,g1,g2,g3,-,g7,X,g5,g6⟩:=cfR_inv (cs0:=cs) hnx cs (fun _=>.gone) 0 {st with next:=st.next+nA cs} [] [] (fun j=>by rw[Nat.zero_add]) h.grd (by simpa using hle) (by simpa [hOf]using hc)
 simp only[List.nil_append,List.length_nil,Nat.zero_add]at g3 g5 g6 g7
 have hacc:∀(rs:List AV),(accS ops.toList {st with next:=st.next+nA cs} 0 rs).fr=(accS ops.toList st 0 rs).fr:=fun rs=>accS_fr _ _ _ _ _ rfl rfl
 simp only[hacc]at g3 g6
 generalize hL:(st.objs,st.next+nA cs)::fut=L at*
 have hLl:L.length=nE cs+1:=by rw[←hL];simp[g2]
 generalize hAl:alOf P vv ops.toList st.next cs=al at*
 have hals:∀(j nm mr:Nat) (ob:AObj),al j=some (nm,ob,mr)→∃jj o,cs[j]? =some (.a jj mr)∧ops.toList[j]? =some o∧nm=st.next+jj:=by
  intro j nm mr ob hj
  rw[←hAl]at hj
  exact alOf_some hj
 let OB:Nat→Snap:=fun n=>L.getD n ([],0)
 have hOB:∀n Y,L[n]? =some Y→OB n=Y:=fun n Y hn=>by simp only[OB,List.getD_eq_getElem?_getD,hn];rfl
 have hcode:∀(i:Nat) (r:AV),rs[i]? =some r→∃code,cs[i]? =some code∧i<cs.length:=fun i r hr=>by
  have:=(List.getElem?_eq_some_iff.1 hr).1
  exact⟨cs[i]'(by omega),List.getElem?_eq_getElem (by omega),by omega⟩
 have hraw:∀(i:Nat) (o:Oper),i<cs.length→ops.toList[i]? =some o→∀n,∀t∈tmpsOf ops.toList o,(look (accS ops.toList st 0 (rs.take i)).fr t).getD .undef=(stM ops.toList rs st OB al (A.getD i []) n).raw t:=by
  intro i o hi ho n t ht
  have h1:=accS_raw hS rs g1 i (by omega) t
  have h2:=stM_raw (st:=st) (OB:=OB) (al:=al) (n:=n) (n':=n) hS g1 hi ho (is:=List.range i) (fun j hj=>by have:=List.mem_range.1 hj;omega) (fun j hj=>List.mem_range.2 (hS.anc i o ho j hj).1)
   (fun j hj k hk=>by
    have hj':=List.mem_range.1 hj
    have hjo:ops.toList[j]? =some (ops.toList[j]'(by omega)):=List.getElem?_eq_getElem (by omega)
    have:=(hS.anc j _ hjo k hk).1
    exact List.mem_range.2 (by omega)) (by simp) t ht
  exact h1.trans h2
 have hinj:InjA al:=by
  intro j j' nm ob ob' mr mr' h1 h2
  obtain⟨jj,_,k1,_,k2⟩:=hals j nm mr ob h1
  obtain⟨jj',_,k3,_,k4⟩:=hals j' nm mr' ob' h2
  have hz:=List.all_eq_true.1 c2 (.a jj mr,j) (zipIdx_get cs j _ k1)
  simp only[Bool.and_eq_true]at hz
  have hz:=List.all_eq_true.1 hz.2 (.a jj' mr',j') (zipIdx_get cs j' _ k3)
  simp only[Bool.or_eq_true,bne_iff_ne,ne_eq,beq_iff_eq]at hz
  rcases hz with hz|hz
  ·exact absurd (by omega) hz
  ·exact hz
 have hdisj0:∀n j nm ob mr,n≤(ecnt (isEc cs) cs.length fun _=>true)→j<cs.length→al j=some (nm,ob,mr)→n≤mr→look (OB n).1 nm=none:=by
  intro n j nm ob mr hn hj h1 hle'
  have hn':n<L.length:=by rw[hLl,nE_all];exact Nat.lt_succ_of_le hn
  have hLn:L[n]? =some (L[n]'hn'):=List.getElem?_eq_getElem hn'
  rw[hOB n _ hLn]
  refine disN_get (i:=0) (disH_get (mr:=mr) (nm:=nm) (ob:=ob) g7 ?_) hLn (by omega)
  unfold hOf
  rw[List.mem_filterMap]
  exact⟨j,List.mem_range.2 hj,by rw[h1];rfl⟩
 refine region_mix (A:=A) (nq:=cs.length) (isE:=isEc cs) (res:=rs) (OB:=OB) (al:=al) hS g1 ?_ ?_ ?_ ?_ ?_ ?_ ?_ hinj ?_ h ?_
 ·intro i j hij hj hi hj'
  have:=List.all_eq_true.1 (List.all_eq_true.1 c1 j (List.mem_range.2 hj)) i (List.mem_range.2 hij)
  simpa [hi,hj']using this
 ·rw[hOB 0 (st.objs,st.next+nA cs) (by rw[←hL];rfl)]
 ·rw[hOB 0 (st.objs,st.next+nA cs) (by rw[←hL];rfl)]
  simp only;omega
 ·intro j nm ob mr hj h1
  obtain⟨jj,_,k1,_,k2⟩:=hals j nm mr ob h1
  have hz:=List.all_eq_true.1 c2 (.a jj mr,j) (zipIdx_get cs j _ k1)
  simp only[Bool.and_eq_true,decide_eq_true_eq]at hz
  have:=hz.1.1
  rw[hOB 0 (st.objs,st.next+nA cs) (by rw[←hL];rfl)]
  simp only;omega
 ·intro i o r ho hr hE hali n hlo hhi
  obtain⟨code,hcs,hi⟩:=hcode i r hr
  have hR:=g3 i o r code (by simpa using ho) hr hcs
  have hEc:isEc cs i=code.isE:=by unfold isEc;rw[hcs];rfl
  rw[hEc]at hE
  cases code with
  |e us=>cases hE
  |a jj mr=>
   exfalso
   obtain⟨_,ob,hob,_⟩:=hR
   rw[hob]at hali
   cases hali
  |p ns js=>
   obtain⟨X0,hX0,hop,hch⟩:=hR
   have hz:=List.all_eq_true.1 c2 (.p ns js,i) (zipIdx_get cs i _ hcs)
   simp only[Bool.and_eq_true,ho]at hz
   have hn:n<nE cs+1:=by
    rw[nE_all]
    exact Nat.lt_succ_of_le (Nat.le_trans hhi (ecnt_le_all _ _ _))
   have hz2:=List.all_eq_true.1 hz.2 n (List.mem_range.2 hn)
   simp only[hlo,hhi,decide_true,Bool.and_self,Bool.not_true,Bool.false_or,Bool.or_eq_true,beq_iff_eq,List.contains_iff_mem]at hz2
   have hLn:L[n]? =some (L[n]'(by omega)):=List.getElem?_eq_getElem (by omega)
   obtain⟨se,hse⟩:∃se,se=selH st.next js (hOf al i):=⟨_,rfl⟩
   rw[←hse]at hop hch
   have hopn:OpA P ops.toList ⟨(accS ops.toList st 0 (rs.take i)).fr,endH n se++(OB n).1,(OB n).2,st.size,none⟩ o 0 (r,none):=by
    rcases hz2 with hz2|hz2
    ·have:OB n=X0:=hOB n X0 (by rw[hz2];exact hX0)
     rw[this,hz2];exact hop
    ·have hne:ns≠[]:=fun e=>by rw[e]at hz2;cases hz2
     have hch:=hch.resolve_left hne
     obtain⟨X1,hX1⟩:∃X1:Snap,X1=(endH (nE (cs.take i)) se++X0.1,X0.2):=⟨_,rfl⟩
     have hop:OpA P ops.toList ⟨(accS ops.toList st 0 (rs.take i)).fr,X1.1,X1.2,st.size,none⟩ o 0 (r,none):=by rw[hX1];exact hop
     have hch:chkN P st.size o.op (grdOf ops.toList o ⟨(accS ops.toList st 0 (rs.take i)).fr,X1.1,X1.2,st.size,none⟩) (accS ops.toList st 0 (rs.take i)).fr X1 se L ns:=by rw[hX1];exact hch
     clear hX1 hX0
     have key:∀(g:Option Bool) (l:List Nat),n∈l→chkN P st.size o.op g (accS ops.toList st 0 (rs.take i)).fr X1 se L l→aVal P ⟨(accS ops.toList st 0 (rs.take i)).fr,endH n se++(OB n).1,(OB n).2,st.size,none⟩ o.op=aVal P ⟨(accS ops.toList st 0 (rs.take i)).fr,X1.1,X1.2,st.size,none⟩ o.op∧chkG P st.size o.op (accS ops.toList st 0 (rs.take i)).fr X1 (endH n se++(OB n).1,(OB n).2) g:=by
      intro g l
      induction l with
      |nil=>intro hl;cases hl
      |cons y l ih=>
       intro hl hcn
       rcases List.mem_cons.1 hl with e|hl
       ·subst e
        have h1:=hcn.1
        rw[hLn]at h1
        rw[hOB n _ hLn]
        exact h1
       ·exact ih hl hcn.2
     have hk2:=key _ ns hz2 hch
     unfold OpA at hop⊢
     unfold grdOf at hk2
     cases hg:o.guard with
     |none=>
      rw[hg]at hop
      exact OpF_snap (fun x=>by cases x<;>rfl) hk2.1 hop
     |some jw=>
      obtain⟨j,want⟩:=jw
      rw[hg]at hop hk2
      simp only at hop hk2⊢
      cases hd:(ops.toList[j]?).bind (·.dst)with
      |none=>rw[hd]at hop;exact hop.elim
      |some g=>
       rw[hd]at hop hk2
       simp only at hop hk2⊢
       have hrg:St.raw ⟨(accS ops.toList st 0 (rs.take i)).fr,endH n se++(OB n).1,(OB n).2,st.size,none⟩ g=St.raw ⟨(accS ops.toList st 0 (rs.take i)).fr,X1.1,X1.2,st.size,none⟩ g:=rfl
       rw[hrg]
       cases hgo:guardOf (St.raw ⟨(accS ops.toList st 0 (rs.take i)).fr,X1.1,X1.2,st.size,none⟩ g) want with
       |none=>rw[hgo]at hop;exact hop.elim
       |some c=>
        rw[hgo]at hop hk2
        simp only at hop hk2⊢
        have hG:aVal P ⟨(accS ops.toList st 0 (rs.take i)).fr,endH n se++(OB n).1,(OB n).2,st.size,some c⟩ o.op=aVal P ⟨(accS ops.toList st 0 (rs.take i)).fr,X1.1,X1.2,st.size,some c⟩ o.op:=hk2.2
        rcases hop with hop|hop|hop
        ·exact .inl hop
        ·exact .inr (.inl ⟨hop.1,OpF_snap (fun x=>by cases x<;>rfl) hk2.1 hop.2⟩)
        ·exact .inr (.inr (OpFG_snap (fun x=>by cases x<;>rfl) hG hop))
   refine OpA_mono (s:=⟨(accS ops.toList st 0 (rs.take i)).fr,endH n se++(OB n).1,(OB n).2,st.size,none⟩) rfl rfl (fun t ht=>(hraw i o hi ho n t ht).symm) (fun k x hk=>?_) hopn
   have hk:look (endH n se++(OB n).1) k=some x:=hk
   show look (exs al (A.getD i []) n++(OB n).1) k=some x
   rw[look_app]at hk⊢
   cases hy:look (endH n se) k with
   |some y=>
    rw[hy]at hk
    cases hk
    obtain⟨mr,hm,hle2⟩:=endH_mem (look_mem hy)
    rw[hse]at hm
    unfold selH at hm
    obtain⟨hm,hjs⟩:=List.mem_filter.1 hm
    obtain⟨jj,hjj,hkj⟩:=List.any_eq_true.1 hjs
    unfold hOf at hm
    obtain⟨j,hj,haj⟩:=List.mem_filterMap.1 hm
    obtain⟨y,hay,hyx⟩:=Option.map_eq_some_iff.1 haj
    obtain⟨nm,ob,mr'⟩:=y
    cases hyx
    obtain⟨jj',o',q1,q2,q3⟩:=hals j nm mr' ob hay
    have hkj:st.next+jj=nm:=by simpa using hkj
    have:jj'=jj:=by omega
    subst this
    have h5:=List.all_eq_true.1 (List.all_eq_true.1 hz.1 jj' hjj) (.a jj' mr',j) (zipIdx_get cs j _ q1)
    have hjA:j∈A.getD i []:=by simpa using h5
    rw[(look_exs hinj).2 ⟨j,mr',hjA,hay,hle2⟩]
   |none=>
    rw[hy]at hk
    cases hx:look (exs al (A.getD i []) n) k with
    |none=>exact hk
    |some y=>
     obtain⟨j,mr,hj,h1,h2⟩:=(look_exs hinj).1 hx
     have hk:look (OB n).1 k=some x:=hk
     rw[hdisj0 n j k y mr (by rw[nE_all]at hn;omega) (by have:=(hS.anc i o ho j hj).1;omega) h1 h2]at hk
     cases hk
 ·intro i o r ho hr hE
  obtain⟨code,hcs,hi⟩:=hcode i r hr
  have hR:=g3 i o r code (by simpa using ho) hr hcs
  have hEc:isEc cs i=code.isE:=by unfold isEc;rw[hcs];rfl
  rw[hEc]at hE
  cases code with
  |p ns=>cases hE
  |a jj mr=>cases hE
  |e us=>
   obtain⟨hgd,X0,X1,hX0,hX1,hop⟩:=hR
   have hz:=List.all_eq_true.1 c2 (.e us,i) (zipIdx_get cs i _ hcs)
   simp only[Bool.and_eq_true]at hz
   have hmA:∀j nm ob,j<cs.length→al j=some (nm,ob,nE (cs.take i))→j∈A.getD i []∧j<i:=by
    intro j nm ob hj h1
    obtain⟨jj,_,k1,_⟩:=hals j nm _ ob h1
    have h2:=List.all_eq_true.1 hz.2 (.a jj (nE (cs.take i)),j) (zipIdx_get cs j _ k1)
    simpa using h2
   rw[mgH_hOf]at hop
   have hmg:mgs al cs.length (nE (cs.take i))=mgs al i (nE (cs.take i)):=by
    have:=mgs_le al (nE (cs.take i)) i (cs.length-i) (fun j nm ob h1 h2 h3=>by
     have:=(hmA j nm ob (by omega) h3).2
     omega)
    rwa [show i+(cs.length-i)=cs.length by omega]at this
   rw[←nE_take cs i (by omega),hOB _ _ hX0,hOB _ _ hX1,hmg]
   refine⟨hgd,fun j nm ob hj h1=>(hmA j nm ob hj h1).1,restr (accS ops.toList st 0 (rs.take i)).fr us,fun s y hy=>?_,?_⟩
   ·obtain⟨h1,rfl⟩:=look_restr hy
    have hz:=List.all_eq_true.1 hz.1 s h1
    simp only[ho,List.contains_iff_mem]at hz
    exact⟨hz,hraw i o hi ho 0 s hz⟩
   ·obtain⟨s1,⟨h1,h2,h3⟩,h4⟩:=cfOp_one (hnx o (List.mem_of_getElem? ho)) hop
    refine h4 _ ⟨h1,h2,fun d hd=>?_⟩
    rw[hd]at h3
    exact h3
 ·intro i o nm ob mr hi ho hali
  obtain⟨jj,o',k1,k2,k5⟩:=hals i nm mr ob hali
  rw[ho]at k2;cases k2
  obtain⟨r,hr⟩:∃r,rs[i]? =some r:=⟨rs[i]'(by omega),List.getElem?_eq_getElem (by omega)⟩
  have hR:=g3 i o r _ (by simpa using ho) hr k1
  obtain⟨q1,ob',q2,q3⟩:=hR
  rw[hali]at q2
  cases q2
  have hz:=List.all_eq_true.1 c2 (.a jj mr,i) (zipIdx_get cs i _ k1)
  simp only[Bool.and_eq_true,decide_eq_true_eq]at hz
  refine⟨by unfold isEc;rw[k1];rfl,q1,hz.1.2,r,hr,?_⟩
  rcases q3 with q3|⟨p1,t,e,x,z,q,n,p2,p3,p4,p5,p6,p7⟩
  ·exact .inl q3
  ·refine .inr ⟨p1,t,e,x,z,q,n,p2,p3,p4,p5,?_,p7⟩
   rw[←p6]
   cases x with
   |tmp t'=>exact(hraw i o hi ho 0 t' (by unfold tmpsOf;rw[p2];simp[Op.operands])).symm
   |const v=>rfl
   |global g=>rfl
   |func f=>rfl
 ·exact hdisj0
 ·intro m' a' w' hs
  have hX:OB (ecnt (isEc cs) cs.length fun _=>true)=X:=hOB _ _ (by rw[←nE_all];exact g5)
  refine cfOps_sound hk _ _ m' a' w' ?_ g6
  refine hs.same (fun t=>?_) (fun n=>?_) ?_ rfl rfl
  ·have:=accS_look hS rs g1 t
   exact this
  ·unfold St.obj stM
   rw[hX,endH_hOf,←nE_all]
  ·simp only[stM,hX];exact Nat.le_refl _
end Go.Am
namespace Go.Am
open Go.RowKit
variable {P:Program} {E:Env} {st:St} {m:Nm} {w:World} {a:Act} {rd:Option Nat}
abbrev FR (r:Option Nat):Fence:={Fence.wide with round:=r}
theorem callsIn_FR {n:Nat} {f:FuncId} {args:Array Value} {R:Ending→World→Prop} (h:Calls P f args w R):CallsIn (FR rd) n P f args w R:=(callsIn_wide (n:=n)).2 h
theorem calls_FR {n:Nat} {f:FuncId} {args:Array Value} {R:Ending→World→Prop} (h:CallsIn (FR none) n P f args w R):Calls P f args w R:=(callsIn_wide (n:=n)).1 h
theorem rowsIn_FR {n:Nat} {row:String} {args:Array Value} {R:Value→World→Prop} (h:Rows P row args w R):RowsIn (FR rd) n P row args w R:=
 fun c cs _=>let ⟨v,w',h1,h2⟩:=h c cs;⟨v,w',h1,stepsIn_wide.2 h2⟩
def noDefer (o:Oper):Bool:=match o.op with|.defer _=>false|_=>true
theorem noDefer.ne {o:Oper} (h:noDefer o=true):∀c,o.op≠.defer c:=by
 intro c e;unfold noDefer at h;rw[e]at h;cases h
theorem wpIn_of_wp {o:Oper} {K:Act→World→Prop} {Q:Exit→Act→World→Prop} (hd:∀c,o.op≠.defer c) (h:o.wp P a w K Q):o.wpIn (FR rd) 0 P a w K Q:=by
 refine⟨fun _ _=>trivial,?_⟩
 rw[Oper.semAt_eq _ _ _ hd]
 unfold Oper.wp at h
 generalize (execOp a.eval o).run P w=res at h
 cases res with
 |ok x w'=>
  cases x<;>simp only[Oper.upon,Oper.uponIn]at h⊢<;>
   first
    |exact h
    |exact⟨(fun h=>by cases h),callsIn_FR h⟩
    |exact⟨(fun h=>by cases h),rowsIn_FR h⟩
 |halt x w'=>cases x<;>simp only[Oper.upon,Oper.uponIn]at h⊢<;>exact h
theorem wpAnyIn_of {ops:Array Oper} {Q:Exit→Act→World→Prop} (hnd:∀o∈ops,noDefer o=true) (hq:¬LetsOut Q):∀(fuel:Nat) (listed:Array Bool) (a:Act) (w:World),wpAny P .any ops Q fuel listed a w→wpAnyIn (FR rd) 0 P .any ops Q fuel listed a w
 |0,listed,a,w,h=>h
 |fuel+1,listed,a,w,h=>by
  refine⟨h.1,fun i hi=>?_⟩
  have h2:=h.2 i hi
  have ih:=fun a w=>wpAnyIn_of hnd hq fuel (listed.setIfInBounds i true) a w
  unfold wpOp at h2
  unfold wpOpIn
  cases ho:ops[i]? with
  |none=>rw[ho]at h2;exact ih _ _ h2
  |some o=>
   rw[ho]at h2
   simp only at h2⊢
   split
   ·rename_i hw
    rw[if_pos hw]at h2
    rcases h2 with h2|h2
    ·exact wpIn_of_wp (noDefer.ne (hnd o (Array.mem_of_getElem? ho))) (Oper.wp_mono ih h2)
    ·exact(hq h2.2).elim
   ·rename_i hw
    rw[if_neg hw]at h2
    exact⟨fun _ _=>trivial,ih _ _ h2⟩
abbrev Hd:=Nat→List AV→(Bool→St→Prop)→St→Prop
def noH:Hd:=fun _ _ _ _=>False
def HSound (P:Program) (E:Env) (H:Hd):Prop:=∀(n:Nat) (args:List AV) (k:Bool→St→Prop) (st:St) (m:Nm) (a:Act) (w:World) (b:Nat) (vs:Array Value),H n args k st→SimF E st m a w→m n=some (.blk b)→vs.size=args.length→
  (∀(j:Nat) (y:AV) (u:Value),args[j]? =some y→vs[j]? =some u→VRep m (seen w (st.X m E.Y)) y u)→
  ∃fn tmps assign body,(Instr.yield b vs).run P w=.ok (.round b fn tmps assign body) w∧
   RoundIn (FR none) 0 P b fn tmps assign body w fun e w'=>∃t st' m',e=.returned (.bool t)∧k t st'∧SimF E st' m' a w'
theorem noH_sound:HSound P E noH:=fun _ _ _ _ _ _ _ _ _ h=>h.elim
def cfOpH (P:Program) (H:Hd) (o:Oper) (k:St→Prop) (st:St):Prop:=
 match o.op with
 |.call c=>match c.callee with
  |.value f=>match st.ev f with
   |.yld n=>H n (c.args.toList.map st.ev) (fun b st'=>k (st'.put o.dst (.bool b))) st
   |_=>cfOp P o k st
  |_=>cfOp P o k st
 |_=>cfOp P o k st
theorem cfOp_noDefer {o:Oper} {k:St→Prop} (h:cfOp P o k st):∀c,o.op≠.defer c:=by
 intro c e
 unfold cfOp at h
 rw[e]at h
 have:aVal P st (.defer c)=none:=rfl
 simp only[this]at h
theorem cfG_noDefer {o:Oper} {c:Bool} {k:St→Prop} (hc:c=true) (h:cfG P o c k st):∀c,o.op≠.defer c:=by
 intro c' e
 subst hc
 unfold cfG at h
 rw[e]at h
 have:aVal P {st with grd:=some true} (.defer c')=none:=rfl
 simp only[this]at h
 rcases h with h|h
 ·cases h.1
 ·exact cfOp_noDefer h.2 _ e
theorem yld_inv {m:Nm} {c:Addr→Value→Prop} {n:Nat} {v:Value} (h:VRep m c (.yld n) v):∃b,m n=some (.blk b)∧v=.func (.yield b) #[] #[]:=by
 cases h with|yld hm=>exact⟨_,hm,rfl⟩
theorem cfOpH_sound {H:Hd} (hH:HSound P E H) {o:Oper} {k:St→Prop} {K:Act→World→Prop} {Q:Exit→Act→World→Prop} (h:SimF E st m a w) (hc:cfOpH P H o k st)
  (hk:∀st' m' a' w',k st'→SimF E st' m' a' w'→K a' w'):o.wpIn (FR rd) 0 P a w K Q:=by
 have base:cfOp P o k st→o.wpIn (FR rd) 0 P a w K Q:=fun hc=>wpIn_of_wp (cfOp_noDefer hc) (cfOp_sound h hc hk)
 unfold cfOpH at hc
 split at hc
 ·rename_i c ho
  split at hc
  ·rename_i f hf
   split at hc
   ·rename_i n hfe
    have hx:=ev_rep h.get f
    rw[hfe]at hx
    obtain⟨b,hm,hv⟩:=yld_inv hx
    obtain⟨hsz,hvs⟩:=args_rep h.get c.args (cap:=[]) (vs:=#[]) rfl (fun j y u h1=>by simp at h1)
    simp only[Array.append_empty,List.append_nil]at hsz hvs
    obtain⟨fn,tmps,assign,body,hrun,hround⟩:=hH n _ _ st m a w b _ hc h hm hsz hvs
    refine⟨fun _ _=>trivial,?_⟩
    rw[Oper.semAt_eq _ _ _ (by rw[ho];intro c e;cases e)]
    have hex:(execOp a.eval o).run P w=.ok (.round b fn tmps assign body) w:=by
     simp only[execOp,ho,resolve,hf,Sem.run_bind,hv,Deferred.ofValue,Sem.run_pure,Result.andThen_ok,invoke,Array.empty_append,Array.append_empty]
     exact hrun
    rw[hex,Oper.uponIn_round]
    refine⟨(fun h=>by cases h),RoundIn.mono (show RoundIn (FR rd) 0 P b fn tmps assign body w _ from hround) ?_⟩
    rintro e w' ⟨t,st',m',rfl,hk',hs⟩
    exact hk _ _ _ _ hk' (hs.put o.dst (.im .sc))
   ·exact base hc
  ·exact base hc
 ·exact base hc
def uncF:List (Nat×AV)→List (Nat×AV)
 |[]=>[]
 |(t,x)::f=>(t,x.strip true)::uncF f
def St.unc (st:St):St:={st with fr:=uncF st.fr}
theorem look_unc:∀(f:List (Nat×AV)) (s:Nat) (y:AV),look (uncF f) s=some y→∃x,look f s=some x∧y=x.strip true
 |[],s,y,h=>by cases h
 |(t,x)::f,s,y,h=>by
  simp only[uncF,look]at h⊢
  split at h
  ·rename_i e;cases h;exact⟨x,by rw[if_pos e],rfl⟩
  ·rename_i e
   obtain⟨x',h1,h2⟩:=look_unc f s y h
   exact⟨x',by rw[if_neg e];exact h1,h2⟩
theorem SimF.unc (h:SimF E st m a w):SimF E st.unc m a w:=by
 refine{h with fr:=fun s y hy=>?_}
 obtain⟨x,hx,rfl⟩:=look_unc _ _ _ hy
 have h1:=get_rep (st:={st with grd:=some true}) (fun _ e=>by cases e;rfl) h.fr s
 have h2:St.get {st with grd:=some true} s=x.strip true:=by
  show((look st.fr s).getD .undef).strip true=_
  rw[hx];rfl
 rw[h2]at h1
 exact h1
def cfGH (P:Program) (H:Hd) (o:Oper) (c:Bool) (k:St→Prop) (st:St):Prop:=
 match o.op with
 |.buildSlice _ _ _=>(c=true→cfOp P o k st.unc)∧(c=false→k (st.put o.dst (.cond false .undef)))
 |.call cl=>match cl.callee with
  |.value f=>match ({st with grd:=some c}:St).ev f with
   |.yld n=>(c=true→H n (cl.args.toList.map ({st with grd:=some c}:St).ev) (fun b st'=>k (st'.put o.dst (.cond c (.bool b)))) st)∧(c=false→k (st.put o.dst (.cond c (.bool false))))
   |_=>cfG P o c k st
  |_=>cfG P o c k st
 |_=>cfG P o c k st
theorem cfGH_sound {H:Hd} (hH:HSound P E H) {o:Oper} {c:Bool} {k:St→Prop} {K:Act→World→Prop} {Q:Exit→Act→World→Prop} (h:SimF E st m a w) (hcf:cfGH P H o c k st)
  (hk:∀st' m' a' w',k st'→SimF E st' m' a' w'→K a' w'):(c=true→o.wpIn (FR rd) 0 P a w K Q)∧(c=false→K (a.put o.dst Go.undef) w):=by
 have base:cfG P o c k st→(c=true→o.wpIn (FR rd) 0 P a w K Q)∧(c=false→K (a.put o.dst Go.undef) w):=fun hc=>by
  obtain⟨h1,h2⟩:=cfG_sound (Q:=Q) h hc hk
  exact⟨fun e=>wpIn_of_wp (cfG_noDefer e hc) (h1 e),h2⟩
 unfold cfGH at hcf
 split at hcf
 ·refine⟨fun hc=>?_,fun hc=>hk _ _ _ _ (hcf.2 hc) (h.put o.dst (.cond (fun h0=>by cases h0) (fun _=>rfl)))⟩
  have hcf:=hcf.1 hc
  exact wpIn_of_wp (cfOp_noDefer hcf) (cfOp_sound h.unc hcf hk)
 ·rename_i cl ho
  split at hcf
  ·rename_i f hf
   split at hcf
   ·rename_i n hfe
    refine⟨fun hc=>?_,fun hc=>hk _ _ _ _ (hcf.2 hc) (h.put o.dst (.cond (fun h0=>by rw[hc]at h0;cases h0) (fun _=>rfl)))⟩
    have hcf:=hcf.1 hc
    have hget:=get_rep (st:={st with grd:=some c}) (fun _ e=>by cases e;exact hc) h.fr
    have hx:=ev_rep hget f
    rw[hfe]at hx
    obtain⟨b,hm,hv⟩:=yld_inv hx
    obtain⟨hsz,hvs⟩:=args_rep (Y:=E.Y) (st:={st with grd:=some c}) hget cl.args (cap:=[]) (vs:=#[]) rfl (fun j y u h1=>by simp at h1)
    simp only[Array.append_empty,List.append_nil]at hsz hvs
    obtain⟨fn,tmps,assign,body,hrun,hround⟩:=hH n _ _ st m a w b _ hcf h hm hsz hvs
    refine⟨fun _ _=>trivial,?_⟩
    rw[Oper.semAt_eq _ _ _ (by rw[ho];intro c e;cases e)]
    have hex:(execOp a.eval o).run P w=.ok (.round b fn tmps assign body) w:=by
     simp only[execOp,ho,resolve,hf,Sem.run_bind,hv,Deferred.ofValue,Sem.run_pure,Result.andThen_ok,invoke,Array.empty_append,Array.append_empty]
     exact hrun
    rw[hex,Oper.uponIn_round]
    refine⟨(fun h=>by cases h),RoundIn.mono (show RoundIn (FR rd) 0 P b fn tmps assign body w _ from hround) ?_⟩
    rintro e w' ⟨t,st',m',rfl,hk',hs⟩
    exact hk _ _ _ _ hk' (hs.put o.dst (.cond (fun _=>.im .sc) (fun h0=>by rw[hc]at h0;cases h0)))
   ·exact base hcf
  ·exact base hcf
 ·exact base hcf
def cfOpsH (P:Program) (H:Hd) (ops:List Oper):List Oper→(St→Prop)→St→Prop
 |[],k,st=>k st
 |o::rest,k,st=>match o.guard with
  |none=>cfOpH P H o (cfOpsH P H ops rest k) st
  |some (j,want)=>match (ops[j]?).bind (·.dst)with
   |none=>False
   |some g=>match guardOf (st.raw g) want with
    |some c=>cfGH P H o c (cfOpsH P H ops rest k) st
    |none=>False
theorem cfOpsH_sound {H:Hd} (hH:HSound P E H) {ops:Array Oper} {k:St→Prop} {Q:Exit→Act→World→Prop} (hk:∀st' m' a' w',k st'→SimF E st' m' a' w'→Q .normal a' w'):
  ∀(l:List Oper) (st:St) (m:Nm) (a:Act) (w:World),SimF E st m a w→cfOpsH P H ops.toList l k st→wpListIn (FR rd) 0 P ops Q l a w
 |[],st,m,a,w,h,hc=>hk st m a w hc h
 |o::rest,st,m,a,w,h,hc=>by
  have ih:=fun(st:St) (m:Nm) (a:Act) (w:World) (h:SimF E st m a w) (hc:cfOpsH P H ops.toList rest k st)=>cfOpsH_sound hH hk rest st m a w h hc
  simp only[cfOpsH]at hc
  unfold wpListIn
  split at hc
  ·rename_i hgd
   rw[if_pos (by simp[Region.wanted,hgd])]
   exact cfOpH_sound hH h hc fun st' m' a' w' hk' hs=>ih st' m' a' w' hs hk'
  ·rename_i j want hgd
   split at hc
   ·cases hc
   ·rename_i g hg
    split at hc
    ·rename_i c hgo
     obtain⟨h1,h2⟩:=cfGH_sound (rd:=rd) (Q:=Q) hH h hc fun st' m' a' w' hk' hs=>ih st' m' a' w' hs hk'
     have hw:=wanted_guard h hgd hg hgo
     rw[hw]
     cases c
     ·exact⟨fun _ _=>trivial,h2 rfl⟩
     ·exact h1 rfl
    ·cases hc
theorem SimF.frame (h:SimF E st m a w) {fr:List (Nat×AV)} {a2:Act} {sz:Nat} {nd:Bool} (h1:a2.tmps.size=sz) (h2:∀s y,look fr s=some y→VRep m (seen w (st.X m E.Y)) y (a2.tmps.getD s Go.undef))
  (h3:∀d,d∈a2.defers→∃b,d=mark b∧seen w (st.X m E.Y) ⟨b,0,none⟩ dmark) (h4:a2.defers.Nodup) (h5:∀b,mark b∈a2.defers→E.w0.heap.size≤b) (h6:nd=true→a2.defers=[]):
  SimF {E with sz:=sz,nodf:=nd} {st with fr:=fr,size:=sz} m a2 w where
 objs:=h.objs
 apart:=h.apart
 foreign:=h.foreign
 fresh:=h.fresh
 defers:=h3
 size:=h1
 fr:=h2
 kept:=h.kept
 mine:=h.mine
 mext:=h.mext
 ylt:=h.ylt
 esz:=rfl
 grd:=h.grd
 dnd:=h4
 dge:=h5
 ndf:=h6
end Go.Am
namespace Go.Am
open Go.RowKit
variable {P:Program} {E:Env} {st:St} {m:Nm} {w:World} {a:Act}
inductive Ex where
 |normal
 |exit (id:Nat)
 |ret
def Ex.to:Ex→Exit
 |.normal=>.normal
 |.exit i=>.exit i
 |.ret=>.ret
def Ex.next (k:St→Prop) (K:Ex→St→Prop):Ex→St→Prop
 |.normal,st=>k st
 |e,st=>K e st
def Ex.inBlock (id:Nat) (K:Ex→St→Prop):Ex→St→Prop
 |.exit i,st=>if i=id then K .normal st else K (.exit i) st
 |e,st=>K e st
def LoopK (nin:Nat) (body:(Ex→St→Prop)→St→Prop) (K:Ex→St→Prop) (st:St):Prop:=
 ∃(G:Type) (mk:G→St) (R:G→Prop) (μ:G→Nat) (g0:G) (ns:List NilAt) (rs:List Nat),R g0∧Entails nin (st.nils ns) (mk g0) rs∧
  ∀g,R g→body (Ex.next (fun st'=>∃g' ns' rs',R g'∧μ g'<μ g∧Entails nin (St.nils st' ns') (mk g') rs') K) (mk g)
def cfCond (x:AV) (A B:Prop):Prop:=
 match x with
 |.im (.sc (.bool t))=>(t=true→A)∧(t=false→B)
 |_=>False
inductive Rg where
 |n (k:Nat)
 |m (cs:List RC)
def rgOf (q:List (Nat×Rg)) (id:Nat):Rg:=(look q id).getD (.n 0)
def drawB (ops:List Oper) (n:Nat):Rg→Bool
 |.n nq=>shapeB ops (ancs [] ops) n nq
 |.m cs=>shapeB ops (ancs [] ops) n cs.length&&codeB ops (ancs [] ops) cs
def drawK (P:Program) (ops:List Oper) (k:St→Prop) (st:St):Rg→Prop
 |.n nq=>cfQs P ops nq ops k st
 |.m cs=>cfR P ops k st.next cs ops [] [] [] {st with next:=st.next+nA cs}
def shapes (q:List (Nat×Rg)) (n:Nat):Code→Bool
 |.seq a b=>shapes q n a&&shapes q n b
 |.cond _ a b=>shapes q n a&&shapes q n b
 |.block _ c=>shapes q n c
 |.loop c=>shapes q n c
 |.region id ops true=>drawB ops.toList n (rgOf q id)&&ops.toList.all noDefer
 |.rangeFunc _ _ a b=>shapes q n a&&shapes q n b
 |_=>true
abbrev Rc:=FuncId→List AV→Hd→(St→Prop)→St→Prop
def putL (sz:Nat):List Tmp→List AV→List (Nat×AV)→List (Nat×AV)
 |p::ps,x::xs,f=>putL sz ps xs ((p,if p<sz then x else .undef)::f)
 |_,_,f=>f
def Ex.code:Ex→Option Code
 |.normal=>none
 |.exit i=>some (.exit i)
 |.ret=>some .ret
def endRd (a:Act) (b:Nat) (r:Loop) (szI:Nat) (k:Bool→St→Prop) (e:Ex) (st:St):Prop:=
 ∃n3 frI n2,st.obj n3=some (.sv a frI)∧st.obj n2=some (.lp b r .busy none)∧
  k e.code.isNone {st.setObj n2 (.lp b r (if e.code.isNone then .ready else .done) e.code)with fr:=frI,size:=szI}
def asgK (bd:(Ex→St→Prop)→St→Prop) (a:Act) (b:Nat) (r:Loop) (szI:Nat) (k:Bool→St→Prop) (e:Ex) (st:St):Prop:=
 match e with
 |.normal=>∃n2,st.obj n2=some (.lp b r .ready none)∧bd (endRd a b r szI k) (st.setObj n2 (.lp b r .busy none))
 |_=>False
def rdH (asg bd:(Ex→St→Prop)→St→Prop) (ps:List Tmp) (a0:Act) (b:Nat) (r:Loop) (sz:Nat):Hd:=fun n args k st=>
 ∃n1 fr0,st.obj n1=some (.sv a0 fr0)∧st.obj n=some (.lp b r .ready none)∧args.length=ps.length∧
  ∀aI:Act,asg (asgK bd aI b r st.size k) {fr:=putL sz ps args fr0,objs:=(st.next,.sv aI st.fr)::st.objs,next:=st.next+1,size:=sz,grd:=none}
def pendK (K:Ex→St→Prop) (p:Option Code) (st:St):Prop:=
 match p with
 |none=>K .normal st
 |some .ret=>K .ret st
 |some (.exit i)=>K (.exit i) st
 |_=>False
def doneK (a0:Act) (b:Nat) (r:Loop) (sz:Nat) (K:Ex→St→Prop) (st:St):Prop:=
 ∃n1 fr0 n2 s p,st.obj n1=some (.sv a0 fr0)∧st.obj n2=some (.lp b r s p)∧(s=.ready∨s=.done)∧pendK K p {st.setObj n2 (.lp b r .exhausted p)with fr:=fr0,size:=sz}
def rangeK (R:Rc) (asg:(Ex→St→Prop)→St→Prop) (bd:Nat→(Ex→St→Prop)→St→Prop) (f:Operand) (ps:List Tmp) (K:Ex→St→Prop) (st:St):Prop:=
 match st.ev f with
 |.fn g cap=>∀(a0:Act) (b:Nat) (r:Loop),R g (.yld (st.next+1)::cap) (rdH asg (bd b) ps a0 b r st.size) (doneK a0 b r st.size K)
   {fr:=[],objs:=(st.next+1,.lp b r .ready none)::(st.next,.sv a0 st.fr)::st.objs,next:=st.next+2,size:=0,grd:=none}
 |_=>False
def rangeI (l:Nat) (R:Rc) (asg:(Ex→St→Prop)→St→Prop) (bd:Nat→(Ex→St→Prop)→St→Prop) (f:Operand) (ps:List Tmp) (K:Ex→St→Prop) (st:St):Prop:=
 (∃n0 r0 s p,st.obj n0=some (.lp l r0 s p))∧rangeK R asg bd f ps K st
inductive Rx where
 |no
 |out (R:Rc)
 |inn (l:Nat) (R:Rc)
def cf (P:Program) (H:Hd) (q:List (Nat×Rg)) (nin:Nat):Code→Rx→(Ex→St→Prop)→St→Prop
 |.skip,_,K,st=>K .normal st
 |.seq a b,R,K,st=>cf P H q nin a R (Ex.next (cf P H q nin b R K) K) st
 |.cond c a b,R,K,st=>cfCond (st.ev c) (cf P H q nin a R K st) (cf P H q nin b R K st)
 |.block id c,R,K,st=>cf P H q nin c R (Ex.inBlock id K) st
 |.loop c,R,K,st=>LoopK nin (cf P H q nin c R) K st
 |.exit i,_,K,st=>K (.exit i) st
 |.ret,_,K,st=>K .ret st
 |.region _ ops false,_,K,st=>cfOpsH P H ops.toList ops.toList (K .normal) st
 |.region id ops true,_,K,st=>drawK P ops.toList (K .normal) st (rgOf q id)
 |.rangeFunc f ps asg bd,.out R,K,st=>rangeK R (cf P H q nin asg .no) (fun b=>cf P H q nin bd (.inn b R)) f ps.toList K st
 |.rangeFunc f ps asg bd,.inn l R,K,st=>rangeI l R (cf P H q nin asg .no) (fun b=>cf P H q nin bd (.inn b R)) f ps.toList K st
 |_,_,_,_=>False
def RSound (P:Program) (nin:Nat) (R:Rc):Prop:=∀(E:Env) (g:FuncId) (args:List AV) (H:Hd) (k:St→Prop) (st:St) (m:Nm) (w:World) (vs:Array Value),R g args H k st→(∀n l,E.m0 n=some l→n<nin)→(∀szI,HSound P {E with sz:=szI,nodf:=true} H)→
 SimF {E with sz:=0,nodf:=true} st m {tmps:=#[],defers:=[]} w→vs.size=args.length→(∀(j:Nat) (y:AV) (u:Value),args[j]? =some y→vs[j]? =some u→VRep m (seen w (st.X m E.Y)) y u)→
 Enters P g∧CallsIn (FR none) 0 P g vs w fun e w'=>∃v st' m' a',e=.returned v∧k st'∧SimF {E with sz:=st'.size,nodf:=true} st' m' a' w'
theorem putL_fr {c:Addr→Value→Prop} {sz:Nat}:∀(ps:List Tmp) (xs:List AV) (fr:List (Nat×AV)) (tm:Array Value) (vs:List Value),tm.size=sz→ps.length=xs.length→vs.length=xs.length→
  (∀s y,look fr s=some y→VRep m c y (tm.getD s Go.undef))→(∀(j:Nat) (y:AV) (u:Value),xs[j]? =some y→vs[j]? =some u→VRep m c y u)→
  ((ps.zip vs).foldl (fun t (p:Tmp×Value)=>t.setIfInBounds p.1 p.2) tm).size=sz∧
  ∀s y,look (putL sz ps xs fr) s=some y→VRep m c y (((ps.zip vs).foldl (fun t (p:Tmp×Value)=>t.setIfInBounds p.1 p.2) tm).getD s Go.undef)
 |[],[],fr,tm,[],h1,_,_,h3,_=>⟨h1,h3⟩
 |p::ps,x::xs,fr,tm,v::vs,h1,h2,h2',h3,h4=>by
  simp only[List.zip_cons_cons,List.foldl_cons,putL]
  refine putL_fr ps xs _ (tm.setIfInBounds p v) vs (by simp[h1]) (by simpa using h2) (by simpa using h2') ?_ (fun j y u g1 g2=>h4 (j+1) y u (by simpa using g1) (by simpa using g2))
  have:=fr_put (st:={fr:=fr,objs:=[],next:=0,size:=sz}) (a:={tmps:=tm,defers:=[]}) (c:=c) (m:=m) h1 h3 (some p) (h4 0 x v rfl rfl)
  exact this
 |[],_::_,_,_,_,_,h,_,_,_=>by cases h
 |_::_,[],_,_,_,_,h,_,_,_=>by cases h
 |[],[],_,_,_::_,_,_,h,_,_=>by cases h
 |_::_,_::_,_,_,[],_,_,h,_,_=>by cases h
theorem lp_upd {n b:Nat} {r:Loop} {s s':LoopState} {p p':Option Code} (h:SimF E st m a w) (hn:st.obj n=some (.lp b r s p)):
  m n=some (.blk b)∧w.heap[b]? =some (.loop {r with state:=s,pending:=p})∧SimF E (st.setObj n (.lp b r s' p')) m a (w.putObj b (.loop {r with state:=s',pending:=p'})):=by
 obtain⟨l,hl,rfl,hh⟩:=h.objs n _ hn
 refine⟨hl,hh,?_⟩
 have hb:=(Array.getElem?_eq_some_iff.1 hh).1
 have hg:w.grownBy (w.putObj b (.loop {r with state:=s',pending:=p'})) (some b):=⟨rfl,rfl,rfl,by simp,fun k hk hne=>World.putObj_heap_other (fun e=>hne (by rw[e]))⟩
 exact h.upd hn rfl hl rfl hg (.lp b r s' p') rfl ⟨rfl,World.putObj_heap_same hb⟩
theorem sv_get {n:Nat} {a0:Act} {fr0:List (Nat×AV)} (h:SimF E st m a w) (hn:st.obj n=some (.sv a0 fr0)):
  (∀d,d∈a0.defers→∃b,d=mark b∧seen w (st.X m E.Y) ⟨b,0,none⟩ dmark)∧∀s y,look fr0 s=some y→VRep m (seen w (st.X m E.Y)) y (a0.tmps.getD s Go.undef):=by
 obtain⟨l,hl,_,h1,h2⟩:=h.objs n _ hn
 exact⟨h1,h2⟩
theorem foldl_zip (ps:Array Tmp) (vs tm:Array Value):(ps.zip vs).foldl (fun t (p:Tmp×Value)=>t.setIfInBounds p.1 p.2) tm=(ps.toList.zip vs.toList).foldl (fun t (p:Tmp×Value)=>t.setIfInBounds p.1 p.2) tm:=by
 rw[←Array.foldl_toList,Array.toList_zip]
def RxOk (P:Program) (E:Env) (nin:Nat) (rd:Option Nat):Rx→Prop
 |.no=>True
 |.out R=>RSound P nin R∧E.nodf=false∧rd=none
 |.inn l R=>RSound P nin R∧E.nodf=false∧rd=some l
theorem cf_sound {q:List (Nat×Rg)} {nin:Nat} (hP:P.follows .mixedOrders=true) (hin:∀n l,E.m0 n=some l→n<nin) {H:Hd} (hH:HSound P E H):∀(c:Code),shapes q E.sz c=true→∀{rd:Option Nat} {R:Rx},RxOk P E nin rd R→
  ∀{K:Ex→St→Prop} {Q:Exit→Act→World→Prop},
  (∀e st' m' a' w',K e st'→SimF E st' m' a' w'→Q e.to a' w')→∀{st:St} {m:Nm} {a:Act} {w:World},SimF E st m a w→cf P H q nin c R K st→c.wpIn (FR rd) 0 P Q a w:=by
 intro c
 induction c with
 |skip=>intro hsh rd R hR K Q hk st m a w h hc;exact wpIn_skip (hk .normal _ _ _ _ hc h)
 |seq x y ihx ihy=>
  intro hsh rd R hR K Q hk st m a w h hc
  simp only[shapes,Bool.and_eq_true]at hsh
  replace ihx:=@ihx hsh.1
  replace ihy:=@ihy hsh.2
  refine wpIn_seq (ihx hR (K:=Ex.next (cf P H q nin y R K) K) ?_ h hc)
  intro e st' m' a' w' he hs
  cases e with
  |normal=>exact ihy hR hk hs he
  |exit i=>exact hk (.exit i) _ _ _ _ he hs
  |ret=>exact hk .ret _ _ _ _ he hs
 |cond c x y ihx ihy=>
  intro hsh rd R hR K Q hk st m a w h hc
  simp only[shapes,Bool.and_eq_true]at hsh
  replace ihx:=@ihx hsh.1
  replace ihy:=@ihy hsh.2
  simp only[cf,cfCond]at hc
  split at hc
  ·rename_i t ht
   have hx:=ev_rep h.get c
   rw[ht]at hx
   refine wpIn_cond_split hx.sc_inv (fun e=>ihx hR hk h (hc.1 e)) (fun e=>ihy hR hk h (hc.2 e))
  ·cases hc
 |block id c ih=>
  intro hsh rd R hR K Q hk st m a w h hc
  replace ih:=@ih hsh
  refine wpIn_block (ih hR (K:=Ex.inBlock id K) ?_ h hc)
  intro e st' m' a' w' he hs
  cases e with
  |normal=>exact hk .normal _ _ _ _ he hs
  |exit i=>
   simp only[Ex.inBlock]at he
   simp only[Ex.to,Exit.inBlock]
   split at he
   ·rename_i e;rw[if_pos e];exact hk .normal _ _ _ _ he hs
   ·rename_i e;rw[if_neg e];exact hk (.exit i) _ _ _ _ he hs
  |ret=>exact hk .ret _ _ _ _ he hs
 |loop c ih=>
  intro hsh rd R hR K Q hk st m a w h hc
  replace ih:=@ih hsh
  obtain⟨G,mk,RR,μ,g0,ns,rs,hRR,hE,hround⟩:=hc
  intro b k cs hro hb hr
  have key:∀j (a:Act) (w:World) g m,RR g→μ g=j→SimF E (mk g) m a w→∃e a' w',Q e a' w'∧ArrivesIn (Machine.fenced P (FR rd)) P (lone (b.atR a (.code c::.inLoop c::k)) cs w) b k cs e a' w':=by
   intro j
   induction j using Nat.strongRecOn with
   |_ j ihj=>
    intro a w g m hg hj hs
    have:=ih hR (K:=Ex.next (fun st'=>∃g' ns' rs',RR g'∧μ g'<μ g∧Entails nin (St.nils st' ns') (mk g') rs') K) (Q:=Exit.then (fun a' w'=>∃g' m',RR g'∧μ g'<μ g∧SimF E (mk g') m' a' w') Q) (by
     intro e st' m' a' w' he hs'
     cases e with
     |normal=>
      obtain⟨g',ns',rs',h1,h2,h3⟩:=he
      obtain⟨m2,hs2,_⟩:=SimF.nils ns' hs'
      exact⟨g',_,h1,h2,hs2.entails h3 hin⟩
     |exit i=>exact hk (.exit i) _ _ _ _ he hs'
     |ret=>exact hk .ret _ _ _ _ he hs') hs (hround g hg)
    obtain⟨e,a₁,w₁,hq,harr⟩:=this b (.inLoop c::k) cs hro hb hr
    cases e with
    |normal=>
     obtain⟨g',m',h1,h2,h3⟩:=hq
     obtain⟨e₂,a₂,w₂,hq₂,harr₂⟩:=ihj (μ g') (hj▸h2) a₁ w₁ g' m' h1 rfl h3
     exact⟨e₂,a₂,w₂,hq₂,.of_steps (StepsIn.trans harr (.one (fenced_calm hb hr rfl) stepR_inLoop)) harr₂⟩
    |exit id=>exact⟨_,a₁,w₁,hq,.pass (x:=.inLoop c) rfl (fun _ _=>.inl (by simp)) harr⟩
    |goto l=>exact⟨_,a₁,w₁,hq,.pass (x:=.inLoop c) rfl (fun _ _=>.inl (by simp)) harr⟩
    |ret=>exact⟨_,a₁,w₁,hq,.pass (x:=.inLoop c) rfl (fun _ _=>.inl (by simp)) harr⟩
    |panic ch=>exact⟨_,a₁,w₁,hq,.pass (x:=.inLoop c) rfl (fun _ _=>.inl (by simp)) harr⟩
    |outgrown=>exact⟨_,a₁,w₁,hq,.pass (x:=.inLoop c) rfl (fun _ _=>.inl (by simp)) harr⟩
  obtain⟨m0,h0,_⟩:=SimF.nils ns h
  obtain⟨e,a',w',hq,harr⟩:=key _ a w g0 _ hRR rfl (h0.entails hE hin)
  exact⟨e,a',w',hq,.of_steps (.one (fenced_calm hb hr rfl) stepR_loop) harr⟩
 |exit i=>intro hsh rd R hR K Q hk st m a w h hc;exact wpIn_exit (hk (.exit i) _ _ _ _ hc h)
 |ret=>intro hsh rd R hR K Q hk st m a w h hc;exact wpIn_ret (hk .ret _ _ _ _ hc h)
 |region id ops draw=>
  intro hsh rd R hR K Q hk st m a w h hc
  cases draw with
  |false=>exact wpIn_region_list (cfOpsH_sound hH (k:=K .normal) (fun st' m' a' w' hk' hs=>hk .normal _ _ _ _ hk' hs) ops.toList st m a w h hc)
  |true=>
   simp only[shapes,Bool.and_eq_true]at hsh
   have hd:∀rg,drawB ops.toList E.sz rg=true→drawK P ops.toList (K .normal) st rg→wpAny P .any ops (fun e a' w'=>e=.normal∧Q .normal a' w') ops.size (Array.replicate ops.size false) a {w with drawn:=w.drawn+1}:=by
    intro rg hB hc
    cases rg with
    |n nq=>exact cfQs_sound (k:=K .normal) hP (by rw[h.esz];exact hB) h hc (fun st' m' a' w' hk' hs=>⟨rfl,hk .normal _ _ _ _ hk' hs⟩)
    |m cs=>
     simp only[drawB,Bool.and_eq_true]at hB
     exact cfR_sound (k:=K .normal) (by rw[h.esz];exact hB.1) hB.2 h hc (fun st' m' a' w' hk' hs=>⟨rfl,hk .normal _ _ _ _ hk' hs⟩)
   refine wpIn_mono (Q:=fun e a' w'=>e=.normal∧Q .normal a' w') (wpIn_region_any hP (wpAnyIn_of ?_ ?_ _ _ _ _ (hd _ hsh.1 hc))) ?_
   ·intro o ho;exact List.all_eq_true.1 hsh.2 o (by simpa using ho)
   ·rintro⟨a,w,e,_⟩;cases e
   ·rintro e a w ⟨rfl,hq⟩;exact hq
 |rangeFunc f ps asg bd iha ihb=>
  intro hsh rd R hR K Q hk st m a w h hc
  simp only[shapes,Bool.and_eq_true]at hsh
  replace iha:=@iha hsh.1
  replace ihb:=@ihb hsh.2
  obtain⟨R0,hRS,hnd,hK,hin0⟩:∃R0,RSound P nin R0∧E.nodf=false∧rangeK R0 (cf P H q nin asg .no) (fun b=>cf P H q nin bd (.inn b R0)) f ps.toList K st∧(rd=none∨∃l n0 r1 s p,rd=some l∧st.obj n0=some (.lp l r1 s p)):=by
   cases R with
   |no=>simp only[cf]at hc
   |out R=>
    obtain⟨h1,h2,h3⟩:=hR
    exact⟨R,h1,h2,hc,.inl h3⟩
   |inn l R=>
    obtain⟨h1,h2,h3⟩:=hR
    obtain⟨⟨n0,r1,s,p,hn0⟩,hc⟩:=hc
    exact⟨R,h1,h2,hc,.inr ⟨l,n0,r1,s,p,h3,hn0⟩⟩
  clear hc hR
  have hc:=hK
  clear hK
  simp only[rangeK]at hc
  split at hc
  ·rename_i g cap hfe
   have hx:=ev_rep h.get f
   rw[hfe]at hx
   obtain⟨cvs,hv,hl,hr⟩:=fn_inv hx
   refine wpIn_rangeFunc ?_
   intro fn _
   have hmk:∀b,mark b∈a.defers→b<w.heap.size:=by
    intro b hb
    obtain⟨b',e,hs⟩:=h.defers _ hb
    have:b=b':=by injection e with e1;injection e1
    subst this
    exact(Array.getElem?_eq_some_iff.1 hs.mark).1
   have hmi:∀b b',mark b=mark b'→b=b':=by intro b b' e;injection e with e1;injection e1
   have hX0:¬st.X m E.Y w.heap.size:=by
    rintro(hx|hx)
    ·have:=h.owned_lt hx;omega
    ·have:=h.ylt _ hx;have:=h.kept.size;omega
   obtain⟨wL,mk,dd,g1,hw1,hle1,hrun,hmks,hnodup,hge⟩:∃(wL:World) (mk:List Deferred) (dd:Nat),SimF E st m a wL∧(∀b,b<w.heap.size→wL.heap[b]? =w.heap[b]?)∧w.heap.size≤wL.heap.size∧
     ((Instr.enterLoop fn a.tmps ps asg bd rd).run P w=.ok (wL.heap.size,mk) (wL.alloc (.loop {state:=.ready,pending:=none,fn,tmps:=a.tmps,params:=ps,assign:=asg,body:=bd,defers:=dd})))∧
     (∀d∈mk,∃b,d=mark b∧seen wL (st.X m E.Y) ⟨b,0,none⟩ dmark)∧(mk++a.defers).Nodup∧∀b,mark b∈mk++a.defers→E.w0.heap.size≤b:=by
    rcases hin0 with rfl|⟨l,n0,r1,s,p,rfl,hn0⟩
    ·refine⟨w.alloc (.deferred (some [])),[mark w.heap.size],w.heap.size,h.grow (below_alloc1 w (.deferred (some []))),fun b hb=>Below.heap_alloc _ _ b hb,by simp,?_,?_,?_,?_⟩
     ·have:=run_enterLoop_outer (P:=P) (w:=w) fn a.tmps ps asg bd
      rw[World.size_alloc]
      exact this
     ·intro d hd
      rw[List.mem_singleton]at hd
      subst hd
      exact⟨_,rfl,.inr ⟨rfl,heap_alloc_new w _⟩,hX0⟩
     ·rw[List.singleton_append,List.nodup_cons]
      exact⟨fun hm=>by have:=hmk _ hm;omega,h.dnd⟩
     ·intro b hb
      simp only[List.singleton_append,List.mem_cons]at hb
      rcases hb with hb|hb
      ·rw[hmi _ _ hb];exact h.kept.size
      ·exact h.dge b hb
    ·obtain⟨_,hh,_⟩:=lp_upd (s':=s) (p':=p) h hn0
     refine⟨w,[],_,h,fun _ _=>rfl,Nat.le_refl _,run_enterLoop_inner hh fn a.tmps ps asg bd,by simp,by simpa using h.dnd,by simpa using h.dge⟩
   obtain⟨r0,hr0⟩:∃r0:Loop,r0={state:=.ready,pending:=none,fn,tmps:=a.tmps,params:=ps,assign:=asg,body:=bd,defers:=dd}:=⟨_,rfl⟩
   rw[←hr0]at hrun
   obtain⟨a0,ha0⟩:∃a0:Act,a0={a with defers:=mk++a.defers}:=⟨_,rfl⟩
   have hc:=hc a0 wL.heap.size r0
   have hnodup:a0.defers.Nodup:=by rw[ha0];exact hnodup
   have hge:∀b,mark b∈a0.defers→E.w0.heap.size≤b:=by rw[ha0];exact hge
   have htsz:a0.tmps.size=st.size:=by rw[ha0];exact h.size
   have ht0:a0.tmps=a.tmps:=by rw[ha0]
   obtain⟨g2,e2⟩:=g1.new (w':=wL) (Below.refl _ _) (.sv a0 st.fr) (.hdr none 0 0) (fun b hb _=>by cases hb) (fun m' c' hm hc'=>⟨rfl,by
    intro d hd
    rw[ha0]at hd
    rcases List.mem_append.1 hd with hd|hd
    ·obtain⟨b,e,hs⟩:=hmks d hd
     exact⟨b,e,hc' _ _ hs⟩
    ·obtain⟨b,e,hs⟩:=g1.defers d hd
     exact⟨b,e,hc' _ _ hs⟩,fun s y hy=>by rw[ht0];exact(g1.fr s y hy).mono hm hc'⟩)
   obtain⟨g3,e3⟩:=g2.new (below_alloc1 _ (.loop r0)) (.lp (wL.heap.size) r0 .ready none) (.blk (wL.heap.size)) (fun b hb _=>by cases hb;simp) (fun m' c' hm hc'=>⟨rfl,by
    have:=heap_alloc_new wL (.loop r0)
    rw[this,hr0]⟩)
   have g4:=g3.frame (fr:=[]) (a2:={tmps:=#[],defers:=[]}) (sz:=0) (nd:=true) rfl (fun s y hy=>by cases hy) (fun d hd=>by cases hd) List.nodup_nil (fun b hb=>by cases hb) (fun _=>rfl)
   have hgrd:=h.grd
   have hst:({(st.new (.sv a0 st.fr)).new (.lp (wL.heap.size) r0 .ready none)with fr:=[],size:=0}:St)={fr:=[],objs:=(st.next+1,.lp (wL.heap.size) r0 .ready none)::(st.next,.sv a0 st.fr)::st.objs,next:=st.next+2,size:=0,grd:=none}:=by
    simp only[St.new,hgrd]
   rw[hst]at g4
   obtain⟨m3,hm3a,hm3b,hm3c,g4⟩:∃m3:Nm,m3 (st.next+1)=some (.blk (wL.heap.size))∧(∀n,n≠st.next+1→n≠st.next→m3 n=m n)∧(∀n l,m n=some l→m3 n=some l)∧
     SimF {E with sz:=0,nodf:=true} {fr:=[],objs:=(st.next+1,.lp (wL.heap.size) r0 .ready none)::(st.next,.sv a0 st.fr)::st.objs,next:=st.next+2,size:=0,grd:=none} m3 {tmps:=#[],defers:=[]} (wL.alloc (.loop r0)):=
    ⟨_,by simp[St.new],fun n h1 h2=>by simp[St.new,h1,h2],fun n l hn=>e3 n l (e2 n l hn),g4⟩
   have hHR:∀szI,HSound P {E with sz:=szI,nodf:=true} (rdH (cf P H q nin asg .no) (cf P H q nin bd (.inn wL.heap.size R0)) ps.toList a0 (wL.heap.size) r0 st.size):=by
    intro szI n args k st1 m1 a1 w1 b vs hcall hs1 hmn hvsz hvs
    obtain⟨n1,fr0,hn1,hn,hlen,hcall⟩:=hcall
    have hcall:=hcall a1
    obtain⟨hb,hh,_⟩:=lp_upd (s':=.busy) (p':=none) hs1 hn
    rw[hmn]at hb;cases hb
    obtain⟨hd0,hf0⟩:=sv_get hs1 hn1
    have hps:r0.params=ps:=by rw[hr0]
    have hrd:({r0 with state:=.ready,pending:=none}:Loop)=r0:=by rw[hr0]
    rw[hrd]at hh
    refine⟨_,_,_,_,run_yield hh (by rw[hps,hvsz,hlen];simp),?_⟩
    rw[hps]
    have htm:r0.tmps=a.tmps:=by rw[hr0]
    have hasg:r0.assign=asg:=by rw[hr0]
    have hbd:r0.body=bd:=by rw[hr0]
    rw[htm,hasg,hbd]
    obtain⟨p1,p2⟩:=putL_fr (m:=m1) (c:=seen w1 (st1.X m1 E.Y)) (sz:=st.size) ps.toList args fr0 a.tmps vs.toList h.size (by rw[hlen]) (by simp[hvsz]) (by rw[←ht0];exact hf0) (fun j y u k1 k2=>hvs j y u k1 (by simpa using k2))
    have hfold:(Array.foldl (fun tmps x=>match x with|(t,a)=>Array.setIfInBounds tmps t a) a.tmps (ps.zip vs))=(ps.toList.zip vs.toList).foldl (fun t (p:Tmp×Value)=>t.setIfInBounds p.1 p.2) a.tmps:=foldl_zip ps vs a.tmps
    rw[hfold]
    obtain⟨g5,e5⟩:=hs1.new (Below.refl _ w1) (.sv a1 st1.fr) (.hdr none 0 0) (fun b hb _=>by cases hb) (fun m' c' hm hc'=>⟨rfl,fun d hd=>let ⟨b,e,hs⟩:=hs1.defers d hd;⟨b,e,hc' _ _ hs⟩,fun s y hy=>(hs1.fr s y hy).mono hm hc'⟩)
    have hX5:(st1.new (.sv a1 st1.fr)).X (fun n=>if n=st1.next then some (.hdr none 0 0)else m1 n) E.Y=st1.X m1 E.Y∨True:=.inr trivial
    have hown5:∀b,(st1.new (.sv a1 st1.fr)).X (fun n=>if n=st1.next then some (Loc.hdr none 0 0)else m1 n) E.Y b→st1.X m1 E.Y b:=by
     rintro b (⟨n',o,l,k1,k2,k3,k4⟩|hb)
     ·left
      simp only[St.new,St.obj,look]at k1
      split at k1
      ·cases k1;cases k2
      ·rename_i hne
       have k3:(if n'=st1.next then some (Loc.hdr none 0 0)else m1 n')=some l:=k3
       rw[if_neg (fun e=>hne e.symm)]at k3
       exact⟨n',o,l,k1,k2,k3,k4⟩
     ·exact .inr hb
    have hc5:∀p v,seen w1 (st1.X m1 E.Y) p v→seen w1 ((st1.new (.sv a1 st1.fr)).X (fun n=>if n=st1.next then some (Loc.hdr none 0 0)else m1 n) E.Y) p v:=fun p v hs=>⟨hs.1,fun hx=>hs.2 (hown5 _ hx)⟩
    have g6:=g5.frame (fr:=putL st.size ps.toList args fr0) (a2:={tmps:=(ps.toList.zip vs.toList).foldl (fun t (p:Tmp×Value)=>t.setIfInBounds p.1 p.2) a.tmps,defers:=[]}) (sz:=E.sz) (nd:=E.nodf) (by rw[p1];exact h.esz) (fun s y hy=>(p2 s y hy).mono e5 hc5) (fun d hd=>by cases hd) List.nodup_nil (fun b hb=>by cases hb) (fun _=>rfl)
    have hgrd1:st1.grd=none:=hs1.grd
    have hst1:({(st1.new (.sv a1 st1.fr))with fr:=putL st.size ps.toList args fr0,size:=E.sz}:St)={fr:=putL st.size ps.toList args fr0,objs:=(st1.next,.sv a1 st1.fr)::st1.objs,next:=st1.next+1,size:=st.size,grd:=none}:=by
     simp only[St.new,hgrd1,h.esz]
    rw[hst1]at g6
    have hEE:({{E with sz:=szI,nodf:=true}with sz:=E.sz,nodf:=E.nodf}:Env)=E:=rfl
    rw[hEE]at g6
    have back:∀(e:Ex) (st2:St) (m2:Nm) (a2:Act) (w2:World),endRd a1 (wL.heap.size) r0 st1.size k e st2→SimF E st2 m2 a2 w2→
      ∃w3,(Instr.endRound (wL.heap.size) e.code).run P w2=.ok (.bool e.code.isNone) w3∧∃t st' m',Ending.returned (.bool e.code.isNone)=.returned (.bool t)∧k t st'∧SimF {E with sz:=szI,nodf:=true} st' m' a1 w3:=by
     rintro e st2 m2 a2 w2 ⟨n3,frI,n2,k1,k2,k3⟩ hs2
     obtain⟨q1,q2,q3⟩:=lp_upd (s':=if e.code.isNone then .ready else .done) (p':=e.code) hs2 k2
     refine⟨_,run_endRound e.code q2,e.code.isNone,_,m2,rfl,k3,?_⟩
     have k1':(st2.setObj n2 (.lp (wL.heap.size) r0 (if e.code.isNone then .ready else .done) e.code)).obj n3=some (.sv a1 frI):=by
      rw[setObj_obj]
      split
      ·rename_i e';subst e';rw[k1]at k2;cases k2
      ·exact k1
     obtain⟨z1,z2⟩:=sv_get q3 k1'
     have hsz1:st1.size=szI:=hs1.esz
     rw[hsz1]
     exact q3.frame (fr:=frI) (a2:=a1) (sz:=szI) (nd:=true) (by rw[hs1.size];exact hsz1) z2 z1 hs1.dnd hs1.dge hs1.ndf
    refine roundIn_of_wpIn (F:=FR none) trivial ?_
    refine iha (rd:=some (wL.heap.size)) (R:=.no) trivial (K:=asgK (cf P H q nin bd (.inn wL.heap.size R0)) a1 (wL.heap.size) r0 st1.size k) ?_ g6 hcall
    intro e st2 m2 a2 w2 he hs2
    cases e with
    |exit i=>exact he.elim
    |ret=>exact he.elim
    |normal=>
     obtain⟨n2,k1,k2⟩:=he
     obtain⟨q1,q2,q3⟩:=lp_upd (s':=.busy) (p':=none) hs2 k1
     have hbs:({({r0 with state:=.ready,pending:=none}:Loop)with state:=.busy}:Loop)={r0 with state:=.busy,pending:=none}:=rfl
     refine⟨_,run_beginRound q2 rfl,?_⟩
     rw[hbs]
     refine ihb (rd:=some (wL.heap.size)) (R:=.inn wL.heap.size R0) ⟨hRS,hnd,rfl⟩ (K:=endRd a1 (wL.heap.size) r0 st1.size k) ?_ q3 k2
     intro e st3 m3 a3 w3 he3 hs3
     obtain⟨w4,x1,x2⟩:=back e st3 m3 a3 w3 he3 hs3
     cases e with
     |normal=>exact⟨_,w4,x1,x2⟩
     |exit i=>exact⟨_,w4,x1,x2⟩
     |ret=>exact⟨_,w4,x1,x2⟩
   obtain⟨hent,hcalls⟩:=hRS E g _ _ _ _ _ _ (#[.func (.yield (wL.heap.size)) #[] #[]]++cvs) hc hin hHR g4 (by simp[hl];omega) (by
    intro j y u k1 k2
    have hcs:=seen_mono (w:=w) (w':=wL.alloc (.loop r0)) (X:=st.X m E.Y) (X':=(({fr:=[],objs:=(st.next+1,.lp (wL.heap.size) r0 .ready none)::(st.next,.sv a0 st.fr)::st.objs,next:=st.next+2,size:=0,grd:=none}:St).X m3 E.Y)) (fun b hb _=>by
      rw[Below.heap_alloc _ _ b (by omega)];exact hw1 b hb) (fun b hb hx=>by
      rcases hx with⟨n',o,l,x1,x2,x3,x4⟩|hx
      ·left
       simp only[St.obj,look]at x1
       split at x1
       ·rename_i hne
        cases x1
        subst hne
        rw[hm3a]at x3
        cases x3
        cases x4
        omega
       ·split at x1
        ·cases x1;cases x2
        ·rename_i h1 h2
         rw[hm3b _ (fun e=>h1 e.symm) (fun e=>h2 e.symm)]at x3
         exact⟨n',o,l,x1,x2,x3,x4⟩
      ·exact .inr hx)
    cases j with
    |zero=>
     have k2:(#[Value.func (.yield (wL.heap.size)) #[] #[]])[0]? =some u:=by rw[Array.getElem?_append_left (by simp)]at k2;exact k2
     simp at k1 k2
     subst k1 k2
     exact .yld hm3a
    |succ j=>
     have k1:cap[j]? =some y:=by simpa using k1
     have k2:cvs[j]? =some u:=by
      rw[Array.getElem?_append_right (by simp)]at k2
      simpa using k2
     exact(hr j y u k1 k2).mono hm3c hcs)
   refine⟨wL.heap.size,mk,wL.alloc (.loop r0),{target:=.fn (.func g) cvs,args:=#[.func (.yield (wL.heap.size)) #[] #[]]},wL.alloc (.loop r0),g,#[.func (.yield (wL.heap.size)) #[] #[]]++cvs,wL.alloc (.loop r0),?_,?_,fun _ _=>trivial,?_,(fun h=>by cases h),?_⟩
   ·exact hrun
   ·simp only[resolve,hv]
    simp[go_sem]
   ·simp only[invoke,go_sem]
    exact hent _ _
   ·refine CallsIn.mono hcalls ?_
    rintro e w2 ⟨v,st2,m2,a2,rfl,hk2,hs2⟩
    obtain⟨n1,fr0,n2,s,p,k1,k2,k3,k4⟩:=hk2
    obtain⟨q1,q2,q3⟩:=lp_upd (s':=.exhausted) (p':=p) hs2 k2
    have k1':(st2.setObj n2 (.lp (wL.heap.size) r0 .exhausted p)).obj n1=some (.sv a0 fr0):=by
     rw[setObj_obj]
     split
     ·rename_i e';subst e';rw[k1]at k2;cases k2
     ·exact k1
    obtain⟨z1,z2⟩:=sv_get q3 k1'
    have fin:=q3.frame (fr:=fr0) (a2:=a0) (sz:=E.sz) (nd:=E.nodf) (by rw[htsz];exact h.esz) z2 z1 hnodup hge (by rw[hnd];intro e;cases e)
    have hEE:({{E with sz:=st2.size,nodf:=true}with sz:=E.sz,nodf:=E.nodf}:Env)=E:=rfl
    rw[hEE]at fin
    have hsz:({st2.setObj n2 (.lp (wL.heap.size) r0 .exhausted p)with fr:=fr0,size:=E.sz}:St)={st2.setObj n2 (.lp (wL.heap.size) r0 .exhausted p)with fr:=fr0,size:=st.size}:=by rw[h.esz]
    rw[hsz]at fin
    refine⟨p,_,run_endLoop q2 (by rcases k3 with k3|k3<;>simp[k3]),?_⟩
    unfold pendK at k4
    rw[ha0]at fin
    split at k4
    ·exact hk .normal _ _ _ _ k4 fin
    ·exact wpIn_ret (hk .ret _ _ _ _ k4 fin)
    ·exact wpIn_exit (hk (.exit _) _ _ _ _ k4 fin)
    ·cases k4
  ·cases hc
 |scope=>intro hsh rd R hR K Q hk st m a w h hc;cases hc
 |label=>intro hsh rd R hR K Q hk st m a w h hc;cases hc
 |goto=>intro hsh rd R hR K Q hk st m a w h hc;cases hc
 |refuse=>intro hsh rd R hR K Q hk st m a w h hc;cases hc
end Go.Am
namespace Go.Am
open Go.RowKit
variable {P:Program} {E:Env} {st:St} {m:Nm} {w:World} {a:Act}
structure Shut (D:Nat→Prop) (w w':World):Prop where
 os:w'.os=w.os
 tape:w'.tape=w.tape
 output:w'.output=w.output
 drawn:w'.drawn=w.drawn
 size:w'.heap.size=w.heap.size
 block:∀b,¬D b→w'.heap[b]? =w.heap[b]?
theorem Shut.refl (D:Nat→Prop) (w:World):Shut D w w:=⟨rfl,rfl,rfl,rfl,rfl,fun _ _=>rfl⟩
theorem Shut.step {D:Nat→Prop} {w w':World} (h:Shut D w w') {b:Nat} (hb:D b) (o:Obj):Shut D w (w'.putObj b o):=
 ⟨h.os,h.tape,h.output,h.drawn,by simp[h.size],fun k hk=>(World.putObj_heap_other (fun e=>hk (by rw[e];exact hb))).trans (h.block k hk)⟩
theorem Shut.cell {D:Nat→Prop} {w w':World} (h:Shut D w w') (hD:∀b,D b→w.heap[b]? =some (.deferred (some []))) {p:Addr} {v:Value} (hc:w.cell? p=some v):w'.cell? p=some v:=by
 by_cases hb:D p.block
 ·exfalso
  have:=hD _ hb
  unfold World.cell? at hc
  rw[this]at hc
  cases hc
 ·exact(World.cell?_of_block (w:=w) (w':=w') (h.block _ hb)).trans hc
theorem leaves_marks {fn:Func} {tmps:Array Value} {R:Ending→World→Prop} {D:Nat→Prop} {w0:World} (fin:∀w',Shut D w0 w'→∃v,(results fn tmps).run P w'=.ok v w'∧R (.returned v) w'):
  ∀(ds:List Deferred) (w:World),Shut D w0 w→ds.Nodup→(∀d,d∈ds→∃b,d=mark b∧D b∧w.heap[b]? =some (.deferred (some [])))→LeavesInM (FR none) 0 P fn tmps R ds .returning w
 |[],w,hs,_,_=>fin w hs
 |d::ds,w,hs,hn,hd=>by
  obtain⟨b,rfl,hb,hh⟩:=hd _ List.mem_cons_self
  rw[List.nodup_cons]at hn
  refine⟨(fun e=>by cases e),.inl ⟨b,_,rfl,run_takeDeferred hh,leaves_marks fin ds _ (hs.step hb _) hn.2 (fun d hd'=>?_)⟩⟩
  obtain⟨b',rfl,hb',hh'⟩:=hd d (List.mem_cons_of_mem _ hd')
  exact⟨b',rfl,hb',(World.putObj_heap_other (fun e=>by subst e;exact hn.1 hd')).trans hh'⟩
theorem IRep.monoC {c c':Addr→Value→Prop} (hc:∀p v,v.oneCell'=true→c p v→c' p v) {x:IV} {v:Value} (h:IRep c x v):IRep c' x v:=by
 induction h with
 |sc=>exact .sc
 |sl u a hcap hmax hA hk hcc h1 _ ih=>exact .sl u a hcap hmax hA hk (fun i x j y g1 g2=>hc _ _ (h1 i x j y g1 g2) (hcc i x j y g1 g2)) h1 ih
theorem VRep.monoC {c c':Addr→Value→Prop} (hc:∀p v,v.oneCell'=true→c p v→c' p v) {x:AV} {v:Value} (h:VRep m c x v):VRep m c' x v:=by
 induction h with
 |im h=>exact .im (h.monoC hc)
 |eptr u a h0 h1 h2=>exact .eptr u a h0 (fun j y h=>hc _ _ (h0 j y h) (h1 j y h)) (fun j y h=>(h2 j y h).monoC hc)
 |yld h=>exact .yld h
 |sub h hl hcp=>exact .sub h hl hcp
 |cut h hl=>exact .cut h hl
 |rptr h=>exact .rptr h
 |ptr h=>exact .ptr h
 |row h=>exact .row h
 |agg hl _ ih=>exact .agg hl ih
 |tup hl _ ih=>exact .tup hl ih
 |fn hl _ ih=>exact .fn hl ih
 |map h=>exact .map h
 |cond _ hf ih=>exact .cond ih hf
 |undef=>exact .undef
def AObj.noSv:AObj→Bool
 |.sv _ _=>false
 |_=>true
theorem objRep_monoC {c c':Addr→Value→Prop} {w w':World} {l:Loc} {o:AObj} (ho:o.noSv=true) (hc:∀p v,v.oneCell'=true→c p v→c' p v) (hb:∀b,l.own=some b→o.owns=true→w'.heap[b]? =w.heap[b]?)
  (hit:∀b,(∃n,m n=some (.blk b))→True) (h:ObjRep m c w l o):ObjRep m c' w' l o:=by
 cases o with
 |box t cs=>
  obtain⟨b,arr,rfl,hh,hsz,hone,hr⟩:=h
  exact⟨b,arr,rfl,(hb b rfl rfl).trans hh,hsz,hone,fun j y u h1 h2=>(hr j y u h1 h2).monoC hc⟩
 |row e k xs=>
  obtain⟨A,cp,flat,rfl,hown,hone,hlen,hr⟩:=h
  refine⟨A,cp,flat,rfl,?_,hone,hlen,fun i x j y u h1 h2 h3=>(hr i x j y u h1 h2 h3).monoC hc⟩
  obtain⟨h1,h2⟩:=hown
  refine⟨h1,?_⟩
  rcases h2 with h2|⟨g,cap,cur,hv,hg,hh,r⟩
  ·exact .inl h2
  ·refine .inr ⟨g,cap,cur,hv,hg,?_,r⟩
   cases hv
   exact(hb g rfl rfl).trans hh
 |fz k xs=>
  obtain⟨A,cp,rfl,hx⟩:=h
  exact⟨A,cp,rfl,hx.monoC hc⟩
 |rowE e k Q=>
  obtain⟨xs,hQ,A,cp,flat,rfl,hown,hone,hlen,hr⟩:=h
  refine⟨xs,hQ,A,cp,flat,rfl,?_,hone,hlen,fun i x j y u h1 h2 h3=>(hr i x j y u h1 h2 h3).monoC hc⟩
  obtain⟨h1,h2⟩:=hown
  refine⟨h1,?_⟩
  rcases h2 with h2|⟨g,cap,cur,hv,hg,hh,r⟩
  ·exact .inl h2
  ·refine .inr ⟨g,cap,cur,hv,hg,?_,r⟩
   cases hv
   exact(hb g rfl rfl).trans hh
 |mp q xs=>
  obtain⟨b,es,rfl,hh,hsz,hr⟩:=h
  exact⟨b,es,rfl,(hb b rfl rfl).trans hh,hsz,fun i x e h1 h2=>⟨(hr i x e h1 h2).1,(hr i x e h1 h2).2.1,(hr i x e h1 h2).2.2.monoC hc⟩⟩
 |it n since seen=>
  obtain⟨b,bm,rfl,hn,hh⟩:=h
  exact⟨b,bm,rfl,hn,(hb b rfl rfl).trans hh⟩
 |lp b r s p=>
  obtain⟨rfl,hh⟩:=h
  exact⟨rfl,(hb b rfl rfl).trans hh⟩
 |sv a fr=>cases ho
 |rowP e k hl cp xs=>
  obtain⟨A,flat,rfl,hle,hown,hone,hlen,hr⟩:=h
  refine⟨A,flat,rfl,hle,?_,hone,hlen,fun i x j y u h1 h2 h3=>(hr i x j y u h1 h2 h3).monoC hc⟩
  obtain⟨h1,h2⟩:=hown
  refine⟨h1,?_⟩
  rcases h2 with h2|⟨g,cap,cur,hv,hg,hh,r⟩
  ·exact .inl h2
  ·refine .inr ⟨g,cap,cur,hv,hg,?_,r⟩
   cases hv
   exact(hb g rfl rfl).trans hh
 |gl gs=>exact⟨h.1,fun g cs hg=>(h.2 g cs hg).monoC hc⟩
 |gone=>trivial
theorem mark_inj {b b':Nat} (e:mark b=mark b'):b=b':=by injection e with e1;injection e1
def endIt (k:St→Prop):Ex→St→Prop
 |.exit _,_=>False
 |_,st=>k st
def iterR (P:Program) (nin:Nat):Rc:=fun g args H k st=>
 ∃(fn:Func) (c:Code) (n:Nat) (q:List (Nat×Rg)),P.funcs[g]? =some fn∧(fn.name== "runtime.NumGoroutine")=false∧fn.body=some c∧fn.ntmps=n∧fn.results=#[]∧shapes q n c=true∧args.length≤n∧
  cf P H q nin c .no (endIt k) {st with fr:=enumL 0 args,size:=n}
theorem iterR_sound (hP:P.follows .mixedOrders=true) (nin:Nat):RSound P nin (iterR P nin):=by
 intro E g args H k st m w vs hc hin hH hs hsz hvs
 obtain⟨fn,c,n,q,hf,hname,hb,hn,hres,hsh,hle,hcf⟩:=hc
 refine⟨enters_of hf hname hb,callsIn_of_wp_marks hf hb trivial ?_⟩
 have h1:=hs.frame (fr:=enumL 0 args) (a2:={tmps:=vs++Array.replicate (fn.ntmps-vs.size) Go.undef,defers:=[]}) (sz:=n) (nd:=true) (by simp[hsz,hn];omega) (fun s y hy=>by
  simp only[look_enum,Nat.zero_le,if_true,Nat.sub_zero]at hy
  have hlt:s<vs.size:=by have:=(List.getElem?_eq_some_iff.1 hy).1;omega
  refine hvs s y _ hy ?_
  simp[Array.getD_eq_getD_getElem?,Array.getElem?_append,hlt]) (fun d hd=>by cases hd) List.nodup_nil (fun b hb=>by cases hb) (fun _=>rfl)
 have hend:∀(st':St) (m':Nm) (a':Act) (w':World),k st'→SimF {E with sz:=n,nodf:=true} st' m' a' w'→
   LeavesInM (FR none) 0 P fn a'.tmps (fun e w'=>∃v st' m' a',e=.returned v∧k st'∧SimF {E with sz:=st'.size,nodf:=true} st' m' a' w') a'.defers .returning w':=by
  intro st' m' a' w' hk hs'
  have hd:=hs'.ndf rfl
  rw[hd]
  refine⟨.tuple #[],?_,.tuple #[],st',m',a',rfl,hk,?_⟩
  ·simp[results,hres]
  ·have:=hs'.esz
   simp only at this
   rw[this]
   exact hs'
 refine cf_sound (E:={E with sz:=n,nodf:=true}) (q:=q) hP hin (hH n) c hsh (rd:=none) (R:=.no) trivial (K:=endIt k) ?_ h1 hcf
 intro e st' m' a' w' he hs'
 cases e with
 |normal=>exact hend st' m' a' w' he hs'
 |exit i=>exact he.elim
 |ret=>exact hend st' m' a' w' he hs'
def retOne (P:Program) (st:St):ResultVar→Option AV
 |.tmp t=>some (st.get t)
 |.cell t ty=>match tag P ty,tsz P ty with
  |some true,some n=>(st.cellsAt (st.get t) n).map .agg
  |some false,some 1=>match st.cellsAt (st.get t) 1 with
   |some [c]=>some c
   |_=>none
  |_,_=>none
def retVal (P:Program) (st:St) (l:List ResultVar):Option AV:=
 match l with
 |[]=>some (.tup [])
 |[x]=>retOne P st x
 |[x,y]=>match retOne P st x,retOne P st y with
  |some p,some q=>some (.tup [p,q])
  |_,_=>none
 |[x,y,z]=>match retOne P st x,retOne P st y,retOne P st z with
  |some p,some q,some r=>some (.tup [p,q,r])
  |_,_,_=>none
 |[x,y,z,u]=>match retOne P st x,retOne P st y,retOne P st z,retOne P st u with
  |some p,some q,some r,some s=>some (.tup [p,q,r,s])
  |_,_,_,_=>none
 |_=>none
def RetK (P:Program) (nin:Nat) (rvs:List ResultVar) (r:AV) (outs:List AObj) (st:St):Prop:=
 ∃(ns:List NilAt) (r0:AV) (fl rs:List Nat),retVal P (st.nils ns) rvs=some r0∧Entails nin {(st.nils ns).freeze fl with fr:=[(0,r0.view ((st.nils ns).freeze fl))],size:=1} {fr:=[(0,r)],objs:=enumL 0 outs,next:=outs.length,size:=1} rs
def EndK (P:Program) (nin:Nat) (rvs:List ResultVar) (r:AV) (outs:List AObj):Ex→St→Prop
 |.exit _,_=>False
 |_,st=>RetK P nin rvs r outs st
def stIn (args:List AV) (ins:List AObj) (n:Nat):St:={fr:=enumL 0 args,objs:=enumL 0 ins,next:=ins.length,size:=n}
def retSem (tmps:Array Value):ResultVar→Sem Value
 |.tmp t=>pure (tmps.getD t Go.undef)
 |.cell p t=>do loadVar t (←asAddr (tmps.getD p Go.undef))
theorem retOne_run (h:SimF E st m a w) {rv:ResultVar} {r:AV} (hr:retOne P st rv=some r):
  ∃v,(∀w',(∀p u,w.cell? p=some u→w'.cell? p=some u)→(retSem a.tmps rv).run P w'=.ok v w')∧VRep m (seen w (st.X m E.Y)) r v:=by
 cases rv with
 |tmp t=>cases hr;exact⟨_,fun _ _=>rfl,h.get t⟩
 |cell t ty=>
  simp only[retOne]at hr
  split at hr
  ·rename_i n ht hn
   simp only[Option.map_eq_some_iff]at hr
   obtain⟨cs,hc,rfl⟩:=hr
   obtain⟨ad,u,he,hl,h1,h2⟩:=cellsAt_sound h.toSimO (h.get t) hc
   refine⟨.agg ((List.range n).map u).toArray,?_,.agg (by simp[hl]) (fun j y v hy hv=>?_)⟩
   ·intro w' hw
    simp only[retSem,he,asAddr,Sem.run_bind,Sem.run_pure,Result.andThen_ok]
    exact run_loadVar_agg ht hn (fun j hj=>hw _ _ (h1 j hj))
   ·have hj:j<n:=by have:=(List.getElem?_eq_some_iff.1 hy).1;omega
    simp[hj]at hv
    subst hv
    exact h2 j y hy
  ·rename_i ht hn
   split at hr
   ·rename_i hc
    cases hr
    obtain⟨ad,u,he,hl,h1,h2⟩:=cellsAt_sound h.toSimO (h.get t) hc
    have h0:=h1 0 (by omega)
    have hadd:ad.add 0=ad:=by simp[Addr.add]
    rw[hadd]at h0
    refine⟨u 0,fun w' hw=>?_,h2 0 _ rfl⟩
    simp only[retSem,he,asAddr,Sem.run_bind,Sem.run_pure,Result.andThen_ok]
    exact run_loadVar_one ht (hw _ _ h0)
   ·cases hr
  ·cases hr
theorem results_eq (fn:Func) (tmps:Array Value):results fn tmps=(do
  let vs ←fn.results.mapM (retSem tmps)
  pure (if h:vs.size=1 then vs[0]else .tuple vs)):=by
 unfold results
 congr 1
theorem retVal_run (h:SimF E st m a w) {fn:Func} {l:List ResultVar} {r:AV} (hl:fn.results=l.toArray) (hr:retVal P st l=some r):
  ∃v,(∀w',(∀p u,w.cell? p=some u→w'.cell? p=some u)→(results fn a.tmps).run P w'=.ok v w')∧VRep m (seen w (st.X m E.Y)) r v:=by
 rw[results_eq,hl]
 unfold retVal at hr
 split at hr
 ·cases hr
  exact⟨.tuple #[],fun w' hw=>by simp,.tup (by simp) (by simp)⟩
 ·obtain⟨v,h1,h2⟩:=retOne_run h hr
  exact⟨v,fun w' hw=>by simp[h1 w' hw],h2⟩
 ·split at hr
  ·rename_i hp hq
   cases hr
   obtain⟨v,h1,h2⟩:=retOne_run h hp
   obtain⟨v',h1',h2'⟩:=retOne_run h hq
   refine⟨.tuple #[v,v'],fun w' hw=>by simp[h1 w' hw,h1' w' hw],.tup (by simp) (fun j y u g1 g2=>?_)⟩
   match j with
   |0=>simp at g1 g2;subst g1 g2;exact h2
   |1=>simp at g1 g2;subst g1 g2;exact h2'
   |j+2=>simp at g1
  ·cases hr
 ·split at hr
  ·rename_i hp hq hs
   cases hr
   obtain⟨v,h1,h2⟩:=retOne_run h hp
   obtain⟨v',h1',h2'⟩:=retOne_run h hq
   obtain⟨v'',h1'',h2''⟩:=retOne_run h hs
   refine⟨.tuple #[v,v',v''],fun w' hw=>by simp[h1 w' hw,h1' w' hw,h1'' w' hw],.tup (by simp) (fun j y u g1 g2=>?_)⟩
   match j with
   |0=>simp at g1 g2;subst g1 g2;exact h2
   |1=>simp at g1 g2;subst g1 g2;exact h2'
   |2=>simp at g1 g2;subst g1 g2;exact h2''
   |j+3=>simp at g1
  ·cases hr
 ·split at hr
  ·rename_i hp hq hs ht
   cases hr
   obtain⟨v,h1,h2⟩:=retOne_run h hp
   obtain⟨v',h1',h2'⟩:=retOne_run h hq
   obtain⟨v'',h1'',h2''⟩:=retOne_run h hs
   obtain⟨v3,h13,h23⟩:=retOne_run h ht
   refine⟨.tuple #[v,v',v'',v3],fun w' hw=>by simp[h1 w' hw,h1' w' hw,h1'' w' hw,h13 w' hw],.tup (by simp) (fun j y u g1 g2=>?_)⟩
   match j with
   |0=>simp at g1 g2;subst g1 g2;exact h2
   |1=>simp at g1 g2;subst g1 g2;exact h2'
   |2=>simp at g1 g2;subst g1 g2;exact h2''
   |3=>simp at g1 g2;subst g1 g2;exact h23
   |j+4=>simp at g1
  ·cases hr
 ·cases hr
theorem FSpec.of_K {q:List (Nat×Rg)} {f:FuncId} {fn:Func} {c:Code} {n:Nat} {rvs:List ResultVar} {args:List AV} {ins:List AObj} {r:AV} {outs:List AObj} {K:Ex→St→Prop}
  (hf:P.funcs[f]? =some fn) (hname:(fn.name== "runtime.NumGoroutine")=false) (hb:fn.body=some c) (hn:fn.ntmps=n) (hr:fn.results=rvs.toArray) (hP:P.follows .mixedOrders=true) (hsh:shapes q n c=true) (hle:args.length≤n)
  (hout:outs.all AObj.noSv=true) (hK:∀e st,K e st→EndK P ins.length rvs r outs e st) (h:cf P noH q ins.length c (.out (iterR P ins.length)) K (stIn args ins n)):FSpec P f args ins r outs:=by
 refine⟨enters_of hf hname hb,fun m w Y vs hO hY hsz hvs=>?_⟩
 refine calls_FR (n:=0) (callsIn_of_wp_marks hf hb trivial ?_)
 let E:Env:={Y:=Y,Z:=(stO ins).owned m,w0:=w,m0:=m,sz:=n}
 have hown:(stIn args ins n).owned m=(stO ins).owned m:=rfl
 have hs:SimF E (stIn args ins n) m {tmps:=vs++Array.replicate (fn.ntmps-vs.size) Go.undef,defers:=[]} w:={
  objs:=hO.objs
  apart:=hO.apart
  foreign:=hO.foreign
  fresh:=hO.fresh
  defers:=fun d hd=>by cases hd
  size:=by simp[stIn,hsz,hn];omega
  fr:=fun s y hy=>by
   simp only[stIn,look_enum,Nat.zero_le,if_true,Nat.sub_zero]at hy
   have hlt:s<vs.size:=by have:=(List.getElem?_eq_some_iff.1 hy).1;omega
   refine hvs s y _ hy ?_
   simp[Array.getD_eq_getD_getElem?,Array.getElem?_append,hlt]
  kept:=Kept.refl _ _
  mine:=fun b hb=>.inl hb
  mext:=fun _ _ h=>h
  ylt:=hY
  esz:=rfl
  grd:=rfl
  dnd:=List.nodup_nil
  dge:=fun b hb=>by cases hb
  ndf:=fun _=>rfl}
 have hin:∀n l,E.m0 n=some l→n<ins.length:=by
  intro n l hn
  rcases Nat.lt_or_ge n ins.length with h1|h1
  ·exact h1
  ·have:=hO.fresh n h1;exact absurd (this.symm.trans hn) (by simp)
 have key:∀(st':St) (m':Nm) (a':Act) (w':World),SimF E st' m' a' w'→RetK P ins.length rvs r outs st'→LeavesInM (FR none) 0 P fn a'.tmps (fun e w'=>∃v m',e=Ending.returned v∧VRep m' (seen w' ((stO outs).X m' Y)) r v∧SimO Y (stO outs) m' w'∧Kept ((stO ins).owned m) w w'∧
   (∀b,(stO outs).owned m' b→(stO ins).owned m b∨w.heap.size≤b)∧(∀n l,m n=some l→m' n=some l)) a'.defers .returning w':=by
  rintro st' m' a' w' hs' ⟨ns,r0,fl,rs,hr0,hE⟩
  obtain⟨m',hs',_⟩:=SimF.nils ns hs'
  generalize st'.nils ns=st' at*
  obtain⟨v,h1,h2⟩:=retVal_run hs' hr hr0
  have hz:=hs'.freeze fl
  have h3:VRep m' (seen w' ((st'.freeze fl).X m' Y)) (r0.view (st'.freeze fl)) v:=view_rep hz.toSimO (h2.mono (fun _ _ h=>h) (seen_mono (fun _ _ _=>rfl) fun b _ hx=>hx.elim (fun hx=>.inl (freeze_owned fl st' b hx)) .inr))
  have hs2:=hz.frame (fr:=[(0,r0.view (st'.freeze fl))]) (a2:={tmps:=#[v],defers:=a'.defers}) (sz:=1) (nd:=false) rfl (fun s y hy=>by
    simp only[look]at hy
    split at hy
    ·rename_i e;subst e;cases hy;exact h3
    ·cases hy) hz.defers hz.dnd hz.dge (fun e=>by cases e)
  have h4:=hs2.entails hE hin
  have hD:∀b,mark b∈a'.defers→w'.heap[b]? =some (.deferred (some [])):=by
   intro b hb
   obtain⟨b',e,hx⟩:=h4.defers _ hb
   have:=mark_inj e
   subst this
   exact hx.mark
  refine leaves_marks (D:=fun b=>mark b∈a'.defers) (w0:=w') ?_ a'.defers w' (Shut.refl _ _) hs'.dnd (fun d hd=>?_)
  ·intro w2 hsh2
   have hcell:∀p u,w'.cell? p=some u→w2.cell? p=some u:=fun p u hc=>hsh2.cell hD hc
   refine⟨v,h1 w2 hcell,v,?_⟩
   have hcs:∀p u,u.oneCell'=true→seen w' ((stO outs).X (fun n=>if n<outs.length then m' (nmOf rs (st'.freeze fl).next n)else none) Y) p u→seen w2 ((stO outs).X (fun n=>if n<outs.length then m' (nmOf rs (st'.freeze fl).next n)else none) Y) p u:=fun p u h1 hx=>⟨.inl ⟨hcell p u (hx.cell h1),fun e=>by rw[e]at h1;cases h1⟩,hx.2⟩
   have hblk:∀b,(stO outs).owned (fun n=>if n<outs.length then m' (nmOf rs (st'.freeze fl).next n)else none) b→w2.heap[b]? =w'.heap[b]?:=fun b hb=>hsh2.block b fun hm=>by
    obtain⟨b',e,hx⟩:=h4.defers _ hm
    have:=mark_inj e
    subst this
    exact hx.2 (.inl hb)
   refine⟨_,rfl,(h4.fr 0 r rfl).monoC hcs,⟨fun n o ho=>?_,h4.apart,h4.foreign,h4.fresh⟩,?_,h4.mine,h4.mext⟩
   ·obtain⟨l,hl,hrep⟩:=h4.objs n o ho
    exact⟨l,hl,objRep_monoC (List.all_eq_true.1 hout o (by
     have:outs[n]? =some o:=by rw[←stO_obj];exact ho
     exact List.mem_of_getElem? this)) hcs (fun b hb hown=>hblk b ⟨n,o,l,ho,hown,hl,hb⟩) (fun _ _=>trivial) hrep⟩
   ·refine⟨hsh2.os.trans h4.kept.os,hsh2.tape.trans h4.kept.tape,hsh2.output.trans h4.kept.output,by rw[hsh2.drawn];exact h4.kept.drawn,by rw[hsh2.size];exact h4.kept.size,fun b hb hz'=>?_⟩
    rw[hsh2.block b (fun hm=>by have:=hs'.dge b hm;have:w.heap.size≤b:=this;omega)]
    exact h4.kept.block b hb hz'
  ·obtain⟨b,rfl,_⟩:=hs'.defers d hd
   exact⟨b,rfl,hd,hD b hd⟩
 refine cf_sound hP hin noH_sound c hsh (rd:=none) (R:=.out (iterR P ins.length)) ⟨iterR_sound hP _,rfl,rfl⟩ (K:=K) ?_ hs h
 intro e st' m' a' w' he hs'
 have he:=hK e st' he
 cases e with
 |normal=>exact key _ _ _ _ hs' he
 |exit i=>exact he.elim
 |ret=>exact key _ _ _ _ hs' he
end Go.Am
namespace Go.Am
open Go.RowKit
variable {P:Program} {E:Env} {st:St} {m:Nm} {w:World} {a:Act}
attribute [simp] aVal aCall stIn enumL look AV.cells AV.one Value.oneCell' guardOf gcv aBin binI binS binB AV.strip
 retVal retOne cfCond St.freeze AV.view AV.ren AV.renL AObj.ren AObj.le AV.flat AV.flatL AV.pure AV.pureL nmOf
section
variable (H:Hd) (R:Rx) (q:List (Nat×Rg)) (nin:Nat) (K:Ex→St→Prop) (f:List (Nat×AV)) (o:List (Nat×AObj)) (n s:Nat) (g:Option Bool)
@[simp] theorem cf_skip:cf P H q nin .skip R K ⟨f,o,n,s,g⟩=K .normal ⟨f,o,n,s,g⟩:=rfl
@[simp] theorem cf_seq (a b:Code):cf P H q nin (.seq a b) R K ⟨f,o,n,s,g⟩=cf P H q nin a R (Ex.next (cf P H q nin b R K) K) ⟨f,o,n,s,g⟩:=rfl
@[simp] theorem cf_cond (c:Operand) (a b:Code):cf P H q nin (.cond c a b) R K ⟨f,o,n,s,g⟩=cfCond (St.ev ⟨f,o,n,s,g⟩ c) (cf P H q nin a R K ⟨f,o,n,s,g⟩) (cf P H q nin b R K ⟨f,o,n,s,g⟩):=rfl
@[simp] theorem cf_block (id:Nat) (c:Code):cf P H q nin (.block id c) R K ⟨f,o,n,s,g⟩=cf P H q nin c R (Ex.inBlock id K) ⟨f,o,n,s,g⟩:=rfl
@[simp] theorem cf_loop (c:Code):cf P H q nin (.loop c) R K ⟨f,o,n,s,g⟩=LoopK nin (cf P H q nin c R) K ⟨f,o,n,s,g⟩:=rfl
@[simp] theorem cf_exit (i:Nat):cf P H q nin (.exit i) R K ⟨f,o,n,s,g⟩=K (.exit i) ⟨f,o,n,s,g⟩:=rfl
@[simp] theorem cf_ret:cf P H q nin .ret R K ⟨f,o,n,s,g⟩=K .ret ⟨f,o,n,s,g⟩:=rfl
@[simp] theorem cf_region (id:Nat) (ops:Array Oper):cf P H q nin (.region id ops false) R K ⟨f,o,n,s,g⟩=cfOpsH P H ops.toList ops.toList (K .normal) ⟨f,o,n,s,g⟩:=rfl
@[simp] theorem cf_draw (id:Nat) (ops:Array Oper):cf P H q nin (.region id ops true) R K ⟨f,o,n,s,g⟩=drawK P ops.toList (K .normal) ⟨f,o,n,s,g⟩ (rgOf q id):=rfl
@[simp] theorem cf_range (R:Rc) (x:Operand) (ps:Array Tmp) (asg bd:Code):cf P H q nin (.rangeFunc x ps asg bd) (.out R) K ⟨f,o,n,s,g⟩=rangeK R (cf P H q nin asg .no) (fun b=>cf P H q nin bd (.inn b R)) x ps.toList K ⟨f,o,n,s,g⟩:=rfl
@[simp] theorem cf_rangeI (l:Nat) (R:Rc) (x:Operand) (ps:Array Tmp) (asg bd:Code):cf P H q nin (.rangeFunc x ps asg bd) (.inn l R) K ⟨f,o,n,s,g⟩=rangeI l R (cf P H q nin asg .no) (fun b=>cf P H q nin bd (.inn b R)) x ps.toList K ⟨f,o,n,s,g⟩:=rfl
@[simp] theorem cfOpsH_nil (ops:List Oper) (k:St→Prop):cfOpsH P H ops [] k ⟨f,o,n,s,g⟩=k ⟨f,o,n,s,g⟩:=rfl
@[simp] theorem cfOpsH_cons (ops rest:List Oper) (k:St→Prop) (dst:Option Tmp) (op:Op) (ty:TypeId) (pos:String) (af:Array Edge):
  cfOpsH P H ops (⟨dst,op,ty,pos,af,none⟩::rest) k ⟨f,o,n,s,g⟩=cfOpH P H ⟨dst,op,ty,pos,#[],none⟩ (cfOpsH P H ops rest k) ⟨f,o,n,s,g⟩:=by cases op<;>rfl
variable (k:St→Prop)
@[simp] theorem drawK_n (ops:List Oper) (nq:Nat):drawK P ops k ⟨f,o,n,s,g⟩ (.n nq)=cfQs P ops nq ops k ⟨f,o,n,s,g⟩:=rfl
@[simp] theorem drawK_m (ops:List Oper) (cs:List RC):drawK P ops k ⟨f,o,n,s,g⟩ (.m cs)=cfR P ops k n cs ops [] [] [] ⟨f,o,n+nA cs,s,g⟩:=rfl
@[simp] theorem cfR_nil (ops l:List Oper) (base:Nat) (sn:List Snap) (fl:List Pend) (hd:Held):cfR P ops k base [] l sn fl hd ⟨f,o,n,s,g⟩=(chkAll P s (sn++[(o,n)]) fl∧disH (sn++[(o,n)]) hd∧cfOps P ops l k ⟨f,endH sn.length hd++o,n,s,none⟩):=by cases l<;>rfl
@[simp] theorem cfQs_zero (ops l:List Oper):cfQs P ops 0 l k ⟨f,o,n,s,g⟩=cfOps P ops l k ⟨f,o,n,s,g⟩:=by cases l<;>rfl
@[simp] theorem cfQs_nil (ops:List Oper) (j:Nat):cfQs P ops (j+1) [] k ⟨f,o,n,s,g⟩=k ⟨f,o,n,s,g⟩:=rfl
@[simp] theorem cfQs_cons (ops rest:List Oper) (j:Nat) (dst:Option Tmp) (op:Op) (ty:TypeId) (pos:String) (af:Array Edge):
  cfQs P ops (j+1) (⟨dst,op,ty,pos,af,none⟩::rest) k ⟨f,o,n,s,g⟩=cfQ P ⟨dst,op,ty,pos,#[],none⟩ (cfQs P ops j rest k) ⟨f,o,n,s,g⟩:=by cases op<;>rfl
def cfQd (P:Program) (d:Option Tmp) (o:Oper) (want:Bool) (k:St→Prop) (st:St):Prop:=
 match d with
 |none=>False
 |some g=>match guardOf (st.raw g) want with
  |some c=>cfQG P o c k st
  |none=>False
@[simp] theorem cfQs_cons_g (ops rest:List Oper) (j:Nat) (dst:Option Tmp) (op:Op) (ty:TypeId) (pos:String) (af:Array Edge) (i:Nat) (want:Bool):
  cfQs P ops (j+1) (⟨dst,op,ty,pos,af,some (i,want)⟩::rest) k ⟨f,o,n,s,g⟩=cfQd P ((ops[i]?).bind (·.dst)) ⟨dst,op,ty,pos,#[],none⟩ want (cfQs P ops j rest k) ⟨f,o,n,s,g⟩:=by cases op<;>rfl
@[simp] theorem cfQd_some (d:Tmp) (op:Oper) (want:Bool):cfQd P (some d) op want k ⟨f,o,n,s,g⟩=match guardOf (St.raw ⟨f,o,n,s,g⟩ d) want with
  |some c=>cfQG P op c k ⟨f,o,n,s,g⟩
  |none=>False:=rfl
def pendP (gd:Option Bool) (ns:List Nat) (op:Op) (f:List (Nat×AV)) (o:List (Nat×AObj)) (n:Nat) (se:Held) (fl:List Pend):List Pend:=
 match ns with
 |[]=>fl
 |_=>(op,gd,f,(o,n),se,ns)::fl
def grdD (d:Option Tmp) (want:Bool) (f:List (Nat×AV)):Option Bool:=
 match d with
 |none=>none
 |some g=>guardOf ((look f g).getD .undef) want
@[simp] theorem cfR_p (ops l:List Oper) (base:Nat) (ns:List Nat) (cs:List RC) (dst:Option Tmp) (op:Op) (ty:TypeId) (pos:String) (af:Array Edge) (sn:List Snap) (fl:List Pend) (hd:Held):
  cfR P ops k base (.p ns []::cs) (⟨dst,op,ty,pos,af,none⟩::l) sn fl hd ⟨f,o,n,s,g⟩=cfQ P ⟨dst,op,ty,pos,#[],none⟩ (cfR P ops k base cs l sn (pendP none ns op f o n [] fl) hd) ⟨f,o,n,s,g⟩:=by cases op<;>rfl
@[simp] theorem cfR_pg (ops l:List Oper) (base:Nat) (ns:List Nat) (cs:List RC) (dst:Option Tmp) (op:Op) (ty:TypeId) (pos:String) (af:Array Edge) (i:Nat) (want:Bool) (sn:List Snap) (fl:List Pend) (hd:Held):
  cfR P ops k base (.p ns []::cs) (⟨dst,op,ty,pos,af,some (i,want)⟩::l) sn fl hd ⟨f,o,n,s,g⟩=cfQd P ((ops[i]?).bind (·.dst)) ⟨dst,op,ty,pos,#[],none⟩ want (cfR P ops k base cs l sn (pendP (grdD ((ops[i]?).bind (·.dst)) want f) ns op f o n [] fl) hd) ⟨f,o,n,s,g⟩:=by cases op<;>rfl
@[simp] theorem heldOut_mk (j:Nat) (js:List Nat) (f':List (Nat×AV)) (o':List (Nat×AObj)) (n' s':Nat) (g':Option Bool):heldOut (j::js) ⟨f,o,n,s,g⟩ ⟨f',o',n',s',g'⟩=⟨f',o,n',s',g'⟩:=rfl
@[simp] theorem cfR_ph (ops l:List Oper) (base:Nat) (ns:List Nat) (j:Nat) (js:List Nat) (cs:List RC) (dst:Option Tmp) (op:Op) (ty:TypeId) (pos:String) (af:Array Edge) (sn:List Snap) (fl:List Pend) (hd:Held):
  cfR P ops k base (.p ns (j::js)::cs) (⟨dst,op,ty,pos,af,none⟩::l) sn fl hd ⟨f,o,n,s,g⟩=cfQ P ⟨dst,op,ty,pos,#[],none⟩ (fun s'=>cfR P ops k base cs l sn (pendP none ns op f (endH sn.length (selH base (j::js) hd)++o) n (selH base (j::js) hd) fl) hd (heldOut (j::js) ⟨f,o,n,s,g⟩ s')) ⟨f,endH sn.length (selH base (j::js) hd)++o,n,s,g⟩:=by cases op<;>rfl
@[simp] theorem cfR_a (ops l:List Oper) (base j mr:Nat) (cs:List RC) (dst:Option Tmp) (op:Op) (ty:TypeId) (pos:String) (af:Array Edge) (sn:List Snap) (fl:List Pend) (hd:Held):
  cfR P ops k base (.a j mr::cs) (⟨dst,op,ty,pos,af,none⟩::l) sn fl hd ⟨f,o,n,s,g⟩=alcK P ⟨dst,op,ty,pos,#[],none⟩ (base+j) mr hd (fun hd'=>cfR P ops k base cs l sn fl hd') ⟨f,o,n,s,g⟩:=by
 rw[cfR];simp only[true_and];rfl
@[simp] theorem cfR_e (ops l:List Oper) (base:Nat) (us:List Tmp) (cs:List RC) (dst:Option Tmp) (op:Op) (ty:TypeId) (pos:String) (af:Array Edge) (sn:List Snap) (fl:List Pend) (hd:Held):
  cfR P ops k base (.e us::cs) (⟨dst,op,ty,pos,af,none⟩::l) sn fl hd ⟨f,o,n,s,g⟩=cfOp P ⟨dst,op,ty,pos,#[],none⟩ (effNext dst f s (cfR P ops k base cs l (sn++[(o,n)]) fl hd)) ⟨restr f us,mgH sn.length hd++o,n,s,none⟩:=by
 rw[cfR];simp only[true_and];cases op<;>rfl
@[simp] theorem effNext_mk (d:Option Tmp) (fr:List (Nat×AV)) (sz:Nat):effNext d fr sz k ⟨f,o,n,s,g⟩=k (St.put ⟨fr,o,n,sz,none⟩ d (dstV d f)):=rfl
attribute [simp] selH pendP grdD chkG alcK dstV restr mgH endH disN disH chkN chkAll
omit k in
@[simp] theorem nA_nil:nA []=0:=rfl
omit k in
@[simp] theorem nA_p (ns js:List Nat) (cs:List RC):nA (.p ns js::cs)=nA cs:=by simp[nA,RC.isA]
omit k in
@[simp] theorem nA_e (us:List Tmp) (cs:List RC):nA (.e us::cs)=nA cs:=by simp[nA,RC.isA]
omit k in
@[simp] theorem nA_a (j mr:Nat) (cs:List RC):nA (.a j mr::cs)=nA cs+1:=by unfold nA;rw[List.countP_cons];rfl
@[simp] theorem next_normal:Ex.next k K .normal ⟨f,o,n,s,g⟩=k ⟨f,o,n,s,g⟩:=rfl
@[simp] theorem next_exit (i:Nat):Ex.next k K (.exit i) ⟨f,o,n,s,g⟩=K (.exit i) ⟨f,o,n,s,g⟩:=rfl
@[simp] theorem next_ret:Ex.next k K .ret ⟨f,o,n,s,g⟩=K .ret ⟨f,o,n,s,g⟩:=rfl
@[simp] theorem inBlock_normal (id:Nat):Ex.inBlock id K .normal ⟨f,o,n,s,g⟩=K .normal ⟨f,o,n,s,g⟩:=rfl
@[simp] theorem inBlock_exit (id i:Nat):Ex.inBlock id K (.exit i) ⟨f,o,n,s,g⟩=if i=id then K .normal ⟨f,o,n,s,g⟩else K (.exit i) ⟨f,o,n,s,g⟩:=rfl
@[simp] theorem inBlock_ret (id:Nat):Ex.inBlock id K .ret ⟨f,o,n,s,g⟩=K .ret ⟨f,o,n,s,g⟩:=rfl
@[simp] theorem cfOps_nil (ops:List Oper):cfOps P ops [] k ⟨f,o,n,s,g⟩=k ⟨f,o,n,s,g⟩:=rfl
@[simp] theorem cfOps_cons (ops rest:List Oper) (dst:Option Tmp) (op:Op) (ty:TypeId) (pos:String) (af:Array Edge):
  cfOps P ops (⟨dst,op,ty,pos,af,none⟩::rest) k ⟨f,o,n,s,g⟩=cfOp P ⟨dst,op,ty,pos,#[],none⟩ (cfOps P ops rest k) ⟨f,o,n,s,g⟩:=by cases op<;>rfl
def cfGd (P:Program) (d:Option Tmp) (ops:List Oper) (o:Oper) (want:Bool) (k:St→Prop) (st:St):Prop:=
 match d with
 |none=>False
 |some g=>match guardOf (st.raw g) want with
  |some c=>cfG P o c k st
  |none=>False
@[simp] theorem cfOps_cons_g (ops rest:List Oper) (dst:Option Tmp) (op:Op) (ty:TypeId) (pos:String) (af:Array Edge) (j:Nat) (want:Bool):
  cfOps P ops (⟨dst,op,ty,pos,af,some (j,want)⟩::rest) k ⟨f,o,n,s,g⟩=cfGd P ((ops[j]?).bind (·.dst)) ops ⟨dst,op,ty,pos,#[],none⟩ want (cfOps P ops rest k) ⟨f,o,n,s,g⟩:=by cases op<;>rfl
def cfGdH (P:Program) (H:Hd) (d:Option Tmp) (ops:List Oper) (o:Oper) (want:Bool) (k:St→Prop) (st:St):Prop:=
 match d with
 |none=>False
 |some g=>match guardOf (st.raw g) want with
  |some c=>cfGH P H o c k st
  |none=>False
@[simp] theorem cfOpsH_cons_g (ops rest:List Oper) (dst:Option Tmp) (op:Op) (ty:TypeId) (pos:String) (af:Array Edge) (j:Nat) (want:Bool):
  cfOpsH P H ops (⟨dst,op,ty,pos,af,some (j,want)⟩::rest) k ⟨f,o,n,s,g⟩=cfGdH P H ((ops[j]?).bind (·.dst)) ops ⟨dst,op,ty,pos,#[],none⟩ want (cfOpsH P H ops rest k) ⟨f,o,n,s,g⟩:=by cases op<;>rfl
@[simp] theorem cfGdH_some (d:Tmp) (ops:List Oper) (op:Oper) (want:Bool):cfGdH P H (some d) ops op want k ⟨f,o,n,s,g⟩=match guardOf (St.raw ⟨f,o,n,s,g⟩ d) want with
 |some c=>cfGH P H op c k ⟨f,o,n,s,g⟩
 |none=>False:=rfl
@[simp] theorem cfGd_some (d:Tmp) (ops:List Oper) (op:Oper) (want:Bool):cfGd P (some d) ops op want k ⟨f,o,n,s,g⟩=match guardOf (St.raw ⟨f,o,n,s,g⟩ d) want with
  |some c=>cfG P op c k ⟨f,o,n,s,g⟩
  |none=>False:=rfl
@[simp] theorem St_get_none (t:Nat):St.get ⟨f,o,n,s,none⟩ t=(look f t).getD .undef:=rfl
@[simp] theorem St_get_some (t:Nat) (c:Bool):St.get ⟨f,o,n,s,some c⟩ t=((look f t).getD .undef).strip c:=rfl
@[simp] theorem St_raw (t:Nat):St.raw ⟨f,o,n,s,g⟩ t=(look f t).getD .undef:=rfl
@[simp] theorem St_put_none (a:AV):St.put ⟨f,o,n,s,g⟩ none a=⟨f,o,n,s,g⟩:=rfl
@[simp] theorem St_put_some (d:Nat) (a:AV):St.put ⟨f,o,n,s,g⟩ (some d) a=⟨(d,if d<s then a else .undef)::f,o,n,s,g⟩:=rfl
@[simp] theorem St_ev_tmp (t:Tmp):St.ev ⟨f,o,n,s,g⟩ (.tmp t)=St.get ⟨f,o,n,s,g⟩ t:=rfl
@[simp] theorem St_ev_const (v:Value):St.ev ⟨f,o,n,s,g⟩ (.const v)=.im (.sc v):=rfl
@[simp] theorem St_ev_global (t:Nat):St.ev ⟨f,o,n,s,g⟩ (.global t)=.im (.sc (.pointer (some ⟨t,0,none⟩))):=rfl
@[simp] theorem St_ev_func (t:Nat):St.ev ⟨f,o,n,s,g⟩ (.func t)=.fn t []:=rfl
@[simp] theorem St_evR (x:Operand):St.evR ⟨f,o,n,s,g⟩ x=St.ev ⟨f,o,n,s,none⟩ x:=rfl
@[simp] theorem St_obj (t:Nat):St.obj ⟨f,o,n,s,g⟩ t=look o t:=rfl
@[simp] theorem St_setObj (t:Nat) (x:AObj):St.setObj ⟨f,o,n,s,g⟩ t x=⟨f,(t,x)::o,n,s,g⟩:=rfl
@[simp] theorem St_new (x:AObj):St.new ⟨f,o,n,s,g⟩ x=⟨f,(n,x)::o,n+1,s,g⟩:=rfl
@[simp] theorem St_addOuts (xs:List AObj):St.addOuts ⟨f,o,n,s,g⟩ xs=⟨f,enumL n (xs.map (AObj.ren (·+n)))++o,n+xs.length,s,g⟩:=rfl
end
@[simp] theorem St_nil1_sl (f:List (Nat×AV)) (o:List (Nat×AObj)) (n s:Nat) (g:Option Bool) (i:Nat) (e:TypeId) (k:Nat):St.nil1 ⟨f,o,n,s,g⟩ (.sl i e k)=if((look f i).getD .undef).isNil then⟨(i,.row n)::f,(n,.row e k [])::o,n+1,s,g⟩else⟨f,o,n,s,g⟩:=rfl
@[simp] theorem St_nil1_cl (f:List (Nat×AV)) (o:List (Nat×AObj)) (n s:Nat) (g:Option Bool) (j i:Nat) (e:TypeId) (k:Nat):St.nil1 ⟨f,o,n,s,g⟩ (.cl j i e k)=match look o j with
  |some (.box t cs)=>if((cs[i]?).getD .undef).isNil then⟨f,(j,.box t (cs.set i (.row n)))::(n,.row e k [])::o,n+1,s,g⟩else⟨f,o,n,s,g⟩
  |_=>⟨f,o,n,s,g⟩:=rfl
@[simp] theorem St_nil1_mv (f:List (Nat×AV)) (o:List (Nat×AObj)) (n s:Nat) (g:Option Bool) (j i:Nat):St.nil1 ⟨f,o,n,s,g⟩ (.mv j i)=match look o j with
  |some (.box t cs)=>match (cs[i]?).getD .undef with
   |.row r=>match look o r with
    |some (.row e k xs)=>⟨f,(j,.box t (cs.set i (.row n)))::(n,.row e k xs)::(r,.gone)::o,n+1,s,g⟩
    |_=>⟨f,o,n,s,g⟩
   |_=>⟨f,o,n,s,g⟩
  |_=>⟨f,o,n,s,g⟩:=rfl
@[simp] theorem isNil_nil:AV.isNil (.im (.sc (.slice none 0 0)))=true:=rfl
attribute [simp] effK aEff aVal2 aBin2 nilEq fillA bnd evO imL AV.rows AV.rowsL AV.ivs elems rowOf srcOf dropO eqFs
@[simp] theorem unc_mk (f:List (Nat×AV)) (o:List (Nat×AObj)) (n s:Nat) (g:Option Bool):St.unc ⟨f,o,n,s,g⟩=⟨uncF f,o,n,s,g⟩:=rfl
attribute [simp] uncF
attribute [simp] rgOf cfQ cfQG cfOpH cfGH cfOp cfG aDo aMp aRP aSubP subP aSub3 srcP aLook aEnt mpVal aSub aStr rowAt bytesOf dstOf St.cellsAt St.stCells St.freeze1 AV.view1
@[simp] theorem imp_left (a b:Bool):(!(a&&b)||a)=true:=by cases a<;>cases b<;>rfl
@[simp] theorem imp_left' (a b:Bool):(!a||!b||a)=true:=by cases a<;>cases b<;>rfl
@[simp] theorem imp_self' (a:Bool):(!a||a)=true:=by cases a<;>rfl
@[simp] theorem leL_cons (c d:AV) (cs ds:List AV):AV.leL (c::cs) (d::ds)=(c.le d∧AV.leL cs ds):=by
 simp only[AV.leL,List.cons.injEq,eq_iff_iff]
 constructor
 ·rintro⟨_,_,⟨rfl,rfl⟩,h1,h2⟩;exact⟨h1,h2⟩
 ·rintro⟨h1,h2⟩;exact⟨c,cs,⟨rfl,rfl⟩,h1,h2⟩
@[simp] theorem le_im_im (x y:IV):(AV.im x).le (.im y)=x.le y:=by
 simp only[AV.le,AV.im.injEq,eq_iff_iff]
 constructor
 ·rintro⟨_,rfl,h⟩;exact h
 ·intro h;exact⟨x,rfl,h⟩
@[simp] theorem le_agg_agg (cs ds:List AV):(AV.agg cs).le (.agg ds)=AV.leL cs ds:=by
 simp only[AV.le,AV.agg.injEq,eq_iff_iff]
 constructor
 ·rintro⟨_,rfl,h⟩;exact h
 ·intro h;exact⟨cs,rfl,h⟩
@[simp] theorem le_tup_tup (cs ds:List AV):(AV.tup cs).le (.tup ds)=AV.leL cs ds:=by
 simp only[AV.le,AV.tup.injEq,eq_iff_iff]
 constructor
 ·rintro⟨_,rfl,h⟩;exact h
 ·intro h;exact⟨cs,rfl,h⟩
@[simp] theorem avle_self (x:AV):AV.le x x=True:=by simp[AV.le_refl]
@[simp] theorem avleL_self (x:List AV):AV.leL x x=True:=by simp[AV.leL_refl]
@[simp] theorem le_undef (a:AV):a.le .undef=True:=by simp only[AV.le]
@[simp] theorem le_ptr (a:AV) (n o:Nat):a.le (.ptr n o)=(a=.ptr n o):=by simp only[AV.le]
def EndF (P:Program) (rvs:List ResultVar) (r:AV):Ex→St→Prop
 |.exit _,_=>False
 |.normal,st=>retVal P st rvs=some r
 |.ret,st=>retVal P st rvs=some r
attribute [simp] EndF
theorem RetK.pure {rvs:List ResultVar} {r:AV} (h:retVal P st rvs=some r) (hp:r.pure=true):RetK P 0 rvs r [] st:=by
 refine⟨[],r,[],[],h,?_⟩
 show Entails 0 {(st.freeze [])with fr:=[(0,r.view (st.freeze []))],size:=1} _ _
 have hv:r.view (st.freeze [])=r:=view_pure _ r hp
 rw[hv]
 refine⟨rfl,rfl,rfl,rfl,List.nodup_nil,fun x h=>?_,fun p hp'=>?_,fun p hp'=>?_⟩
 ·simp at h
 ·simp at hp'
  subst hp'
  rw[AV.pure_ren _ r hp]
  exact AV.le_refl r
 ·simp[enumL]at hp'
theorem FSpec.of_flat {q:List (Nat×Rg)} {f:FuncId} {fn:Func} {c:Code} {n:Nat} {rvs:List ResultVar} {args:List AV} {r:AV}
  (hf:P.funcs[f]? =some fn) (hname:(fn.name== "runtime.NumGoroutine")=false) (hb:fn.body=some c) (hn:fn.ntmps=n) (hr:fn.results=rvs.toArray) (hP:P.follows .mixedOrders=true) (hsh:shapes q n c=true) (hle:args.length≤n) (hp:r.pure=true)
  (h:cf P noH q 0 c (.out (iterR P 0)) (EndF P rvs r) (stIn args [] n)):FSpec P f args [] r []:=by
 refine FSpec.of_K (c:=c) (q:=q) hf hname hb hn hr hP hsh hle rfl (K:=EndF P rvs r) ?_ h
 intro e st h
 cases e with
 |normal=>exact RetK.pure h hp
 |exit=>exact h
 |ret=>exact RetK.pure h hp
theorem CallX.pre {f:FuncId} {args:List AV} {d:Option Nat} {k:St→Prop} (x:NilAt) (h:CallX P f args d k (st.nil1 x)):CallX P f args d k st:=let ⟨ns,h⟩:=h;⟨x::ns,h⟩
@[simp] theorem St_nil1_fz (l:List Nat):St.nil1 st (.fz l)={st.freeze l with fr:=viewF (st.freeze l) (st.freeze l).fr}:=rfl
attribute [simp] viewF
theorem CallK.same {f:FuncId} {args:List AV} {r:AV} {d:Option Nat} {k:St→Prop} (hs:FSpec P f args [] r []) (hp:AV.pureL args=true) (hf:r.flat=true) (hk:k (st.put d r)):CallX P f args d k st:=
 ⟨[],.inl ⟨[],args,r,[],hs,hp,by unfold argsOk;rw[map_view_pure _ _ hp];exact AV.leL_refl _,by simp only[hf,List.isEmpty_nil,Bool.and_self,if_true];exact hk⟩⟩
end Go.Am
namespace Go.Am
open Go.RowKit
variable {P:Program}
def Again {G:Type} (nin:Nat) (mk:G→St) (R:G→Prop) (μ:G→Nat) (g:G) (st:St):Prop:=
 ∃g' ns' rs',R g'∧μ g'<μ g∧Entails nin (St.nils st ns') (mk g') rs'
theorem LoopK.intro {G:Type} {nin:Nat} {body:(Ex→St→Prop)→St→Prop} {K:Ex→St→Prop} {st:St} (mk:G→St) (R:G→Prop) (μ:G→Nat) (g0:G) (rs:List Nat) (h0:R g0) (hE:Entails nin st (mk g0) rs)
  (hr:∀g,R g→body (Ex.next (Again nin mk R μ g) K) (mk g)):LoopK nin body K st:=
 ⟨G,mk,R,μ,g0,[],rs,h0,hE,hr⟩
theorem LoopK.nil {nin:Nat} {body:(Ex→St→Prop)→St→Prop} {K:Ex→St→Prop} {st:St} (x:NilAt) (h:LoopK nin body K (st.nil1 x)):LoopK nin body K st:=
 let ⟨G,mk,R,μ,g0,ns,rs,h1,h2,h3⟩:=h
 ⟨G,mk,R,μ,g0,x::ns,rs,h1,h2,h3⟩
theorem Entails.plain {f f':List (Nat×AV)} {o:List (Nat×AObj)} {n s:Nat} {g:Option Bool} (h:∀p∈f',((look f p.1).getD .undef).le (p.2.ren (nmOf [] n))):Entails 0 ⟨f,o,n,s,g⟩ ⟨f',[],0,s,none⟩ [] where
 grd:=rfl
 size:=rfl
 ins:=rfl
 len:=rfl
 nodup:=List.nodup_nil
 lt:=fun x h=>by simp at h
 fr:=h
 objs:=fun p hp=>by simp at hp
theorem LoopK.plain {G:Type} {body:(Ex→St→Prop)→St→Prop} {K:Ex→St→Prop} {f:List (Nat×AV)} {o:List (Nat×AObj)} {n s:Nat} {gd:Option Bool} (fr:G→List (Nat×AV)) (R:G→Prop) (μ:G→Nat) (g0:G) (h0:R g0)
  (hE:∀p∈fr g0,((look f p.1).getD .undef).le (p.2.ren (nmOf [] n)))
  (hr:∀g,R g→body (Ex.next (Again 0 (fun g=>⟨fr g,[],0,s,none⟩) R μ g) K) ⟨fr g,[],0,s,none⟩):LoopK 0 body K ⟨f,o,n,s,gd⟩:=
 LoopK.intro _ R μ g0 [] h0 (Entails.plain hE) hr
theorem Again.plain {G:Type} {fr:G→List (Nat×AV)} {R:G→Prop} {μ:G→Nat} {g:G} {f:List (Nat×AV)} {o:List (Nat×AObj)} {n s:Nat} {gd:Option Bool} (g':G) (h0:R g') (hm:μ g'<μ g)
  (hE:∀p∈fr g',((look f p.1).getD .undef).le (p.2.ren (nmOf [] n))):Again 0 (fun g=>⟨fr g,[],0,s,none⟩) R μ g ⟨f,o,n,s,gd⟩:=
 ⟨g',[],[],h0,hm,Entails.plain hE⟩
attribute [simp] IV.le IntKind.bits
theorem CallQ.same {g:FuncId} {args:List AV} {r:AV} {d:Option Nat} {k:St→Prop} {st:St} (hs:FSpec P g args [] r []) (hp:AV.pureL args=true) (hr:r.pure=true) (hk:k (st.put d r)):CallQ P g args d k st:=
 ⟨args,r,hs,hp,AV.leL_refl _,hr,hk⟩
theorem CallQG.same {c:Bool} {g:FuncId} {args:List AV} {d:Option Nat} {k:St→Prop} {st:St} (v:Value) (hs:FSpec P g args [] (.im (.sc v)) []) (hp:AV.pureL args=true) (hk:k (st.put d (.cond c (.im (.sc v))))):CallQG P c g args d k st:=
 ⟨args,v,fun _=>⟨hs,AV.leL_refl _⟩,hp,hk⟩
theorem CallG.same {c:Bool} {g:FuncId} {args:List AV} {d:Option Nat} {k:St→Prop} {st:St} (v:Value) (hs:FSpec P g args [] (.im (.sc v)) []) (hp:AV.pureL args=true) (hk:k (st.put d (.cond c (.im (.sc v))))):CallG P c g args d k st:=
 .inl ⟨[],args,v,fun _=>⟨hs,leL_view _ _ _ (AV.leL_refl _) hp⟩,hp,hk⟩
theorem CallG.on {f:FuncId} {args:List AV} {d:Option Nat} {k:St→Prop} {st:St} (h:CallX P f args d k st):CallG P true f args d k st:=.inr ⟨rfl,h⟩
theorem CallK.fz {f:FuncId} {args args':List AV} {r:AV} {d:Option Nat} {k:St→Prop} {st:St} (fl:List Nat) (hs:FSpec P f args' [] r []) (hp:AV.pureL args'=true) (ha:argsOk (st.freeze fl) args args') (hf:r.flat=true) (hk:k (st.put d r)):CallX P f args d k st:=
 ⟨[],.inl ⟨fl,args',r,[],hs,hp,ha,by simp only[hf,List.isEmpty_nil,Bool.and_self,if_true];exact hk⟩⟩
theorem CallX.ext {f:FuncId} {d:Option Nat} {k:St→Prop} {st:St} {vs:List Value} {r:AV} {v:Value} (hx:ExtV P f vs v) (hr:∀m c,VRep m c r v) {args:List AV} (ha:args=vs.map fun x=>AV.im (.sc x)) (hk:k (st.put d r)):CallX P f args d k st:=
 ⟨[],.inr (.inr (.inr (.inr ⟨vs,r,v,ha,hx,hr,hk⟩)))⟩
attribute [simp] argsOk
theorem wrap64 {x:Int} (h0: -9223372036854775808≤x) (h1:x≤9223372036854775807):IntKind.i64.wrap x=x:=by
 simp[IntKind.wrap,IntKind.signed,IntKind.bits]
 omega
mutual
def IV.bd:IV→Prop
 |.sc _=>True
 |.sl _ xs=>xs.length≤maxLen∧IV.bdRows xs
def IV.bdRow:List IV→Prop
 |[]=>True
 |x::l=>x.bd∧IV.bdRow l
def IV.bdRows:List (List IV)→Prop
 |[]=>True
 |x::l=>IV.bdRow x∧IV.bdRows l
end
def AV.bdL:List AV→Prop
 |[]=>True
 |.im x::l=>x.bd∧AV.bdL l
 |.agg cs::l=>(∀x∈cs,∀y,x=.im y→y.bd)∧AV.bdL l
 |_::l=>AV.bdL l
mutual
theorem IRep.bd {c:Addr→Value→Prop}:∀{x:IV} {v:Value},IRep c x v→x.bd
 |.sc _,_,_=>trivial
 |.sl k xs,v,h=>by
  cases h with|@sl _ _ A cap u a hcap hmax hA hk hc h1 hr=>
  exact⟨Nat.le_trans hcap hmax,IRep.bdRows xs fun x hx y hy=>by
   obtain⟨i,hi,rfl⟩:=List.mem_iff_getElem.1 hx
   obtain⟨j,hj,rfl⟩:=List.mem_iff_getElem.1 hy
   exact⟨_,hr i _ j _ (List.getElem?_eq_getElem hi) (List.getElem?_eq_getElem hj)⟩⟩
theorem IRep.bdRow {c:Addr→Value→Prop}:∀(l:List IV),(∀y∈l,∃v,IRep c y v)→IV.bdRow l
 |[],_=>trivial
 |y::l,h=>⟨by obtain⟨v,hv⟩:=h y List.mem_cons_self;exact IRep.bd hv,IRep.bdRow l fun z hz=>h z (List.mem_cons_of_mem _ hz)⟩
theorem IRep.bdRows {c:Addr→Value→Prop}:∀(l:List (List IV)),(∀x∈l,∀y∈x,∃v,IRep c y v)→IV.bdRows l
 |[],_=>trivial
 |x::l,h=>⟨IRep.bdRow x (h x List.mem_cons_self),IRep.bdRows l fun z hz=>h z (List.mem_cons_of_mem _ hz)⟩
end
theorem bdL_of {m:Nm} {c:Addr→Value→Prop}:∀(args:List AV),(∀(j:Nat) (y:AV),args[j]? =some y→∃u,VRep m c y u)→AV.bdL args
 |[],_=>trivial
 |y::l,h=>by
  have ht:AV.bdL l:=bdL_of l fun j z hz=>h (j+1) z (by simpa using hz)
  obtain⟨u,hu⟩:=h 0 y rfl
  cases hu with
  |im hx=>exact⟨hx.bd,ht⟩
  |agg hl hr=>
   refine⟨fun x hx z hz=>?_,ht⟩
   subst hz
   obtain⟨j,hj,he⟩:=List.mem_iff_getElem.1 hx
   rename_i cs vs
   have:=hr j _ vs[j] (by rw[List.getElem?_eq_getElem hj,he]) (Array.getElem?_eq_getElem (by omega))
   cases this with|im h=>exact h.bd
  |_=>exact ht
theorem FSpec.bd {f:FuncId} {args:List AV} {ins:List AObj} {r:AV} {outs:List AObj} (he:Enters P f) (h:AV.bdL args→FSpec P f args ins r outs):FSpec P f args ins r outs:=by
 refine⟨he,fun m w Y vs hO hY hsz hvs=>?_⟩
 refine(h ?_).2 m w Y vs hO hY hsz hvs
 refine bdL_of (m:=m) (c:=seen w ((stO ins).X m Y)) args fun j y hy=>?_
 have hj:j<vs.size:=by rw[hsz];exact(List.getElem?_eq_some_iff.1 hy).1
 exact⟨vs[j],hvs j y _ hy (Array.getElem?_eq_getElem hj)⟩
theorem bdRows_iff:∀(l:List (List IV)),IV.bdRows l↔∀x∈l,IV.bdRow x
 |[]=>by simp[IV.bdRows]
 |x::l=>by simp[IV.bdRows,bdRows_iff l]
attribute [simp] IV.bd IV.bdRow AV.bdL bdRows_iff
end Go.Am
namespace Go.Am
open Go.RowKit
variable {P:Program}
def EntObjs (o:List (Nat×AObj)) (ρ:Nat→Nat):Nat→List AObj→Prop
 |_,[]=>True
 |i,o'::l=>(∃ob,look o (ρ i)=some ob∧ob.le (o'.ren ρ))∧EntObjs o ρ (i+1) l
def EntO (nin:Nat) (f:List (Nat×AV)) (o:List (Nat×AObj)) (n:Nat) (f':List (Nat×AV)) (os':List AObj) (rs:List Nat):Prop:=
 rs.take nin=List.range nin∧rs.length=os'.length∧rs.Nodup∧(∀x∈rs,x<n)∧(∀p∈f',((look f p.1).getD .undef).le (p.2.ren (nmOf rs n)))∧EntObjs o (nmOf rs n) 0 os'
theorem entObjs_mem {o:List (Nat×AObj)} {ρ:Nat→Nat}:∀(l:List AObj) (i:Nat),EntObjs o ρ i l→∀p∈enumL i l,i≤p.1∧p.1<i+l.length∧∃ob,look o (ρ p.1)=some ob∧ob.le (p.2.ren ρ)
 |[],i,_,p,hp=>by simp[enumL]at hp
 |o'::l,i,h,p,hp=>by
  simp only[enumL,List.mem_cons]at hp
  rcases hp with rfl|hp
  ·exact⟨Nat.le_refl _,by simp,h.1⟩
  ·obtain⟨h1,h2,h3⟩:=entObjs_mem l (i+1) h.2 p hp
   exact⟨by omega,by simp;omega,h3⟩
theorem EntO.entails {nin:Nat} {f f':List (Nat×AV)} {o:List (Nat×AObj)} {n s:Nat} {g:Option Bool} {os':List AObj} {rs:List Nat} (h:EntO nin f o n f' os' rs):
  Entails nin ⟨f,o,n,s,g⟩ ⟨f',enumL 0 os',os'.length,s,none⟩ rs where
 grd:=rfl
 size:=rfl
 ins:=h.1
 len:=h.2.1
 nodup:=h.2.2.1
 lt:=h.2.2.2.1
 fr:=h.2.2.2.2.1
 objs:=fun p hp=>by
  obtain⟨_,h2,h3⟩:=entObjs_mem _ _ h.2.2.2.2.2 p hp
  exact⟨by simpa using h2,h3⟩
def mkO (f:List (Nat×AV)) (os:List AObj) (s:Nat):St:=⟨f,enumL 0 os,os.length,s,none⟩
theorem LoopK.os {G:Type} {nin:Nat} {body:(Ex→St→Prop)→St→Prop} {K:Ex→St→Prop} {f:List (Nat×AV)} {o:List (Nat×AObj)} {n s:Nat} {gd:Option Bool} (fr:G→List (Nat×AV)) (ob:G→List AObj) (R:G→Prop) (μ:G→Nat) (g0:G) (rs:List Nat) (h0:R g0)
  (hE:EntO nin f o n (fr g0) (ob g0) rs)
  (hr:∀g,R g→body (Ex.next (Again nin (fun g=>mkO (fr g) (ob g) s) R μ g) K) ⟨fr g,enumL 0 (ob g),(ob g).length,s,none⟩):LoopK nin body K ⟨f,o,n,s,gd⟩:=
 LoopK.intro _ R μ g0 rs h0 hE.entails hr
theorem Again.os {G:Type} {nin:Nat} {fr:G→List (Nat×AV)} {ob:G→List AObj} {R:G→Prop} {μ:G→Nat} {g:G} {f:List (Nat×AV)} {o:List (Nat×AObj)} {n s:Nat} {gd:Option Bool} (g':G) (rs:List Nat) (h0:R g') (hm:μ g'<μ g)
  (hE:EntO nin f o n (fr g') (ob g') rs):Again nin (fun g=>mkO (fr g) (ob g) s) R μ g ⟨f,o,n,s,gd⟩:=
 ⟨g',[],rs,h0,hm,hE.entails⟩
attribute [simp] EntO EntObjs
def EndZ (P:Program) (rvs:List ResultVar) (r:AV):Ex→St→Prop
 |.exit _,_=>False
 |_,st=>∃(fl:List Nat) (r0:AV),retVal P st rvs=some r0∧(r0.view (st.freeze fl)).le r
theorem RetK.z {st:St} {rvs:List ResultVar} {r:AV} {fl:List Nat} {r0:AV} (h:retVal P st rvs=some r0) (hl:(r0.view (st.freeze fl)).le r) (hp:r.pure=true):RetK P 0 rvs r [] st:=by
 refine⟨[],r0,fl,[],h,rfl,rfl,rfl,rfl,List.nodup_nil,fun x h=>?_,fun p hp'=>?_,fun p hp'=>?_⟩
 ·simp at h
 ·simp at hp'
  subst hp'
  rw[AV.pure_ren _ r hp]
  exact hl
 ·simp[enumL]at hp'
theorem FSpec.of_z {q:List (Nat×Rg)} {f:FuncId} {fn:Func} {c:Code} {n:Nat} {rvs:List ResultVar} {args:List AV} {r:AV}
  (hf:P.funcs[f]? =some fn) (hname:(fn.name== "runtime.NumGoroutine")=false) (hb:fn.body=some c) (hn:fn.ntmps=n) (hr:fn.results=rvs.toArray) (hP:P.follows .mixedOrders=true) (hsh:shapes q n c=true) (hle:args.length≤n) (hp:r.pure=true)
  (h:cf P noH q 0 c (.out (iterR P 0)) (EndZ P rvs r) (stIn args [] n)):FSpec P f args [] r []:=by
 refine FSpec.of_K (c:=c) (q:=q) hf hname hb hn hr hP hsh hle rfl (K:=EndZ P rvs r) ?_ h
 intro e st h
 cases e with
 |normal=>obtain⟨fl,r0,h1,h2⟩:=h;exact RetK.z h1 h2 hp
 |exit=>exact h
 |ret=>obtain⟨fl,r0,h1,h2⟩:=h;exact RetK.z h1 h2 hp
theorem EndZ.ret {rvs:List ResultVar} {r:AV} {st:St} (fl:List Nat) (r0:AV) (h:retVal P st rvs=some r0) (hl:(r0.view (st.freeze fl)).le r):EndZ P rvs r .ret st:=⟨fl,r0,h,hl⟩
def EndO0 (P:Program) (nin:Nat) (rvs:List ResultVar) (r:AV) (outs:List AObj) (st:St):Prop:=
 ∃(fl rs:List Nat) (r0:AV),retVal P st rvs=some r0∧EntO nin [(0,r0.view (st.freeze fl))] (st.freeze fl).objs (st.freeze fl).next [(0,r)] outs rs
def EndO (P:Program) (nin:Nat) (rvs:List ResultVar) (r:AV) (outs:List AObj):Ex→St→Prop
 |.exit _,_=>False
 |_,st=>∃ns:List NilAt,EndO0 P nin rvs r outs (st.nils ns)
theorem FSpec.of_o {q:List (Nat×Rg)} {f:FuncId} {fn:Func} {c:Code} {n:Nat} {rvs:List ResultVar} {args:List AV} {ins:List AObj} {r:AV} {outs:List AObj}
  (hf:P.funcs[f]? =some fn) (hname:(fn.name== "runtime.NumGoroutine")=false) (hb:fn.body=some c) (hn:fn.ntmps=n) (hr:fn.results=rvs.toArray) (hP:P.follows .mixedOrders=true) (hsh:shapes q n c=true) (hle:args.length≤n)
  (hout:outs.all AObj.noSv=true) (h:cf P noH q ins.length c (.out (iterR P ins.length)) (EndO P ins.length rvs r outs) (stIn args ins n)):FSpec P f args ins r outs:=by
 have key:∀st:St,(∃ns:List NilAt,EndO0 P ins.length rvs r outs (st.nils ns))→RetK P ins.length rvs r outs st:=by
  rintro st ⟨ns,fl,rs,r0,h1,h2⟩
  exact⟨ns,r0,fl,rs,h1,h2.entails⟩
 refine FSpec.of_K (c:=c) (q:=q) hf hname hb hn hr hP hsh hle hout (K:=EndO P ins.length rvs r outs) ?_ h
 intro e st h
 cases e with
 |normal=>exact key st h
 |exit=>exact h
 |ret=>exact key st h
theorem EndO.ret {nin:Nat} {rvs:List ResultVar} {r:AV} {outs:List AObj} {st:St} (fl rs:List Nat) (r0:AV) (h:retVal P st rvs=some r0) (hl:EntO nin [(0,r0.view (st.freeze fl))] (st.freeze fl).objs (st.freeze fl).next [(0,r)] outs rs):EndO P nin rvs r outs .ret st:=⟨[],fl,rs,r0,h,hl⟩
theorem EndO.normal {nin:Nat} {rvs:List ResultVar} {r:AV} {outs:List AObj} {st:St} (fl rs:List Nat) (r0:AV) (h:retVal P st rvs=some r0) (hl:EntO nin [(0,r0.view (st.freeze fl))] (st.freeze fl).objs (st.freeze fl).next [(0,r)] outs rs):EndO P nin rvs r outs .normal st:=⟨[],fl,rs,r0,h,hl⟩
theorem EndO.nilR {nin:Nat} {rvs:List ResultVar} {r:AV} {outs:List AObj} {st:St} (x:NilAt) (h:EndO P nin rvs r outs .ret (st.nil1 x)):EndO P nin rvs r outs .ret st:=let ⟨ns,h⟩:=h;⟨x::ns,h⟩
theorem CallK.val {f:FuncId} {args args':List AV} {r:AV} {d:Option Nat} {k:St→Prop} {st:St} (fl:List Nat) (hs:FSpec P f args' [] r []) (hp:AV.pureL args'=true) (ha:argsOk (st.freeze fl) args args') (hr:r.pure=true) (hk:k ((st.freeze fl).put d r)) (hk':k (st.put d r)):CallX P f args d k st:=by
 refine⟨[],.inl ⟨fl,args',r,[],hs,hp,ha,?_⟩⟩
 split
 ·exact hk'
 ·rw[AV.pure_ren _ r hr]
  exact hk
theorem CallK.pv {f:FuncId} {args:List AV} {r:AV} {d:Option Nat} {k:St→Prop} {st:St} (hs:FSpec P f args [] r []) (hp:AV.pureL args=true) (hr:r.pure=true) (hk:k (st.put d r)):CallX P f args d k st:=
 CallK.val [] hs hp (by unfold argsOk;rw[map_view_pure _ _ hp];exact AV.leL_refl _) hr hk hk
theorem CallK.outs {f:FuncId} {args args':List AV} {r:AV} {outs:List AObj} {d:Option Nat} {k:St→Prop} {st:St} (fl:List Nat) (hs:FSpec P f args' [] r outs) (hp:AV.pureL args'=true) (ha:argsOk (st.freeze fl) args args') (hr:(r.flat&&outs.isEmpty)=false)
  (hk:k (((st.freeze fl).addOuts outs).put d (r.ren (·+st.next)))):CallX P f args d k st:=by
 refine⟨[],.inl ⟨fl,args',r,outs,hs,hp,ha,?_⟩⟩
 rw[hr]
 exact hk
theorem CallO.mk0 {f:FuncId} {args args':List AV} {ins outs:List AObj} {r:AV} {d:Option Nat} {k:St→Prop} {st:St} (fl nms:List Nat) (hs:FSpec P f args' ins r outs) (h1:nms.Nodup) (h2:nms.length=ins.length) (h3:ins.length≤outs.length)
  (h4:EntObjs (st.freeze fl).objs (nmOf nms st.next) 0 ins) (h5:AV.leL (args.map (AV.view (st.freeze fl))) (AV.renL (nmOf nms st.next) args')) (hk:k (((st.freeze fl).after nms outs).put d (r.ren (nmX nms st.next)))):CallO P f args d k st:=by
 refine⟨fl,nms,args',ins,outs,r,hs,h1,h2,h3,?_,h5,hk⟩
 have key:∀(l:List AObj) (j:Nat),EntObjs (st.freeze fl).objs (nmOf nms st.next) j l→∀(i:Nat) (o:AObj),l[i]? =some o→∃o',(st.freeze fl).obj (nmOf nms st.next (j+i))=some o'∧o'.le (o.ren (nmOf nms st.next)):=by
  intro l
  induction l with
  |nil=>intro j _ i o h;simp at h
  |cons x l ih=>
   intro j h i o ho
   cases i with
   |zero=>simp at ho;subst ho;exact h.1
   |succ i=>
    have:=ih (j+1) h.2 i o (by simpa using ho)
    rw[show j+(i+1)=j+1+i by omega]
    exact this
 intro i o ho
 have:=key ins 0 h4 i o ho
 rwa [Nat.zero_add]at this
theorem CallO.mk {f:FuncId} {args args':List AV} {ins outs:List AObj} {r:AV} {d:Option Nat} {k:St→Prop} {st:St} (fl nms:List Nat) (hs:FSpec P f args' ins r outs) (h1:nms.Nodup) (h2:nms.length=ins.length) (h3:ins.length≤outs.length)
  (h4:EntObjs (st.freeze fl).objs (nmOf nms st.next) 0 ins) (h5:AV.leL (args.map (AV.view (st.freeze fl))) (AV.renL (nmOf nms st.next) args')) (hk:k (((st.freeze fl).after nms outs).put d (r.ren (nmX nms st.next)))):CallX P f args d k st:=⟨[],.inr (.inl (CallO.mk0 fl nms hs h1 h2 h3 h4 h5 hk))⟩
@[simp] theorem St_after (f:List (Nat×AV)) (o:List (Nat×AObj)) (n s:Nat) (g:Option Bool) (nms:List Nat) (outs:List AObj):St.after ⟨f,o,n,s,g⟩ nms outs=⟨f,enumX (nmX nms n) (AObj.ren (nmX nms n)) outs 0++o,n+(outs.length-nms.length),s,g⟩:=rfl
attribute [simp] enumX nmX
end Go.Am
namespace Go.Am
open Go.RowKit
variable {P:Program}
mutual
theorem AV.ren_id:∀a:AV,a.ren (fun n=>n)=a
 |.im _=>rfl
 |.eptr _=>rfl
 |.rptr _ _ _ _=>rfl
 |.ptr _ _=>rfl
 |.row _=>rfl
 |.agg cs=>by simp only[AV.ren,AV.renL_id cs]
 |.tup cs=>by simp only[AV.ren,AV.renL_id cs]
 |.fn f cs=>by simp only[AV.ren,AV.renL_id cs]
 |.map _=>rfl
 |.yld _=>rfl
 |.sub _ _ _ _=>rfl
 |.cut _ _=>rfl
 |.cond b a=>by simp only[AV.ren,AV.ren_id a]
 |.undef=>rfl
theorem AV.renL_id:∀l:List AV,AV.renL (fun n=>n) l=l
 |[]=>rfl
 |a::l=>by simp only[AV.renL,AV.ren_id a,AV.renL_id l]
end
theorem AObj.ren_id (o:AObj):o.ren (fun n=>n)=o:=by
 have hm':∀{α:Type} (l:List (α×AV)),renM (fun n=>n) l=l:=by
  intro α l
  induction l with
  |nil=>rfl
  |cons x l ih=>obtain⟨i,y⟩:=x;simp only[renM,AV.ren_id,ih]
 cases o<;>simp only[AObj.ren,AV.renL_id,hm']
theorem nmOf_range (n:Nat):nmOf (List.range n) n=fun i=>i:=by
 funext i
 unfold nmOf
 by_cases h:i<n
 ·simp[h]
 ·rw[List.getElem?_eq_none (by simp;omega)];simp;omega
theorem nmX_range (n:Nat):nmX (List.range n) n=fun i=>i:=by
 funext i
 unfold nmX
 simp only[List.length_range]
 split
 ·rename_i h;simp[List.getD_eq_getElem?_getD,h]
 ·omega
theorem entObjs_id {o:List (Nat×AObj)}:∀(l:List AObj) (j:Nat),(∀i o',l[i]? =some o'→∃ob,look o (j+i)=some ob∧ob.le o')→EntObjs o (fun i=>i) j l
 |[],_,_=>trivial
 |x::l,j,h=>by
  refine⟨?_,entObjs_id l (j+1) fun i o' hi=>?_⟩
  ·have:=h 0 x rfl
   rw[AObj.ren_id];exact this
  ·have:=h (i+1) o' (by simpa using hi)
   rwa [show j+(i+1)=j+1+i by omega]at this
theorem EntO.same {nin:Nat} {f f':List (Nat×AV)} {o:List (Nat×AObj)} {n:Nat} {os':List AObj} (hn:n=os'.length) (hin:nin≤n) (hf:∀p∈f',((look f p.1).getD .undef).le p.2)
  (ho:∀i o',os'[i]? =some o'→∃ob,look o i=some ob∧ob.le o'):EntO nin f o n f' os' (List.range n):=by
 refine⟨?_,by simp[hn],List.nodup_range,fun x hx=>by simpa using hx,?_,?_⟩
 ·rw[List.take_range];congr 1;omega
 ·rw[nmOf_range]
  intro p hp
  rw[AV.ren_id]
  exact hf p hp
 ·rw[nmOf_range]
  exact entObjs_id os' 0 fun i o' hi=>by simpa using ho i o' hi
theorem EntO.cut {nin:Nat} {f f':List (Nat×AV)} {o:List (Nat×AObj)} {n:Nat} {os':List AObj} (hn:os'.length≤n) (hin:nin≤os'.length) (hf:∀ρ:Nat→Nat,(∀i,i<os'.length→ρ i=i)→∀p∈f',((look f p.1).getD .undef).le (p.2.ren ρ))
  (ho:∀ρ:Nat→Nat,(∀i,i<os'.length→ρ i=i)→∀i o',os'[i]? =some o'→∃ob,look o i=some ob∧ob.le (o'.ren ρ)):EntO nin f o n f' os' (List.range os'.length):=by
 have hρ:∀i,i<os'.length→nmOf (List.range os'.length) n i=i:=fun i hi=>by simp[nmOf,hi]
 refine⟨?_,by simp,List.nodup_range,fun x hx=>Nat.lt_of_lt_of_le (by simpa using hx) hn,hf _ hρ,?_⟩
 ·rw[List.take_range];congr 1;omega
 ·have key:∀(l:List AObj) (j:Nat),(∀i o',l[i]? =some o'→os'[j+i]? =some o')→EntObjs o (nmOf (List.range os'.length) n) j l:=by
   intro l
   induction l with
   |nil=>intro j _;trivial
   |cons x l ih=>
    intro j h
    have h0:=h 0 x rfl
    refine⟨?_,ih (j+1) fun i o' hi=>?_⟩
    ·rw[hρ j (List.getElem?_eq_some_iff.1 h0).1]
     exact ho _ hρ j x h0
    ·have:=h (i+1) o' (by simpa using hi)
     rwa [show j+(i+1)=j+1+i by omega]at this
  exact key os' 0 fun i o' hi=>by simpa using hi
theorem enumX_id:∀(l:List AObj) (j:Nat),enumX (fun i=>i) (AObj.ren fun i=>i) l j=enumL j l
 |[],_=>rfl
 |x::l,j=>by simp only[enumX,enumL,AObj.ren_id,enumX_id l (j+1)]
theorem CallO.same {f:FuncId} {args args':List AV} {ins outs:List AObj} {r:AV} {d:Option Nat} {k:St→Prop} {fr:List (Nat×AV)} {o:List (Nat×AObj)} {n s:Nat} {g:Option Bool} (hs:FSpec P f args' ins r outs) (hn:n=ins.length) (h3:ins.length≤outs.length)
  (h4:∀i o',ins[i]? =some o'→∃ob,look o i=some ob∧ob.le o') (h5:AV.leL (args.map (AV.view ⟨fr,o,n,s,g⟩)) args') (hk:k (St.put ⟨fr,enumL 0 outs++o,outs.length,s,g⟩ d r)):CallX P f args d k ⟨fr,o,n,s,g⟩:=by
 have hr:nmOf (List.range n) n=fun i=>i:=nmOf_range n
 have hX:nmX (List.range n) n=fun i=>i:=nmX_range n
 refine CallO.mk [] (List.range n) hs List.nodup_range (by simp[hn]) h3 ?_ ?_ ?_
 ·show EntObjs o (nmOf (List.range n) n) 0 ins
  rw[hr]
  exact entObjs_id ins 0 fun i o' hi=>by simpa using h4 i o' hi
 ·show AV.leL _ (AV.renL (nmOf (List.range n) n) args')
  rw[hr,AV.renL_id]
  exact h5
 ·show k ((St.after ⟨fr,o,n,s,g⟩ (List.range n) outs).put d (r.ren (nmX (List.range n) n)))
  rw[hX,AV.ren_id,St_after,hX,enumX_id,List.length_range]
  have:n+(outs.length-n)=outs.length:=by omega
  rw[this]
  exact hk
@[simp] theorem look_enum_app {l:List AObj} {o:List (Nat×AObj)} {i:Nat}:look (enumL 0 l++o) i=if i<l.length then l[i]? else look o i:=by
 have key:∀(l:List AObj) (j:Nat),look (enumL j l++o) i=if j≤i∧i<j+l.length then l[i-j]? else look o i:=by
  intro l
  induction l with
  |nil=>intro j;simp[enumL];omega
  |cons x l ih=>
   intro j
   simp only[enumL,List.cons_append,look]
   split
   ·rename_i h;subst h;simp
   ·rename_i h
    rw[ih (j+1)]
    by_cases hji:j≤i
    ·rw[show i-j=(i-(j+1))+1 by omega,List.getElem?_cons_succ]
     simp only[List.length_cons]
     congr 1
     simp;omega
    ·simp[hji];omega
 rw[key l 0]
 simp
theorem look_enum0 {l:List AObj} {i:Nat}:look (enumL 0 l) i=l[i]?:=by rw[look_enum];simp
theorem CallG.off {f:FuncId} {args:List AV} {d:Option Nat} {k:St→Prop} {st:St} (v:Value) (hk:k (st.put d (.cond false (.im (.sc v))))):CallG P false f args d k st:=
 .inl ⟨[],[],v,fun h=>(by cases h),rfl,hk⟩
@[simp] theorem range_1:List.range 1=[0]:=rfl
@[simp] theorem range_2:List.range 2=[0,1]:=rfl
@[simp] theorem range_3:List.range 3=[0,1,2]:=rfl
@[simp] theorem range_4:List.range 4=[0,1,2,3]:=rfl
@[simp] theorem range_5:List.range 5=[0,1,2,3,4]:=rfl
@[simp] theorem range_6:List.range 6=[0,1,2,3,4,5]:=rfl
@[simp] theorem range_7:List.range 7=[0,1,2,3,4,5,6]:=rfl
@[simp] theorem range_8:List.range 8=[0,1,2,3,4,5,6,7]:=rfl
theorem CallK.v0 {P:Go.Program} {f:FuncId} {args args':List AV} {r:AV} {d:Option Nat} {k:St→Prop} {st:St} (hs:FSpec P f args' [] r []) (hp:AV.pureL args'=true) (ha:argsOk st args args') (hr:r.pure=true) (hk:k (st.put d r)):CallX P f args d k st:=
 CallK.val [] hs hp ha hr hk hk
end Go.Am
namespace Go.Am
open Go.RowKit
variable {P:Program}
theorem FSpec.view {f:FuncId} {args:List AV} {ins outs:List AObj} {r:AV} {i:Nat} {oo:AObj} (he:Enters P f) (hi:ins[i]? =some oo) (hoo:oo.owns=true)
  (h:∀(m:Nm) (c:Addr→Value→Prop) (w:World) (l:Loc),ObjRep m c w l oo→∃o2:AObj,o2.owns=true∧ObjRep m c w l o2∧FSpec P f args (ins.set i o2) r outs):FSpec P f args ins r outs:=by
 refine⟨he,fun m w Y vs hO hY hsz hvs=>?_⟩
 obtain⟨l,hl,hrow0⟩:=hO.objs i _ (by rw[stO_obj];exact hi)
 obtain⟨o2,ho2,hrow,hspec⟩:=h _ _ _ _ hrow0
 have hlt:i<ins.length:=(List.getElem?_eq_some_iff.1 hi).1
 have hob:∀n o,(stO (ins.set i o2)).obj n=some o→∃o',(stO ins).obj n=some o'∧o'.owns=o.owns∧((n=i∧o=o2)∨(n≠i∧o'=o)):=by
  intro n o hn
  rw[stO_obj,List.getElem?_set]at hn
  split at hn
  ·rename_i e';subst e'
   cases hn
   exact⟨oo,by rw[stO_obj];exact hi,hoo.trans ho2.symm,.inl ⟨rfl,rfl⟩⟩
  ·rename_i e'
   exact⟨o,by rw[stO_obj];exact hn,rfl,.inr ⟨fun e=>e' e.symm,rfl⟩⟩
 have hown:(stO (ins.set i o2)).owned m=(stO ins).owned m:=by
  funext b
  apply propext
  constructor
  ·rintro⟨n,o,l,h1,h2,h3,h4⟩
   obtain⟨o',g1,g2,_⟩:=hob n o h1
   exact⟨n,o',l,g1,g2.trans h2,h3,h4⟩
  ·rintro⟨n,o,l',h1,h2,h3,h4⟩
   by_cases e':n=i
   ·subst e'
    exact⟨n,o2,l',by rw[stO_obj,List.getElem?_set,if_pos rfl,if_pos hlt],ho2,h3,h4⟩
   ·refine⟨n,o,l',?_,h2,h3,h4⟩
    rw[stO_obj,List.getElem?_set,if_neg (fun e=>e' e.symm),←stO_obj]
    exact h1
 have hX:∀b,(stO (ins.set i o2)).X m Y b↔(stO ins).X m Y b:=fun b=>by
  show(stO (ins.set i o2)).owned m b∨Y b↔(stO ins).owned m b∨Y b
  rw[hown]
 have hXe:(stO (ins.set i o2)).X m Y=(stO ins).X m Y:=funext fun b=>propext (hX b)
 have hfn:(fun b=>(stO (ins.set i o2)).owned m b∨Y b)=fun b=>(stO ins).owned m b∨Y b:=by rw[hown]
 have:=hspec.2 m w Y vs {objs:=?_,apart:=?_,foreign:=?_,fresh:=?_} hY hsz (by rw[hXe];exact hvs)
 ·rw[hown]at this;exact this
 ·intro n o hn
  rw[hfn]
  obtain⟨o',g1,g2,g3⟩:=hob n o hn
  rcases g3 with⟨rfl,rfl⟩|⟨_,rfl⟩
  ·exact⟨l,hl,hrow⟩
  ·exact hO.objs n _ g1
 ·intro n n' o o' l1 l2 b h1 h2 h3 h4 h5 h6 h7 h8
  obtain⟨p,g1,g2,_⟩:=hob n o h1
  obtain⟨p',k1,k2,_⟩:=hob n' o' h2
  exact hO.apart n n' p p' l1 l2 b g1 k1 (g2.trans h3) (k2.trans h4) h5 h6 h7 h8
 ·intro b hb
  rw[hown]at hb
  exact hO.foreign b hb
 ·intro n hn
  exact hO.fresh n (by simpa [stO]using hn)
theorem FSpec.openP {f:FuncId} {args:List AV} {ins outs:List AObj} {r:AV} {i:Nat} {e:TypeId} {k:Nat} {xs:List (List IV)} (he:Enters P f) (hi:ins[i]? =some (.row e k xs)) (h:∀c,xs.length≤c→c≤maxLen→FSpec P f args (ins.set i (.rowP e k xs.length c xs)) r outs):FSpec P f args ins r outs:=by
 refine FSpec.view he hi rfl fun m c w l hr=>?_
 obtain⟨A,cp,flat,rfl,hown,hone,hlen,hrr⟩:=hr
 have hcp:xs.length≤cp∧cp≤maxLen:=by
  rcases hown.2 with⟨hv,hz⟩|⟨g,cap,cur,hv,_,_,h1,h2,_⟩
  ·injection hv with _ _ e3
   subst e3
   exact⟨by omega,Nat.zero_le _⟩
  ·injection hv with _ _ e3
   subst e3
   exact⟨h1,h2⟩
 exact⟨.rowP e k xs.length cp xs,rfl,⟨A,flat,rfl,hcp.1,hown,hone,hlen,hrr⟩,h cp hcp.1 hcp.2⟩
end Go.Am
namespace Go.Am
open Go.ChangeShapes Go.WideShapes Go.ChangeAt Go.RowKit
inductive Sh where
 |int (q:IntKind)
 |bool
 |str
 |sl (l:List Sh)
mutual
def Sh.has:Sh→IV→Prop
 |.int q,x=>∃n:Int,x=.sc (.int q n)∧(Lit.int q n).wf=true
 |.bool,x=>∃b:Bool,x=.sc (.bool b)
 |.str,x=>∃s:ByteArray,x=.sc (.string s)∧s.size≤maxLen
 |.sl l,x=>∃xs:List (List IV),x=.sl l.length xs∧∀y∈xs,Sh.hasL l y
def Sh.hasL:List Sh→List IV→Prop
 |[],ys=>ys=[]
 |s::l,ys=>∃y ys',ys=y::ys'∧s.has y∧Sh.hasL l ys'
end
theorem Sh.hasL_app:∀{l m:List Sh} {xs ys:List IV},Sh.hasL l xs→Sh.hasL m ys→Sh.hasL (l++m) (xs++ys)
 |[],m,xs,ys,h1,h2=>by simp only[Sh.hasL]at h1;subst h1;exact h2
 |s::l,m,xs,ys,h1,h2=>by
  simp only[Sh.hasL]at h1
  obtain⟨y,ys',rfl,g1,g2⟩:=h1
  simp only[List.cons_append,Sh.hasL]
  exact⟨y,_,rfl,g1,Sh.hasL_app g2 h2⟩
theorem Sh.hasL_len:∀{l:List Sh} {xs:List IV},Sh.hasL l xs→xs.length=l.length
 |[],xs,h=>by simp only[Sh.hasL]at h;subst h;rfl
 |s::l,xs,h=>by
  simp only[Sh.hasL]at h
  obtain⟨y,ys',rfl,g1,g2⟩:=h
  simp[Sh.hasL_len g2]
def shF (P:Program) (rec:TypeId→Option (List Sh)):List Field→Nat→Option (List Sh)
 |[],_=>some []
 |f::fs,off=>if f.offset=off then
   match rec f.type with
   |some l=>if l.length=P.cellsOf f.type then(shF P rec fs (off+l.length)).map (l++·)else none
   |none=>none
  else none
def shT (P:Program):Nat→TypeId→Option (List Sh)
 |0,_=>none
 |n+1,t=>match P.underlying t with
  |some .bool=>some [.bool]
  |some (.int q)=>some [.int q]
  |some .string=>some [.str]
  |some (.slice e)=>match shT P n e with
   |some l=>if l.length=P.cellsOf e then some [.sl l]else none
   |none=>none
  |some (.struct fs)=>match shF P (shT P n) fs.toList 0 with
   |some l=>if l.length=P.cellsOf t then some l else none
   |none=>none
  |_=>none
mutual
def IV.bulk:IV→Nat
 |.sc _=>1
 |.sl _ xs=>IV.bulkRows xs+1
def IV.bulkRow:List IV→Nat
 |[]=>0
 |x::l=>x.bulk+IV.bulkRow l
def IV.bulkRows:List (List IV)→Nat
 |[]=>0
 |x::l=>IV.bulkRow x+IV.bulkRows l
end
theorem IV.bulkRow_app:∀l m:List IV,IV.bulkRow (l++m)=IV.bulkRow l+IV.bulkRow m
 |[],m=>by simp[IV.bulkRow]
 |x::l,m=>by simp only[List.cons_append,IV.bulkRow,IV.bulkRow_app l m];omega
mutual
def dBulk {H:Type}:DataW H→Nat
 |.lit (.string bytes)=>bytes.length+1
 |.lit _=>1
 |.nil=>1
 |.ptr d=>dBulk d+1
 |.slice elems spare=>dBulkAll elems+dBulkAll spare+1
 |.agg parts=>dBulkAll parts+1
 |.iface _ d=>dBulk d+1
 |.map entries=>dBulkEntries entries+1
 |.held _=>1
def dBulkAll {H:Type}:List (DataW H)→Nat
 |[]=>0
 |d::r=>dBulk d+dBulkAll r
def dBulkEntries {H:Type}:List (Lit×DataW H)→Nat
 |[]=>0
 |x::r=>dBulkEntry x+dBulkEntries r
def dBulkEntry {H:Type}:Lit×DataW H→Nat
 |(.string bytes,d)=>bytes.length+dBulk d+1
 |(_,d)=>dBulk d+1
end
theorem dBulk_pos {H:Type}:∀d:DataW H,1≤dBulk d:=by
 intro d
 cases d with
 |lit l=>cases l<;>simp[dBulk]
 |_=>simp[dBulk]
theorem dBulk_rows {H:Type} (D:Nat→DataW H):∀(xs:List (List IV)) (k:Nat),(∀i x,xs[i]? =some x→IV.bulkRow x≤dBulk (D (k+i)))→IV.bulkRows xs≤dBulkAll ((List.range' k xs.length).map D)
 |[],k,_=>by simp[IV.bulkRows]
 |x::xs,k,h=>by
  have h0:=h 0 x rfl
  have ih:=dBulk_rows D xs (k+1) fun i y hy=>by
   have:=h (i+1) y (by simpa using hy)
   rwa [show k+(i+1)=k+1+i by omega]at this
  simp only[List.length_cons,List.range'_succ,List.map_cons,dBulkAll,IV.bulkRows]
  simp only[Nat.add_zero]at h0
  omega
section
variable {H:Type} {enc:TypeId×Value→H} {P:Program} {w:World} {base:Nat} {sp:Nat→Bool} {held:Bool}
def RepL (w:World):List IV→List Value→Prop
 |[],vs=>vs=[]
 |x::l,vs=>∃v vs',vs=v::vs'∧v.oneCell'=true∧IRep (seen w fun _=>False) x v∧RepL w l vs'
theorem RepL.get:∀{l:List IV} {vs:List Value},RepL w l vs→vs.length=l.length∧∀(j:Nat) (x:IV),l[j]? =some x→∃v,vs[j]? =some v∧v.oneCell'=true∧IRep (seen w fun _=>False) x v
 |[],vs,h=>by simp only[RepL]at h;subst h;exact⟨rfl,fun j x h=>by simp at h⟩
 |y::l,vs,h=>by
  simp only[RepL]at h
  obtain⟨v,vs',rfl,h1,h2,h3⟩:=h
  obtain⟨g1,g2⟩:=RepL.get h3
  refine⟨by simp[g1],fun j x hx=>?_⟩
  cases j with
  |zero=>simp at hx;subst hx;exact⟨v,rfl,h1,h2⟩
  |succ j=>obtain⟨u,k1,k2,k3⟩:=g2 j x (by simpa using hx);exact⟨u,by simpa using k1,k2,k3⟩
theorem RepL.app:∀{l m:List IV} {us vs:List Value},RepL w l us→RepL w m vs→RepL w (l++m) (us++vs)
 |[],m,us,vs,h1,h2=>by simp only[RepL]at h1;subst h1;exact h2
 |x::l,m,us,vs,h1,h2=>by
  simp only[RepL]at h1
  obtain⟨v,vs',rfl,g1,g2,g3⟩:=h1
  exact⟨v,_,rfl,g1,g2,RepL.app g3 h2⟩
def OpenSh (enc:TypeId×Value→H) (P:Program) (w:World) (t:TypeId) (l:List Sh):Prop:=
 ∀(fuel:Nat) (cs:List Value) (d:DataW H) (ps:List MemPlace),DataW.trod enc P w 0 (fun _=>true) true fuel t cs=some (d,ps)→∃xs:List IV,Sh.hasL l xs∧RepL w xs cs∧IV.bulkRow xs≤dBulk d
theorem open_fields {rec:TypeId→Option (List Sh)} (hrec:∀t l,rec t=some l→OpenSh enc P w t l) {fuel:Nat} {cs:List Value}:∀(fs:List Field) (off:Nat) (l:List Sh) (xs:List (DataW H×List MemPlace)),shF P rec fs off=some l→
  (fs.mapM fun f=>DataW.trod enc P w 0 (fun _=>true) true fuel f.type ((cs.drop f.offset).take (P.cellsOf f.type)))=some xs→∃ys:List IV,Sh.hasL l ys∧RepL w ys ((cs.drop off).take l.length)∧IV.bulkRow ys≤dBulkAll (xs.map (·.1))
 |[],off,l,xs,h,hm=>by
  simp only[shF,Option.some.injEq]at h
  subst h
  exact⟨[],by simp[Sh.hasL],by simp[RepL],by simp[IV.bulkRow]⟩
 |f::fs,off,l,xs,h,hm=>by
  simp only[shF]at h
  split at h
  ·rename_i ho
   split at h
   ·rename_i l1 hl1
    split at h
    ·rename_i hlen
     simp only[Option.map_eq_some_iff]at h
     obtain⟨l2,h2,rfl⟩:=h
     simp only[List.mapM_cons,Option.bind_eq_bind,Option.bind_eq_some_iff]at hm
     obtain⟨x,hx,xs',hxs,e⟩:=hm
     cases e
     obtain⟨ys1,g1,g2,b1⟩:=hrec _ _ hl1 fuel _ x.1 x.2 hx
     obtain⟨ys2,g3,g4,b2⟩:=open_fields hrec fs _ l2 xs' h2 hxs
     refine⟨ys1++ys2,Sh.hasL_app g1 g3,?_,by rw[IV.bulkRow_app];simp only[List.map_cons,dBulkAll];omega⟩
     have:=RepL.app g2 g4
     rw[ho,←hlen]at this
     rw[List.length_append,List.take_add,List.drop_drop]
     exact this
    ·cases h
   ·cases h
  ·cases h
theorem choose_rows {n:Nat} {p:Nat→List IV→Prop} (h:∀i,i<n→∃x,p i x):∃xs:List (List IV),xs.length=n∧∀i x,xs[i]? =some x→p i x:=by
 classical
 refine⟨(List.range n).map fun i=>if hi:i<n then Classical.choose (h i hi)else[],by simp,fun i x hx=>?_⟩
 simp only[List.getElem?_map,Option.map_eq_some_iff]at hx
 obtain⟨j,hj,rfl⟩:=hx
 have hlt:i<n:=by have:=(List.getElem?_eq_some_iff.1 hj).1;simpa using this
 have:j=i:=by rw[List.getElem?_range hlt]at hj;cases hj;rfl
 subst this
 simp only[dif_pos hlt]
 exact Classical.choose_spec (h _ hlt)
theorem open_sh:∀(n:Nat) (t:TypeId) (l:List Sh),shT P n t=some l→OpenSh enc P w t l
 |0,t,l,h=>by simp[shT]at h
 |n+1,t,l,h=>by
  intro fuel cs d ps hd
  simp only[shT]at h
  split at h
  ·rename_i hu
   cases h
   cases fuel with
   |zero=>simp[DataW.trod]at hd
   |succ fuel=>
    simp only[DataW.trod,hu]at hd
    split at hd<;>first|(cases hd;done)|skip
    all_goals simp_all
    all_goals first|contradiction|skip
    exact⟨[_],⟨_,_,rfl,⟨_,rfl⟩,rfl⟩,⟨_,_,rfl,rfl,.sc,rfl⟩,by simp[IV.bulkRow,IV.bulk,dBulk_pos]⟩
  ·rename_i q hu
   cases h
   cases fuel with
   |zero=>simp[DataW.trod]at hd
   |succ fuel=>
    simp only[DataW.trod,hu]at hd
    split at hd<;>simp_all
    obtain⟨⟨rfl,hw⟩,_⟩:=hd
    exact⟨[_],⟨_,_,rfl,⟨_,rfl,hw⟩,rfl⟩,⟨_,_,rfl,rfl,.sc,rfl⟩,by simp[IV.bulkRow,IV.bulk,dBulk_pos]⟩
  ·rename_i hu
   cases h
   cases fuel with
   |zero=>simp[DataW.trod]at hd
   |succ fuel=>
    simp only[DataW.trod,hu]at hd
    split at hd<;>simp_all
    exact⟨[_],⟨_,_,rfl,⟨_,rfl,hd.1⟩,rfl⟩,⟨_,_,rfl,rfl,.sc,rfl⟩,by simp[IV.bulkRow,IV.bulk,dBulk_pos]⟩
  ·rename_i e hu
   split at h
   ·rename_i le hle
    split at h
    ·rename_i hlen
     cases h
     have ih:=open_sh n e le hle
     rcases Deep.open_slice hu hd with⟨rfl,_⟩|⟨a,len,cap,m,nn,D,Pl,rfl,_,hl,hm,hmm,hde,hel⟩
     ·exact⟨[.sl le.length []],⟨_,_,rfl,⟨[],rfl,by simp⟩,rfl⟩,⟨_,_,rfl,rfl,IRep.nil _,rfl⟩,by simp[IV.bulkRow,IV.bulk,IV.bulkRows,dBulk_pos]⟩
     ·simp only[if_true]at hmm
      subst hmm
      obtain⟨xs,hxl,hxs⟩:=choose_rows (n:=len) (p:=fun i x=>∃cs',w.cells? 0 (a.add (i*P.cellsOf e)) (P.cellsOf e)=some cs'∧Sh.hasL le x∧RepL w x cs'∧IV.bulkRow x≤dBulk (D i)) (fun i hi=>by
       obtain⟨cs',h1,h2⟩:=hel i (by omega)
       obtain⟨x,h3,h4,h5⟩:=ih _ _ _ _ h2
       exact⟨x,cs',h1,h3,h4,h5⟩)
      subst hxl
      refine⟨[.sl le.length xs],⟨_,_,rfl,⟨xs,rfl,fun y hy=>?_⟩,rfl⟩,⟨_,_,rfl,rfl,?_,rfl⟩,?_⟩
      ·obtain⟨i,hi,rfl⟩:=List.mem_iff_getElem.1 hy
       exact(hxs i _ (List.getElem?_eq_getElem hi)).choose_spec.2.1
      ·classical
       have hcell:∀(i:Nat) (x:List IV) (j:Nat) (y:IV),xs[i]? =some x→x[j]? =some y→∃v,w.cell? (a.add (i*le.length+j))=some v∧v.oneCell'=true∧IRep (seen w fun _=>False) y v:=by
        intro i x j y hx hy
        obtain⟨cs',h1,h2,h3,_⟩:=hxs i x hx
        obtain⟨g1,g2⟩:=h3.get
        obtain⟨v,k1,k2,k3⟩:=g2 j y hy
        refine⟨v,?_,k2,k3⟩
        obtain⟨_,c1,c2⟩:=World.cells?_some h1
        have hj:j<P.cellsOf e:=by rw[←c1];exact(List.getElem?_eq_some_iff.1 k1).1
        have:=c2 j hj
        rw[k1,Deep.add_add,←hlen]at this
        exact this
       refine .sl (fun i j=>(w.cell? (a.add (i*le.length+j))).getD Go.undef) a hl hm (fun _=>rfl) ?_ ?_ ?_ ?_
       ·intro i x hx
        obtain⟨cs',h1,h2,h3⟩:=hxs i x hx
        exact Sh.hasL_len h2
       ·intro i x j y hx hy
        obtain⟨v,k1,k2,k3⟩:=hcell i x j y hx hy
        rw[k1]
        exact⟨.inl ⟨k1,fun e=>by rw[Option.getD_some]at e;subst e;cases k2⟩,id⟩
       ·intro i x j y hx hy
        obtain⟨v,k1,k2,k3⟩:=hcell i x j y hx hy
        rw[k1];exact k2
       ·intro i x j y hx hy
        obtain⟨v,k1,k2,k3⟩:=hcell i x j y hx hy
        rw[k1];exact k3
      ·cases hde
       have:=dBulk_rows D xs 0 fun i x hx=>by rw[Nat.zero_add];exact(hxs i x hx).choose_spec.2.2.2
       rw[←List.range_eq_range']at this
       simp only[IV.bulkRow,IV.bulk,dBulk]
       omega
    ·cases h
   ·cases h
  ·rename_i fs hu
   split at h
   ·rename_i l' hl'
    split at h
    ·rename_i hct
     cases h
     cases fuel with
     |zero=>simp[DataW.trod]at hd
     |succ fuel=>
      simp only[DataW.trod,hu]at hd
      split at hd
      ·rename_i hlen
       simp only[Option.map_eq_some_iff]at hd
       obtain⟨xs,hxs,hde⟩:=hd
       cases hde
       obtain⟨ys,g1,g2,g3⟩:=open_fields (fun t l h=>open_sh n t l h) fs.toList 0 l xs hl' hxs
       refine⟨ys,g1,?_,by simp only[dBulk];omega⟩
       have:cs.take l.length=cs:=by rw[hct,←hlen,List.take_length]
       simpa [this]using g2
      ·cases hd
    ·cases h
   ·cases h
  ·cases h
def argAV (P:Program) (t:TypeId) (xs:List IV):AV:=
 match P.underlying t with
 |some (.struct _)=>.agg (xs.map .im)
 |_=>match xs with
  |[x]=>.im x
  |_=>.undef
theorem open_arg {n:Nat} {t:TypeId} {l:List Sh} (hs:shT P n t=some l) {v:Value} {d:DataW H} {ps:List MemPlace} {r:Reach} {b0:Nat} (hv:Value.okWide P w r b0 t v) (hd:DataW.Trod enc P w 0 (fun _=>true) true t v d ps):
  ∃xs:List IV,Sh.hasL l xs∧VRep (fun _=>none) (seen w fun _=>False) (argAV P t xs) v∧IV.bulkRow xs≤dBulk d:=by
 obtain⟨fuel,hd⟩:=hd
 obtain⟨xs,h1,h2,h3⟩:=open_sh n t l hs fuel _ d ps hd
 refine⟨xs,h1,?_,h3⟩
 unfold Value.okWide at hv
 cases n with
 |zero=>simp[shT]at hs
 |succ n=>
 simp only[shT]at hs
 have one:∀s:Sh,l=[s]→(∀cs,v≠.agg cs)→(∀ys,argAV P t [ys]=.im ys)→VRep (fun _=>none) (seen w fun _=>False) (argAV P t xs) v:=by
  intro s hl hag harg
  subst hl
  simp only[Sh.hasL]at h1
  obtain⟨y,ys',rfl,g1,rfl⟩:=h1
  have hc:v.cells.toList=[v]:=by cases v<;>first|rfl|exact absurd rfl (hag _)
  rw[hc]at h2
  simp only[RepL]at h2
  obtain⟨u,vs',e,_,h4,_⟩:=h2
  cases e
  rw[harg]
  exact .im h4
 cases hu:P.underlying t with
 |none=>simp[hu]at hs
 |some ut=>
  simp only[hu]at hs hv
  cases ut with
  |bool=>cases hs;exact one _ rfl (fun cs e=>by subst e;simp[Cell.okWide,Cell.ok,hu]at hv) (fun ys=>by simp[argAV,hu])
  |int q=>cases hs;exact one _ rfl (fun cs e=>by subst e;simp[Cell.okWide,Cell.ok,hu]at hv) (fun ys=>by simp[argAV,hu])
  |string=>cases hs;exact one _ rfl (fun cs e=>by subst e;simp[Cell.okWide,Cell.ok,hu]at hv) (fun ys=>by simp[argAV,hu])
  |slice e=>
   simp only at hs
   split at hs
   ·split at hs
    ·cases hs;exact one _ rfl (fun cs e=>by subst e;simp[Cell.okWide,Cell.ok,hu]at hv) (fun ys=>by simp[argAV,hu])
    ·cases hs
   ·cases hs
  |struct fs=>
   obtain⟨cs,rfl,_,_⟩:=hv
   have hg:=h2.get
   simp only[argAV,hu]
   simp only[Value.cells]at hg
   refine .agg (by simpa using hg.1) (fun j y u hj hu'=>?_)
   simp only[List.getElem?_map,Option.map_eq_some_iff]at hj
   obtain⟨x,hx,rfl⟩:=hj
   obtain⟨v',k1,k2,k3⟩:=hg.2 j x hx
   rw[Array.getElem?_toList,hu']at k1
   cases k1
   exact .im k3
  |_=>simp at hs
def argsAV (P:Program):List TypeId→List (List IV)→List AV
 |t::ts,x::xs=>argAV P t x::argsAV P ts xs
 |_,_=>[]
def hasArgs:List (List Sh)→List (List IV)→Prop
 |[],xs=>xs=[]
 |s::ss,xs=>∃x xs',xs=x::xs'∧Sh.hasL s x∧hasArgs ss xs'
theorem open_args {n:Nat}:∀{ts:List TypeId} {ss:List (List Sh)} {vs:List Value} {ds:List (DataW H)} {ps:List MemPlace},ts.mapM (shT P n)=some ss→(∀(j:Nat) t v,ts[j]? =some t→vs[j]? =some v→Value.okWide P w .any 0 t v)→DataW.TrodAll enc P w 0 (fun _=>true) true ts vs ds ps→
  ∃xs:List (List IV),hasArgs ss xs∧vs.length=(argsAV P ts xs).length∧(∀(j:Nat) (y:AV) (u:Value),(argsAV P ts xs)[j]? =some y→vs[j]? =some u→VRep (fun _=>none) (seen w fun _=>False) y u)∧IV.bulkRows xs≤dBulkAll ds
 |[],ss,vs,ds,ps,hs,hv,ht=>by
  simp at hs
  subst hs
  cases vs<;>cases ds<;>simp[DataW.TrodAll]at ht
  exact⟨[],rfl,rfl,fun j y u h=>by simp[argsAV]at h,by simp[IV.bulkRows]⟩
 |t::ts,ss,vs,ds,ps,hs,hv,ht=>by
  simp only[List.mapM_cons,Option.bind_eq_bind,Option.bind_eq_some_iff]at hs
  obtain⟨s,h1,ss',h2,e⟩:=hs
  cases e
  obtain⟨v,vs',d,ds',p,q,rfl,rfl,rfl,h0,h3⟩:=trodAll_cons ht
  obtain⟨x,g1,g2,g3⟩:=open_arg h1 (hv 0 t v rfl rfl) h0
  obtain⟨xs,k1,k2,k3,k4⟩:=open_args h2 (fun j t v hj hv'=>hv (j+1) t v (by simpa using hj) (by simpa using hv')) h3
  refine⟨x::xs,⟨x,xs,rfl,g1,k1⟩,by simp[argsAV,k2],fun j y u hj hu=>?_,by simp only[IV.bulkRows,dBulkAll];omega⟩
  cases j with
  |zero=>simp[argsAV]at hj hu;subst hj hu;exact g2
  |succ j=>exact k3 j y u (by simpa [argsAV]using hj) (by simpa using hu)
theorem trodAll_below {W W':World} (hl:laidOutB P=true) (hb:Below W.heap.size W W'):∀{ts:List TypeId} {vs:List Value} {ds:List (DataW H)} {ps:List MemPlace},(ts.all fun t=>P.readableRec t&&decide (t<P.types.size))=true→
  DataW.TrodAll enc P W 0 (fun _=>true) true ts vs ds ps→(∀x∈ps,x.block<W.heap.size)→DataW.TrodAll enc P W' 0 (fun b=>decide (b<W.heap.size)) true ts vs ds ps
 |[],vs,ds,ps,_,h,_=>by
  cases vs<;>cases ds<;>simp[DataW.TrodAll]at h⊢
  exact h
 |t::ts,vs,ds,ps,ht,h,hlt=>by
  simp only[List.all_cons,Bool.and_eq_true,decide_eq_true_eq]at ht
  obtain⟨v,vs',d,ds',p,q,rfl,rfl,rfl,h0,h1⟩:=trodAll_cons h
  exact trodAll_cons_mk (Below.trod hl ht.1.1 ht.1.2 h0 hb fun x hx=>hlt x (List.mem_append.2 (.inl hx))) (trodAll_below hl hb ht.2 h1 fun x hx=>hlt x (List.mem_append.2 (.inr hx)))
theorem trodAll_len:∀{ts:List TypeId} {vs:List Value} {ds:List (DataW H)} {ps:List MemPlace},DataW.TrodAll enc P w 0 sp held ts vs ds ps→ds.length=ts.length
 |[],vs,ds,ps,h=>by cases vs<;>cases ds<;>simp[DataW.TrodAll]at h⊢
 |t::ts,vs,ds,ps,h=>by
  obtain⟨v,vs',d,ds',p,q,rfl,rfl,rfl,h0,h1⟩:=trodAll_cons h
  simp[trodAll_len h1]
end
end Go.Am
namespace Go.Am
open Go.RowKit Go.Shelf Go.Sort Go.Proofs
variable {P:Program}
structure SortedW (w w':World) (gb:Nat):Prop where
 os:w'.os=w.os
 tape:w'.tape=w.tape
 output:w'.output=w.output
 drawn:w.drawn≤w'.drawn
 size:w.heap.size≤w'.heap.size
 block:∀b,b<w.heap.size→b≠gb→w'.heap[b]? =w.heap[b]?
theorem heap_mapBlock_other (w:World) (blk k:Nat) (f:Array Value→Array Value) (h:k≠blk):(mapBlock w blk f).heap[k]? =w.heap[k]?:=by
 unfold mapBlock
 simp only[Array.getElem?_modify]
 rw[if_neg (fun e=>h e.symm)]
theorem heap_mapBlock_same (w:World) (blk:Nat) (f:Array Value→Array Value) {c:Array Value} {e:TypeId} {fr:Nat×Nat} (h:w.heap[blk]? =some (.cells c e fr)):(mapBlock w blk f).heap[blk]? =some (.cells (f c) e fr):=by
 unfold mapBlock
 simp only[Array.getElem?_modify,if_true,h,Option.map_some,onCells]
section
variable {α:Type} [Inhabited α]
theorem sortWorld_heap (enc:α→Value) (w:World) (blk off m:Nat) (d:Array α) (os:Array Obj) (k:Nat) (h:k<w.heap.size):(sortWorld enc w blk off m d os).heap[k]? =(putRow enc w blk off d).heap[k]?:=by
 have hs:(putRow enc (Sort.ahead w m) blk off d).heap.size=w.heap.size:=by simp[Sort.ahead]
 show((putRow enc (Sort.ahead w m) blk off d).heap++os)[k]? =_
 rw[Array.getElem?_append_left (by rw[hs];exact h)]
 rfl
theorem sortWorld_w (enc:α→Value) (w:World) (blk off m:Nat) (d:Array α) (os:Array Obj):SortedW w (sortWorld enc w blk off m d os) blk where
 os:=rfl
 tape:=rfl
 output:=rfl
 drawn:=Nat.le_add_right _ _
 size:=by
  show w.heap.size≤((putRow enc (Sort.ahead w m) blk off d).heap++os).size
  rw[Array.size_append,Go.Sort.size_putRow]
  exact Nat.le_add_right _ _
 block:=fun b hb hne=>by rw[sortWorld_heap _ _ _ _ _ _ _ _ hb];exact heap_mapBlock_other _ _ _ _ hne
theorem grow_of {W w:World} {Z:Nat→Prop} (hk:Kept Z W w) (hz:∀b,¬Z b):∃q os',w=grow (W.drewN q) os':=by
 refine⟨w.drawn-W.drawn,w.heap.extract W.heap.size w.heap.size,?_⟩
 have hh:w.heap=W.heap++w.heap.extract W.heap.size w.heap.size:=by
  apply Array.ext_getElem?
  intro i
  by_cases hi:i<W.heap.size
  ·rw[Array.getElem?_append_left hi]
   exact hk.block i hi (hz i)
  ·rw[Array.getElem?_append_right (by omega),Array.getElem?_extract]
   have:=hk.size
   split
   ·congr 1;omega
   ·rw[Array.getElem?_eq_none (by omega)]
 have hd:W.drawn+(w.drawn-W.drawn)=w.drawn:=by have:=hk.drawn;omega
 have h1:=hk.os
 have h2:=hk.tape
 have h3:=hk.output
 cases w with|mk heap tape drawn os output=>
 cases W with|mk heap' tape' drawn' os' output'=>
 simp only at h1 h2 h3 hh hd
 subst h1 h2 h3
 unfold grow World.drewN
 simp only[World.mk.injEq,true_and,and_true]
 exact⟨hh,hd.symm⟩
end
theorem swo_key {α:Type} {cf:α→α→Int} {κ:α→Int} (h:∀x y,cf x y<0↔κ x<κ y):SWO (ltOf cf) where
 irrefl x:=by unfold ltOf;simp[h]
 trans x y z h1 h2:=by
  unfold ltOf at*
  simp only[decide_eq_true_eq,h]at*
  omega
 ntrans x y z h1 h2:=by
  unfold ltOf at*
  simp only[decide_eq_false_iff_not,h]at*
  omega
end Go.Am
