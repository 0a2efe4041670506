import Derived.Shelf.SortM.Plain
import Derived.Shelf.SortM.SortNone
import Derived.Shelf.SlSortCmp.WholeK
import Derived.Test.YtcognmloglhpcaaGreatDoorWD3
set_option linter.unusedVariables false
set_option linter.unusedSimpArgs false
set_option linter.unusedSectionVars false
namespace Go.Am
open Go.RowKit Go.Shelf Go.Sort Go.Proofs
variable {P:Program}
def rowN (l:List Int):List (List IV):=l.map fun x=>[.sc (.int .i64 x)]
def sortI (l:List Int):List Int:=l.mergeSort fun x y=>decide (x≤y)
theorem sortInts {ρ:Ren} (L:SlLaysM.n5 P ρ) (e:TypeId) (xs:List Int) (hlen:xs.length<4611686018427387904):FSpec P (ρ.f 5) [.row 0] [.row e 1 (rowN xs)] (.tup []) [.row e 1 (rowN (sortI xs))]:=by
 refine⟨L.f5.enters rfl,fun m w Y vs hO hY hsz hvs=>?_⟩
 obtain⟨l,hl,A,cp,flat,rfl,hown,hone,hx1,hr⟩:=hO.objs 0 (.row e 1 (rowN xs)) (by rw[stO_obj];rfl)
 have hrl:(rowN xs).length=xs.length:=by simp[rowN]
 rw[hrl]at hl hown
 have hv0:vs[0]? =some (.slice A xs.length cp):=by
  have hlt:0<vs.size:=by rw[hsz];simp
  have:=hvs 0 (.row 0) vs[0] rfl (Array.getElem?_eq_getElem hlt)
  rw[Array.getElem?_eq_getElem hlt]
  generalize vs[0]=v at this
  cases this with|row hm=>rw[hl]at hm;cases hm;rfl
 have hvs2:vs=#[.slice A xs.length cp]:=by
  apply Array.ext_getElem?
  intro i
  match i with
  |0=>rw[hv0];rfl
  |i+1=>rw[Array.getElem?_eq_none (by rw[hsz];simp)];rfl
 subst hvs2
 have hflat:flat=xs.map (Value.int .i64):=by
  apply List.ext_getElem?
  intro i
  by_cases hi:i<xs.length
  ·have h1:i<flat.length:=by rw[hown.1];omega
   have h2:=hr i [.sc (.int .i64 xs[i])] 0 (.sc (.int .i64 xs[i])) flat[i] (by simp[rowN,hi]) rfl (by rw[Nat.mul_one,Nat.add_zero,List.getElem?_eq_getElem h1])
   have h3:flat[i]=.int .i64 xs[i]:=by
    generalize flat[i]=z at h2
    cases h2;rfl
   rw[List.getElem?_eq_getElem h1,List.getElem?_map,List.getElem?_eq_getElem hi,h3]
   rfl
  ·rw[List.getElem?_eq_none (by rw[hown.1];omega),List.getElem?_eq_none (by simp;omega)]
 have hown':∀S:List (List IV),(stO [.row e 1 S]).owned m=(stO [.row e 1 (rowN xs)]).owned m:=by
  intro S
  funext b
  apply propext
  constructor
  ·rintro⟨n,o,l,h1,h2,h3,h4⟩
   rw[stO_obj]at h1
   cases n with
   |zero=>exact⟨0,.row e 1 (rowN xs),l,by rw[stO_obj];rfl,rfl,h3,h4⟩
   |succ n=>simp at h1
  ·rintro⟨n,o,l,h1,h2,h3,h4⟩
   rw[stO_obj]at h1
   cases n with
   |zero=>exact⟨0,.row e 1 S,l,by rw[stO_obj];rfl,rfl,h3,h4⟩
   |succ n=>simp at h1
 by_cases hne:xs=[]
 ·subst hne
  have hs0:sortI []=[]:=by simp[sortI]
  rw[hs0]
  refine(AnyM.slices_Sort_int_none L A cp w).mono ?_
  rintro e' w' ⟨rfl,rfl⟩
  exact⟨_,m,rfl,.tup rfl (fun j y u h=>by simp at h),hO,Kept.refl _ _,fun b hb=>.inl hb,fun _ _ h=>h⟩
 obtain⟨k,hk⟩:∃k,xs.length=k+1:=⟨xs.length-1,by have:=List.length_pos_iff.2 hne;omega⟩
 obtain⟨hfl,hcase⟩:=hown
 rcases hcase with⟨_,h0⟩|⟨gb,cap,cur,hve,hg,hh,hle,hcm,hcs,htk⟩
 ·rw[hk]at h0;cases h0
 obtain⟨rfl,rfl⟩:A=some ⟨gb,0,none⟩∧cp=cap:=by simp at hve;exact hve
 clear hve
 rw[Nat.mul_one]at hfl hcs htk
 subst hflat
 have hcur:∀(i:Nat) (hi:i<xs.length),cur[i]? =some (.int .i64 xs[i]):=by
  intro i hi
  have h1:(xs.map (Value.int .i64))[i]? =some (.int .i64 xs[i]):=by simp[hi]
  rw[←h1,←htk,List.getElem?_take,if_pos hi,Array.getElem?_toList]
 have hgo:(stO [.row e 1 (rowN xs)]).owned m gb:=⟨0,_,_,by rw[stO_obj];rfl,rfl,hl,rfl⟩
 have hglt:gb<w.heap.size:=(Array.getElem?_eq_some_iff.1 hh).1
 have hH:Holds (Value.int .i64) w gb 0 xs.toArray:=by
  intro j hj
  have hj':j<xs.length:=by simpa using hj
  have e1:xs.toArray[j]! =xs[j]:=by simp[hj']
  rw[e1]
  constructor
  ·unfold World.cell?
   simp only[hh,Nat.zero_add]
   exact hcur j hj'
  ·unfold World.frozen?
   simp only[hh]
   simp
 refine(AnyM.slices_Sort_int L gb 0 cp xs w hH hglt hlen).mono ?_
 rintro e' w' ⟨rfl,mm,os,rfl⟩
 have hW:=sortWorld_w (Value.int .i64) w gb 0 mm (sortI xs).toArray os
 have hWe:sortWorld (Value.int .i64) w gb 0 mm (sortI xs).toArray os=grow (putRow (Value.int .i64) (Sort.ahead w mm) gb 0 (xs.mergeSort fun x y=>decide (x≤y)).toArray) os:=rfl
 rw[←hWe]
 have hsl:(sortI xs).length=xs.length:=by simp[sortI]
 have hrs:(rowN (sortI xs)).length=xs.length:=by simp[rowN,hsl]
 have hnew:(sortWorld (Value.int .i64) w gb 0 mm (sortI xs).toArray os).heap[gb]? =some (.cells (putCells (Value.int .i64) 0 (sortI xs).toArray cur) e (0,0)):=by
  rw[sortWorld_heap _ _ _ _ _ _ _ _ hglt]
  exact heap_mapBlock_same _ _ _ hh
 refine⟨_,m,rfl,.tup rfl (fun j y u h=>by simp at h),?_,⟨hW.os,hW.tape,hW.output,hW.drawn,hW.size,fun b hb hz=>hW.block b hb (fun e'=>hz (by rw[e'];exact hgo))⟩,fun b hb=>.inl (by rw[←hown' (rowN (sortI xs))];exact hb),fun _ _ h=>h⟩
 refine⟨?_,?_,?_,?_⟩
 ·intro n o hn
  rw[stO_obj]at hn
  cases n with
  |succ n=>simp at hn
  |zero=>
   simp at hn
   subst hn
   refine⟨_,hl,some ⟨gb,0,none⟩,cp,((sortI xs).map (Value.int .i64)),by rw[hrs],⟨by rw[hrs,List.length_map,hsl];omega,.inr ⟨gb,cp,putCells (Value.int .i64) 0 (sortI xs).toArray cur,by rw[hrs],Nat.zero_le _,hnew,by rw[hrs];exact hle,hcm,by simp[putCells,hcs],?_⟩⟩,?_,?_,?_⟩
   ·rw[hrs,Nat.mul_one]
    apply List.ext_getElem?
    intro i
    rw[List.getElem?_take]
    split
    ·rename_i hi
     rw[Array.getElem?_toList,List.getElem?_map,List.getElem?_eq_getElem (show i<(sortI xs).length by omega)]
     unfold putCells
     rw[Array.getElem?_mapIdx,hcur i hi]
     simp only[Option.map_some,Nat.zero_add,Nat.sub_zero,List.size_toArray]
     rw[if_pos ⟨Nat.zero_le _,by omega⟩]
     simp[show i<(sortI xs).length by omega]
    ·rw[List.getElem?_eq_none (by rw[List.length_map];omega)]
   ·intro u hu
    simp only[List.mem_map]at hu
    obtain⟨i,_,rfl⟩:=hu
    rfl
   ·intro i x hx
    unfold rowN at hx
    rw[List.getElem?_map,Option.map_eq_some_iff]at hx
    obtain⟨j,_,rfl⟩:=hx
    rfl
   ·intro i x j y u hx hy hu
    unfold rowN at hx
    rw[List.getElem?_map,Option.map_eq_some_iff]at hx
    obtain⟨z,hz,rfl⟩:=hx
    cases j with
    |succ j=>simp at hy
    |zero=>
     simp at hy
     subst hy
     have ei:i*1+0=i:=by omega
     have hu':((sortI xs).map (Value.int .i64))[i]? =some u:=ei▸hu
     rw[List.getElem?_map,hz]at hu'
     simp only[Option.map_some,Option.some.injEq]at hu'
     subst hu'
     exact .sc
 ·intro n n' o o' l l' b h1 h2 _ _ _ _ _ _
  rw[stO_obj]at h1 h2
  cases n<;>cases n'<;>simp at h1 h2⊢
 ·intro b hb
  rw[hown']at hb
  exact hO.foreign b hb
 ·intro n hn
  exact hO.fresh n hn
theorem sorted_eq:∀{a b:List Int},a.Perm b→a.Pairwise (·≤·)→b.Pairwise (·≤·)→a=b
 |[],b,h,_,_=>(List.nil_perm.1 h).symm
 |x::a,[],h,_,_=>by have:=h.length_eq;cases this
 |x::a,y::b,h,ha,hb=>by
  have hxy:x=y:=by
   have h1:=h.mem_iff.1 (show x∈x::a from List.mem_cons_self)
   have h2:=h.mem_iff.2 (show y∈y::b from List.mem_cons_self)
   rcases List.mem_cons.1 h1 with e|h1
   ·exact e
   ·rcases List.mem_cons.1 h2 with e|h2
    ·exact e.symm
    ·have g1:=List.rel_of_pairwise_cons ha h2
     have g2:=List.rel_of_pairwise_cons hb h1
     omega
  subst hxy
  rw[sorted_eq ((List.perm_cons x).1 h) (List.Pairwise.of_cons ha) (List.Pairwise.of_cons hb)]
theorem sortI_perm (l:List Int):(sortI l).Perm l:=List.mergeSort_perm l _
theorem sortI_sorted (l:List Int):(sortI l).Pairwise (·≤·):=by
 have:=List.pairwise_mergeSort (le:=fun x y:Int=>decide (x≤y)) (fun a b c h1 h2=>by simp at*;omega) (fun a b=>by simp;omega) l
 simpa [sortI]using this
end Go.Am
namespace Go.Am
open Go.RowKit Go.ChangeShapes Go.WideShapes Go.ChangeAt
section
variable {P:Program} {H:Type} {enc:TypeId×Value→H}
theorem law_contractL {f:FuncId} {fn:Func} {s:ChangeSpec} {ts:List TypeId} {tb:TypeId} {n:Nat} {ss:List (List Sh)} (hl:laidOutB P=true) (hp:fn.params.toList=ts) (hr:fn.resultTypes=#[tb]) (hb:P.underlying tb=some .bool)
  (hrd:(ts.all fun t=>P.readableRec t&&decide (t<P.types.size))=true) (hss:ts.mapM (shT P n)=some ss) (hvars:s.vars=[])
  {W:World} {args:Array Value} {ds gs:List (DataW H)} {before:List MemPlace} (hval:∀(j:Nat) t v,fn.params[j]? =some t→args[j]? =some v→Value.okWide P W .any 0 t v) (hW:DataW.Whole enc P fn.params.toList s.vars false W args.toList ds gs before)
  (G:List (Nat×List IV)) (hgl:∀g cs,look G g=some cs→∃u:Nat→Value,∀(j:Nat) (y:IV),cs[j]? =some y→(u j).oneCell'=true∧W.cell? ⟨g,j,none⟩=some (u j)∧IRep (fun _ _=>False) y (u j))
  (hspec:∀xs:List (List IV),hasArgs ss xs→IV.bulkRows xs≤dBulkAll (ds++gs)→FSpec P f (argsAV P ts xs) [.gl G] (.bool true) [.gl G]) (hfn:∀d:List (DataW H),d.length=ts.length→s.fn H d={results:=[.lit (.bool true)],args:=d}):
  Calls P f args W fun e W'=>∃v,e=.returned v∧s.post enc P fn false true false false W args v W':=by
 have hW':=hW
 obtain⟨p,q,hA,hV,rfl,hfz,hnd⟩:=hW
 rw[hvars]at hV
 obtain⟨rfl,rfl⟩:=trodVars_none hV
 simp only[List.append_nil]at hW'
 subst hp
 have hfn:s.fn H (ds++[])={results:=[.lit (.bool true)],args:=ds}:=by
  rw[List.append_nil]
  exact hfn ds (trodAll_len hA)
 obtain⟨xs,h1,h2,h3,h4⟩:=open_args (ts:=fn.params.toList) hss (fun j t v hj hv=>hval j t v (by simpa using hj) (by simpa using hv)) hA
 have hsp:=hspec xs h1 (by simpa using h4)
 have hno:∀(m:Nm) (b:Nat),¬(stO [.gl G]).owned m b:=by
  rintro m b ⟨k,o,l,g1,g2,_⟩
  rw[stO_obj]at g1
  match k with
  |0=>simp at g1;subst g1;cases g2
  |k+1=>simp at g1
 refine(hsp.2 (fun k=>if k=0 then some (.hdr none 0 0)else none) W (fun _=>False) args ?_ (fun _ h=>h.elim) (by simpa using h2) ?_).mono ?_
 ·refine{objs:=fun k o hn=>?_,apart:=fun k k' o o' l l' b g1 g2 g3=>?_,foreign:=fun b hb=>(hno _ b hb).elim,fresh:=fun k hk=>?_}
  ·rw[stO_obj]at hn
   match k with
   |0=>
    simp at hn;subst hn
    refine⟨.hdr none 0 0,by simp,rfl,fun g cs hg=>?_⟩
    obtain⟨u,hu⟩:=hgl g cs hg
    refine .eptr u ⟨g,0,none⟩ (fun j y hy=>(hu j y hy).1) (fun j y hy=>?_) (fun j y hy=>(hu j y hy).2.2.mono (fun _ _ h=>h.elim))
    obtain⟨k1,k2,_⟩:=hu j y hy
    rw[add_at,Nat.zero_add]
    exact⟨.inl ⟨k2,fun e=>by rw[e]at k1;cases k1⟩,fun hx=>hx.elim (hno _ _) id⟩
   |k+1=>simp at hn
  ·rw[stO_obj]at g1
   match k with
   |0=>simp at g1;subst g1;cases g3
   |k+1=>simp at g1
  ·simp[stO]at hk
   rw[if_neg (by omega)]
 ·intro j y u hj hu
  have:=h3 j y u hj (by simpa using hu)
  refine this.mono (fun _ _ h=>by cases h) ?_
  rintro p v ⟨k1,k2⟩
  exact⟨k1,fun hx=>hx.elim (fun hx=>hno _ _ hx) id⟩
 ·rintro e W' ⟨v,m',rfl,hv,_,hk,_,_⟩
  have hvb:v=.bool true:=hv.sc_inv
  subst hvb
  have hbel:Below W.heap.size W W':=hk.below (hno _)
  have hlt:∀x∈p,x.block<W.heap.size:=fun x hx=>hW'.lt x hx
  refine⟨_,rfl,ds,[],p,[],p,[],hW',?_,?_,?_,hbel.frame _,fun h=>by cases h⟩
  ·rw[hfn,hr]
   exact trodAll_mk1 (shut_bool hb _)
  ·rw[hfn]
   exact trodAll_below hl hbel hrd hA hlt
  ·rw[hvars,hfn];exact rfl
end
end Go.Am
namespace Go.Am
open Go.RowKit Go.Shelf Go.Sort Go.Proofs
variable {P:Program}
theorem sortFuncK {ρ:Ren} (L:SlLaysF0.n6 P ρ) {g:FuncId} (e:TypeId) (k:Nat) (hk0:0<k) (aE:∀w,(isAgg (ρ.t 24)).run P w=.ok true w) (zE:∀w,(Go.sizeOf (ρ.t 24)).run P w=.ok k w)
  (xs S:List (List IV)) (cf:List IV→List IV→Int) (κ:List IV→Int) (eg:Enters P g) (hne:xs≠[])
  (hcmp:∀x y,x∈xs→y∈xs→FSpec P g [.agg (x.map .im),.agg (y.map .im)] [] (.int .i64 (cf x y)) []) (hκ:∀x y,x∈xs→y∈xs→(cf x y<0↔κ x<κ y)) (hlen:xs.length<4611686018427387904)
  (hS:∀ys:List (List IV),ys.Perm xs→ys.Pairwise (fun x y=>κ x≤κ y)→ys=S):FSpec P (ρ.f 6) [.row 0,.fn g []] [.row e k xs] (.tup []) [.row e k S]:=by
 refine⟨L.f6.enters rfl,fun m w Y vs hO hY hsz hvs=>?_⟩
 obtain⟨l,hl,A,cp,flat,rfl,hown,hone,hx1,hr⟩:=hO.objs 0 (.row e k xs) (by rw[stO_obj];rfl)
 have hv0:vs[0]? =some (.slice A xs.length cp):=by
  have hlt:0<vs.size:=by rw[hsz];simp
  have:=hvs 0 (.row 0) vs[0] rfl (Array.getElem?_eq_getElem hlt)
  rw[Array.getElem?_eq_getElem hlt]
  generalize vs[0]=v at this
  cases this with|row hm=>rw[hl]at hm;cases hm;rfl
 have hv1:vs[1]? =some (.func (.func g) #[] #[]):=by
  have hlt:1<vs.size:=by rw[hsz];simp
  have:=hvs 1 (.fn g []) vs[1] rfl (Array.getElem?_eq_getElem hlt)
  rw[Array.getElem?_eq_getElem hlt]
  generalize vs[1]=v at this
  cases this with|@fn _ _ cvs hl' _=>
  have:cvs=#[]:=by simpa using hl'
  rw[this]
 have hvs2:vs=#[.slice A xs.length cp,.func (.func g) #[] #[]]:=by
  apply Array.ext_getElem?
  intro i
  match i with
  |0=>rw[hv0];rfl
  |1=>rw[hv1];rfl
  |i+2=>rw[Array.getElem?_eq_none (by rw[hsz];simp)];rfl
 subst hvs2
 obtain⟨q,hq⟩:∃q,xs.length=q+1:=⟨xs.length-1,by have:=List.length_pos_iff.2 hne;omega⟩
 obtain⟨hfl,hcase⟩:=hown
 rcases hcase with⟨_,h0⟩|⟨gb,cap,cur,hve,hg,hh,hle,hcm,hcs,htk⟩
 ·rw[hq]at h0;cases h0
 obtain⟨rfl,rfl⟩:A=some ⟨gb,0,none⟩∧cp=cap:=by simp at hve;exact hve
 clear hve
 have hin:∀i c,i<q+1→c<k→i*k+c<xs.length*k:=by
  intro i c hi hc
  have:=Nat.mul_le_mul_right k (show i+1≤q+1 from hi)
  rw[hq,Nat.add_mul i,Nat.one_mul]at*
  omega
 have hflat:∀(t:Nat),t<xs.length*k→cur[t]? =some (flat.getD t Go.undef):=by
  intro i hi
  have h1:flat[i]? =some (flat.getD i Go.undef):=by rw[List.getD_eq_getElem?_getD,List.getElem?_eq_getElem (by omega)];rfl
  rw[←h1,←htk,List.getElem?_take,if_pos (by omega),Array.getElem?_toList]
 have hgo:(stO [.row e k xs]).owned m gb:=⟨0,_,_,by rw[stO_obj];rfl,rfl,hl,rfl⟩
 have hglt:gb<w.heap.size:=(Array.getElem?_eq_some_iff.1 hh).1
 let enc:Fin (q+1)→List Value:=fun i=>(List.range k).map fun c=>flat.getD (i.1*k+c) Go.undef
 have hk:∀x,(enc x).length=k:=fun x=>by simp[enc]
 have hec:∀x c,c<k→(enc x)[c]? =some (flat.getD (x.1*k+c) Go.undef):=fun x c hc=>by simp[enc,List.getElem?_range hc]
 let d:Array (Fin (q+1)):=Array.ofFn id
 have hd:d.size=xs.length:=by simp[d,hq]
 have hdg:∀j (hj:j<q+1),d[j]! =⟨j,hj⟩:=fun j hj=>by
  rw[Array.getElem!_eq_getD,Array.getD_eq_getD_getElem?,Array.getElem?_eq_getElem (by simp[d];exact hj)]
  simp[d]
 have hone':∀t,t<xs.length*k→(flat.getD t Go.undef).oneCell'=true:=fun t ht=>hone _ (by
  rw[List.getD_eq_getElem?_getD,List.getElem?_eq_getElem (show t<flat.length by omega),Option.getD_some]
  exact List.getElem_mem _)
 have hfk:∀(D:Array (Fin (q+1))) t,D.size=xs.length→t<xs.length*k→(flatK enc k D)[t]! =flat.getD ((D[t / k]!).1*k+t % k) Go.undef:=by
  intro D t hD ht
  have hm:t % k<k:=Nat.mod_lt _ hk0
  rw[get_flatK _ _ _ _ (by rw[hD];exact ht),List.getElem!_eq_getElem?_getD,hec _ _ hm]
  rfl
 have hH:HoldsK enc k w gb 0 d:=by
  intro j hj
  rw[size_flatK,hd]at hj
  have hjk:j / k<q+1:=by rw[←hq];exact(Nat.div_lt_iff_lt_mul hk0).2 hj
  have h1:=hfk d j hd hj
  rw[hdg _ hjk]at h1
  have h2:j / k*k+j % k=j:=by rw[Nat.mul_comm];exact Nat.div_add_mod j k
  simp only[h2]at h1
  rw[h1]
  constructor
  ·unfold World.cell?
   simp only[hh,Nat.zero_add]
   exact hflat j hj
  ·unfold World.frozen?
   simp only[hh]
   simp
 let el:Fin (q+1)→List IV:=fun i=>xs[i.1]'(by rw[hq];exact i.2)
 have hel:∀i,el i∈xs:=fun i=>List.getElem_mem _
 have hel1:∀i,(el i).length=k:=fun i=>hx1 i.1 (el i) (List.getElem?_eq_getElem _)
 have hirep:∀(i:Fin (q+1)) (c:Nat) (y:IV) (u:Value),(el i)[c]? =some y→(enc i)[c]? =some u→IRep (seen w fun b=>(stO [.row e k xs]).owned m b∨Y b) y u:=by
  intro i c y u hy hu
  have hc:c<k:=by rw[←hel1 i];exact(List.getElem?_eq_some_iff.1 hy).1
  rw[hec i c hc]at hu
  have hlt:=hin i.1 c i.2 hc
  refine hr i.1 (el i) c y u (List.getElem?_eq_getElem _) hy ?_
  rw[←hu,List.getD_eq_getElem?_getD,List.getElem?_eq_getElem (by omega)]
  rfl
 have hsn:∀{W:World},SortedW w W gb→∀p v,seen w (fun b=>(stO [.row e k xs]).owned m b∨Y b) p v→seen W (fun b=>(stO [.row e k xs]).owned m b∨Y b) p v:=fun hW=>
  seen_mono (fun b hb hx=>hW.block b hb (fun e=>hx (by rw[e];exact .inl hgo))) (fun _ _ h=>h)
 have hwK:∀mm (dk:Array (Fin (q+1))) os,sortWorldK enc k w gb 0 mm dk os=sortWorld id w gb 0 mm (flatK enc k dk) os:=fun _ _ _=>rfl
 have hagg:∀(W:World),SortedW w W gb→∀i,VRep (fun _=>none) (seen W ((stO []).X (fun _=>none) fun b=>(stO [.row e k xs]).owned m b∨Y b)) (.agg ((el i).map .im)) (.agg (enc i).toArray):=by
  intro W hW i
  have hmn:∀p v,seen w (fun b=>(stO [.row e k xs]).owned m b∨Y b) p v→seen W ((stO []).X (fun _=>none) fun b=>(stO [.row e k xs]).owned m b∨Y b) p v:=fun p v hp=>by
   obtain⟨h1,h2⟩:=hsn hW p v hp
   exact⟨h1,fun hx=>hx.elim (fun hx=>stO_nil_owned _ _ hx) h2⟩
  refine .agg (by simp[hk,hel1]) fun j y u hy hu=>?_
  rw[List.getElem?_map,Option.map_eq_some_iff]at hy
  obtain⟨x,hx,rfl⟩:=hy
  exact .im ((hirep i j x u hx (by simpa using hu)).mono hmn)
 have hlays:CmpLays P g #[] enc k (fun i j=>cf (el i) (el j)) gb 0 d.size w:=by
  intro mm os dk hdk x y
  rw[hwK]
  have hW:=sortWorld_w id w gb 0 mm (flatK enc k dk) os
  generalize sortWorld id w gb 0 mm (flatK enc k dk) os=W at hW⊢
  have hsp:=hcmp (el x) (el y) (hel x) (hel y)
  refine(hsp.2 (fun _=>none) W (fun b=>(stO [.row e k xs]).owned m b∨Y b) #[.agg (enc x).toArray,.agg (enc y).toArray] ?_ ?_ ?_ ?_).mono ?_
  ·exact{objs:=fun n o hn=>(by rw[stO_obj]at hn;simp at hn),apart:=fun n n' o o' l l' b h1=>(by rw[stO_obj]at h1;simp at h1),foreign:=fun b hb=>(stO_nil_owned _ b hb).elim,fresh:=fun _ _=>rfl}
  ·intro b hb
   have:=hW.size
   rcases hb with hb|hb
   ·have:=hO.owned_lt hb;omega
   ·have:=hY b hb;omega
  ·rfl
  ·intro j z u hj hu
   match j with
   |0=>simp at hj hu;subst hj hu;exact hagg W hW x
   |1=>simp at hj hu;subst hj hu;exact hagg W hW y
   |j+2=>simp at hj
  ·rintro e' w'' ⟨v,m',rfl,hv,_,hkept,_,_⟩
   have:=hv.sc_inv
   subst this
   exact⟨rfl,grow_of hkept (stO_nil_owned _)⟩
 have hO':=swo_key (cf:=fun i j=>cf (el i) (el j)) (κ:=fun i=>κ (el i)) (fun i j=>hκ _ _ (hel i) (hel j))
 have hcon:=AnyQ.slices_SortFunc L k aE zE enc hk (fun i v hv=>by
  simp only[enc,List.mem_map,List.mem_range]at hv
  obtain⟨c,hc,rfl⟩:=hv
  exact hone' _ (hin i.1 c i.2 hc)) (fun i j=>cf (el i) (el j)) hO' g #[] gb 0 cp d w (fun args w=>eg args w) hlays hH hglt (by rw[hd];exact hlen)
 rw[hd]at hcon
 refine hcon.mono ?_
 rintro e' w' ⟨rfl,d',mm,os,hp,hs,rfl⟩
 rw[hwK]
 have hW:=sortWorld_w id w gb 0 mm (flatK enc k d') os
 obtain⟨hps,_,hpp⟩:=hp
 have hd':d'.size=xs.length:=by rw[hps,hd]
 have hd'q:d'.size=q+1:=by rw[hd',hq]
 have hd'g:∀j (hj:j<q+1),d'[j]! =d'[j]'(by rw[hd'q];exact hj):=fun j hj=>by
  rw[Array.getElem!_eq_getD,Array.getD_eq_getD_getElem?,Array.getElem?_eq_getElem (by rw[hd'q];exact hj)];rfl
 have hperm:d'.toList.Perm d.toList:=by
  have hx1':xs.length=d'.size:=by omega
  have e1:d'.extract 0 xs.length=d':=by rw[hx1'];simp
  have e2:d.extract 0 xs.length=d:=by rw[←hd];simp
  rw[e1,e2]at hpp
  exact hpp
 have hdl:d.toList.map el=xs:=by
  apply List.ext_getElem
  ·simp[d,hq]
  ·intro i h1 h2
   have h3:i<d.size:=by simpa using h1
   rw[List.getElem_map,Array.getElem_toList]
   have h4:d[i]=⟨i,by rw[hd,hq]at h3;exact h3⟩:=by simp[d]
   rw[h4]
 have hys:d'.toList.map el=S:=by
  refine hS _ ?_ ?_
  ·rw[←hdl];exact hperm.map el
  ·rw[List.pairwise_map,List.pairwise_iff_getElem]
   intro i j hi hj hij
   have hi':i<q+1:=by rw[←hd'q];simpa using hi
   have hj':j<q+1:=by rw[←hd'q];simpa using hj
   have:=hs i j (Nat.zero_le _) hij (by rw[hq];exact hj')
   rw[hd'g i hi',hd'g j hj']at this
   unfold ltOf at this
   simp only[decide_eq_false_iff_not,hκ _ _ (hel _) (hel _)]at this
   simp only[Array.getElem_toList]
   omega
 have hnew:(sortWorld id w gb 0 mm (flatK enc k d') os).heap[gb]? =some (.cells (putCells id 0 (flatK enc k d') cur) e (0,0)):=by
  rw[sortWorld_heap _ _ _ _ _ _ _ _ hglt]
  exact heap_mapBlock_same _ _ _ hh
 have hSl:S.length=xs.length:=by rw[←hys,List.length_map,Array.length_toList,hd']
 have hfs:(flatK enc k d').size=xs.length*k:=by rw[size_flatK,hd']
 have hown':(stO [.row e k S]).owned m=(stO [.row e k xs]).owned m:=by
  funext b
  apply propext
  constructor
  ·rintro⟨n,o,l,h1,h2,h3,h4⟩
   rw[stO_obj]at h1
   cases n with
   |zero=>exact⟨0,.row e k xs,l,by rw[stO_obj];rfl,rfl,h3,h4⟩
   |succ n=>simp at h1
  ·rintro⟨n,o,l,h1,h2,h3,h4⟩
   rw[stO_obj]at h1
   cases n with
   |zero=>exact⟨0,.row e k S,l,by rw[stO_obj];rfl,rfl,h3,h4⟩
   |succ n=>simp at h1
 have hget:∀t,t<xs.length*k→(flatK enc k d').toList[t]? =some (flat.getD ((d'[t / k]!).1*k+t % k) Go.undef):=by
  intro t ht
  rw[Array.getElem?_toList,Array.getElem?_eq_getElem (by rw[hfs];exact ht),←hfk d' t hd' ht,Array.getElem!_eq_getD,Array.getD_eq_getD_getElem?,Array.getElem?_eq_getElem (by rw[hfs];exact ht)]
  rfl
 refine⟨_,m,rfl,.tup rfl (fun j y u h=>by simp at h),?_,⟨hW.os,hW.tape,hW.output,hW.drawn,hW.size,fun b hb hz=>hW.block b hb (fun e'=>hz (by rw[e'];exact hgo))⟩,fun b hb=>.inl (by rw[←hown'];exact hb),fun _ _ h=>h⟩
 refine⟨?_,?_,?_,?_⟩
 ·intro n o hn
  rw[stO_obj]at hn
  cases n with
  |succ n=>simp at hn
  |zero=>
   simp at hn
   subst hn
   refine⟨_,hl,some ⟨gb,0,none⟩,cp,(flatK enc k d').toList,by rw[hSl],⟨by rw[hSl,Array.length_toList,hfs],.inr ⟨gb,cp,putCells id 0 (flatK enc k d') cur,by rw[hSl],Nat.zero_le _,hnew,by rw[hSl];exact hle,hcm,by simp[putCells,hcs],?_⟩⟩,?_,?_,?_⟩
   ·rw[hSl]
    apply List.ext_getElem?
    intro i
    rw[List.getElem?_take]
    split
    ·rename_i hi
     rw[hget i hi,Array.getElem?_toList]
     unfold putCells
     rw[Array.getElem?_mapIdx,hflat i hi]
     simp only[Option.map_some,Nat.zero_add,Nat.sub_zero]
     rw[if_pos ⟨Nat.zero_le _,by rw[hfs];exact hi⟩,hfk d' i hd' hi]
     rfl
    ·rw[List.getElem?_eq_none (by rw[Array.length_toList,hfs];omega)]
   ·intro u hu
    obtain⟨t,ht,rfl⟩:=List.getElem_of_mem hu
    have ht':t<xs.length*k:=by rw[←hfs];simpa using ht
    have h1:=hget t ht'
    rw[List.getElem?_eq_getElem ht]at h1
    rw[Option.some.inj h1]
    exact hone' _ (hin _ _ (d'[t / k]!).2 (Nat.mod_lt _ hk0))
   ·intro i x hx
    rw[←hys,List.getElem?_map,Option.map_eq_some_iff]at hx
    obtain⟨j,_,rfl⟩:=hx
    exact hel1 j
   ·intro i x j y u hx hy hu
    rw[←hys,List.getElem?_map,Option.map_eq_some_iff]at hx
    obtain⟨z,hz,rfl⟩:=hx
    have hj:j<k:=by rw[←hel1 z];exact(List.getElem?_eq_some_iff.1 hy).1
    have hi:i<q+1:=by rw[←hd'q];simpa using(List.getElem?_eq_some_iff.1 hz).1
    have hlt:=hin i j hi hj
    have h1:=hget (i*k+j) hlt
    have e1:(i*k+j) / k=i:=by rw[Nat.mul_comm,Nat.mul_add_div hk0,Nat.div_eq_of_lt hj];rfl
    have e2:(i*k+j) % k=j:=by rw[Nat.mul_comm,Nat.mul_add_mod,Nat.mod_eq_of_lt hj]
    have hz':d'[i]! =z:=by
     rw[hd'g i hi]
     rw[Array.getElem?_toList,Array.getElem?_eq_getElem (by rw[hd'q];exact hi)]at hz
     exact Option.some.inj hz
    rw[e1,e2,hz',hu]at h1
    have h2:=hirep z j y u hy (by rw[hec z j hj,←Option.some.inj h1])
    rw[hown']
    exact h2.mono (hsn hW)
 ·intro n n' o o' l l' b h1 h2 _ _ _ _ _ _
  rw[stO_obj]at h1 h2
  cases n<;>cases n'<;>simp at h1 h2⊢
 ·intro b hb
  rw[hown']at hb
  exact hO.foreign b hb
 ·intro n hn
  exact hO.fresh n hn
end Go.Am
namespace Go.Am
open Go.RowKit Go.Shelf Go.Sort Go.Proofs
variable {P:Program}
def Rigid (x:AV):Prop:=∃v:Value,∀(m:Nm) (c:Addr→Value→Prop) (u:Value),VRep m c x u↔u=v
theorem rigid_sc (v:Value):Rigid (.im (.sc v)):=⟨v,fun m c u=>⟨fun h=>h.sc_inv,fun h=>by rw[h];exact .im .sc⟩⟩
theorem rigid_fn (f:FuncId):Rigid (.fn f []):=⟨.func (.func f) #[] #[],fun m c u=>⟨fun h=>by
 cases h with|@fn _ _ cvs hl' _=>
 have:cvs=#[]:=by simpa using hl'
 rw[this],fun h=>by rw[h];exact .fn rfl (fun j y u h=>by simp at h)⟩⟩
theorem sortFuncC {ρ:Ren} (L:SlLaysF0.n6 P ρ) {g:FuncId} (e:TypeId) (k:Nat) (hk0:0<k) (aE:∀w,(isAgg (ρ.t 24)).run P w=.ok true w) (zE:∀w,(Go.sizeOf (ρ.t 24)).run P w=.ok k w)
  (xs S:List (List IV)) (cf:List IV→List IV→Int) (κ:List IV→Int) (eg:Enters P g) (hne:xs≠[]) (t:TypeId) (cs:List AV) (hrig:∀x∈cs,Rigid x)
  (hcmp:∀x y,x∈xs→y∈xs→FSpec P g [.agg (x.map .im),.agg (y.map .im),.ptr 0 0] [.box t cs] (.int .i64 (cf x y)) [.box t cs]) (hκ:∀x y,x∈xs→y∈xs→(cf x y<0↔κ x<κ y)) (hlen:xs.length<4611686018427387904)
  (hS:∀ys:List (List IV),ys.Perm xs→ys.Pairwise (fun x y=>κ x≤κ y)→ys=S):FSpec P (ρ.f 6) [.row 0,.fn g [.ptr 1 0]] [.row e k xs,.box t cs] (.tup []) [.row e k S,.box t cs]:=by
 refine⟨L.f6.enters rfl,fun m w Y vs hO hY hsz hvs=>?_⟩
 obtain⟨l,hl,A,cp,flat,rfl,hown,hone,hx1,hr⟩:=hO.objs 0 (.row e k xs) (by rw[stO_obj];rfl)
 obtain⟨l1,hl1,b1,arr,rfl,hb1,hbs,hb1c,hbr⟩:=hO.objs 1 (.box t cs) (by rw[stO_obj];rfl)
 have hv0:vs[0]? =some (.slice A xs.length cp):=by
  have hlt:0<vs.size:=by rw[hsz];simp
  have:=hvs 0 (.row 0) vs[0] rfl (Array.getElem?_eq_getElem hlt)
  rw[Array.getElem?_eq_getElem hlt]
  generalize vs[0]=v at this
  cases this with|row hm=>rw[hl]at hm;cases hm;rfl
 have hv1:vs[1]? =some (.func (.func g) #[] #[.pointer (some ⟨b1,0,none⟩)]):=by
  have hlt:1<vs.size:=by rw[hsz];simp
  have:=hvs 1 (.fn g [.ptr 1 0]) vs[1] rfl (Array.getElem?_eq_getElem hlt)
  rw[Array.getElem?_eq_getElem hlt]
  generalize vs[1]=v at this
  cases this with|@fn _ _ cvs hl' hr'=>
  have h1:cvs.size=1:=by simpa using hl'
  have h0:0<cvs.size:=by omega
  have h2:=hr' 0 (.ptr 1 0) cvs[0] rfl (Array.getElem?_eq_getElem h0)
  have h3:cvs=#[cvs[0]]:=by
   apply Array.ext (by simp[h1])
   intro i g1 g2
   have:i=0:=by omega
   subst this
   rfl
  rw[h3]
  generalize cvs[0]=z at h2
  cases h2 with|ptr hm=>rw[hl1]at hm;cases hm;rfl
 have hvs2:vs=#[.slice A xs.length cp,.func (.func g) #[] #[.pointer (some ⟨b1,0,none⟩)]]:=by
  apply Array.ext_getElem?
  intro i
  match i with
  |0=>rw[hv0];rfl
  |1=>rw[hv1];rfl
  |i+2=>rw[Array.getElem?_eq_none (by rw[hsz];simp)];rfl
 subst hvs2
 obtain⟨q,hq⟩:∃q,xs.length=q+1:=⟨xs.length-1,by have:=List.length_pos_iff.2 hne;omega⟩
 obtain⟨hfl,hcase⟩:=hown
 rcases hcase with⟨_,h0⟩|⟨gb,cap,cur,hve,hg,hh,hle,hcm,hcs,htk⟩
 ·rw[hq]at h0;cases h0
 obtain⟨rfl,rfl⟩:A=some ⟨gb,0,none⟩∧cp=cap:=by simp at hve;exact hve
 clear hve
 have hin:∀i c,i<q+1→c<k→i*k+c<xs.length*k:=by
  intro i c hi hc
  have:=Nat.mul_le_mul_right k (show i+1≤q+1 from hi)
  rw[hq,Nat.add_mul i,Nat.one_mul]at*
  omega
 have hflat:∀(t:Nat),t<xs.length*k→cur[t]? =some (flat.getD t Go.undef):=by
  intro i hi
  have h1:flat[i]? =some (flat.getD i Go.undef):=by rw[List.getD_eq_getElem?_getD,List.getElem?_eq_getElem (by omega)];rfl
  rw[←h1,←htk,List.getElem?_take,if_pos (by omega),Array.getElem?_toList]
 have hgo:(stO [.row e k xs,.box t cs]).owned m gb:=⟨0,_,_,by rw[stO_obj];rfl,rfl,hl,rfl⟩
 have hb1o:(stO [.row e k xs,.box t cs]).owned m b1:=⟨1,_,_,by rw[stO_obj];rfl,rfl,hl1,rfl⟩
 have hb1lt:b1<w.heap.size:=(Array.getElem?_eq_some_iff.1 hb1).1
 have hne1:b1≠gb:=fun e'=>by
  have:=hO.apart 0 1 (.row e k xs) (.box t cs) _ _ gb (by rw[stO_obj];rfl) (by rw[stO_obj];rfl) rfl rfl hl hl1 rfl (by rw[e'];rfl)
  cases this
 let m2:Nm:=fun n=>if n=0 then some (.blk b1)else none
 let Y2:Nat→Prop:=fun b=>b=gb∨Y b
 have hown2:∀b,(stO [.box t cs]).owned m2 b→b=b1:=by
  rintro b ⟨n,o,l,h1,h2,h3,h4⟩
  rw[stO_obj]at h1
  cases n with
  |zero=>
   have:l=.blk b1:=by simpa [m2]using h3.symm
   subst this
   simpa [Loc.own]using h4.symm
  |succ n=>simp at h1
 have hglt:gb<w.heap.size:=(Array.getElem?_eq_some_iff.1 hh).1
 let enc:Fin (q+1)→List Value:=fun i=>(List.range k).map fun c=>flat.getD (i.1*k+c) Go.undef
 have hk:∀x,(enc x).length=k:=fun x=>by simp[enc]
 have hec:∀x c,c<k→(enc x)[c]? =some (flat.getD (x.1*k+c) Go.undef):=fun x c hc=>by simp[enc,List.getElem?_range hc]
 let d:Array (Fin (q+1)):=Array.ofFn id
 have hd:d.size=xs.length:=by simp[d,hq]
 have hdg:∀j (hj:j<q+1),d[j]! =⟨j,hj⟩:=fun j hj=>by
  rw[Array.getElem!_eq_getD,Array.getD_eq_getD_getElem?,Array.getElem?_eq_getElem (by simp[d];exact hj)]
  simp[d]
 have hone':∀t,t<xs.length*k→(flat.getD t Go.undef).oneCell'=true:=fun t ht=>hone _ (by
  rw[List.getD_eq_getElem?_getD,List.getElem?_eq_getElem (show t<flat.length by omega),Option.getD_some]
  exact List.getElem_mem _)
 have hfk:∀(D:Array (Fin (q+1))) t,D.size=xs.length→t<xs.length*k→(flatK enc k D)[t]! =flat.getD ((D[t / k]!).1*k+t % k) Go.undef:=by
  intro D t hD ht
  have hm:t % k<k:=Nat.mod_lt _ hk0
  rw[get_flatK _ _ _ _ (by rw[hD];exact ht),List.getElem!_eq_getElem?_getD,hec _ _ hm]
  rfl
 have hH:HoldsK enc k w gb 0 d:=by
  intro j hj
  rw[size_flatK,hd]at hj
  have hjk:j / k<q+1:=by rw[←hq];exact(Nat.div_lt_iff_lt_mul hk0).2 hj
  have h1:=hfk d j hd hj
  rw[hdg _ hjk]at h1
  have h2:j / k*k+j % k=j:=by rw[Nat.mul_comm];exact Nat.div_add_mod j k
  simp only[h2]at h1
  rw[h1]
  constructor
  ·unfold World.cell?
   simp only[hh,Nat.zero_add]
   exact hflat j hj
  ·unfold World.frozen?
   simp only[hh]
   simp
 let el:Fin (q+1)→List IV:=fun i=>xs[i.1]'(by rw[hq];exact i.2)
 have hel:∀i,el i∈xs:=fun i=>List.getElem_mem _
 have hel1:∀i,(el i).length=k:=fun i=>hx1 i.1 (el i) (List.getElem?_eq_getElem _)
 have hirep:∀(i:Fin (q+1)) (c:Nat) (y:IV) (u:Value),(el i)[c]? =some y→(enc i)[c]? =some u→IRep (seen w fun b=>(stO [.row e k xs,.box t cs]).owned m b∨Y b) y u:=by
  intro i c y u hy hu
  have hc:c<k:=by rw[←hel1 i];exact(List.getElem?_eq_some_iff.1 hy).1
  rw[hec i c hc]at hu
  have hlt:=hin i.1 c i.2 hc
  refine hr i.1 (el i) c y u (List.getElem?_eq_getElem _) hy ?_
  rw[←hu,List.getD_eq_getElem?_getD,List.getElem?_eq_getElem (by omega)]
  rfl
 have hsn:∀{W:World},SortedW w W gb→∀p v,seen w (fun b=>(stO [.row e k xs,.box t cs]).owned m b∨Y b) p v→seen W (fun b=>(stO [.row e k xs,.box t cs]).owned m b∨Y b) p v:=fun hW=>
  seen_mono (fun b hb hx=>hW.block b hb (fun e=>hx (by rw[e];exact .inl hgo))) (fun _ _ h=>h)
 have hwK:∀mm (dk:Array (Fin (q+1))) os,sortWorldK enc k w gb 0 mm dk os=sortWorld id w gb 0 mm (flatK enc k dk) os:=fun _ _ _=>rfl
 have hagg:∀(W:World),SortedW w W gb→∀i,VRep m2 (seen W ((stO [.box t cs]).X m2 Y2)) (.agg ((el i).map .im)) (.agg (enc i).toArray):=by
  intro W hW i
  have hmn:∀p v,seen w (fun b=>(stO [.row e k xs,.box t cs]).owned m b∨Y b) p v→seen W ((stO [.box t cs]).X m2 Y2) p v:=fun p v hp=>by
   obtain⟨h1,h2⟩:=hsn hW p v hp
   exact⟨h1,fun hx=>hx.elim (fun hx=>h2 (.inl (by rw[hown2 _ hx];exact hb1o))) (fun hx=>hx.elim (fun hx=>h2 (.inl (by rw[hx];exact hgo))) (fun hx=>h2 (.inr hx)))⟩
  refine .agg (by simp[hk,hel1]) fun j y u hy hu=>?_
  rw[List.getElem?_map,Option.map_eq_some_iff]at hy
  obtain⟨x,hx,rfl⟩:=hy
  exact .im ((hirep i j x u hx (by simpa using hu)).mono hmn)
 have hlays:CmpLays P g #[.pointer (some ⟨b1,0,none⟩)] enc k (fun i j=>cf (el i) (el j)) gb 0 d.size w:=by
  intro mm os dk hdk x y
  rw[hwK]
  have hW:=sortWorld_w id w gb 0 mm (flatK enc k dk) os
  generalize sortWorld id w gb 0 mm (flatK enc k dk) os=W at hW⊢
  have hsp:=hcmp (el x) (el y) (hel x) (hel y)
  have hbW:W.heap[b1]? =some (.cells arr t (0,0)):=by rw[hW.block b1 hb1lt hne1];exact hb1
  have hap:(#[.agg (enc x).toArray,.agg (enc y).toArray]:Array Value)++#[.pointer (some ⟨b1,0,none⟩)]=#[.agg (enc x).toArray,.agg (enc y).toArray,.pointer (some ⟨b1,0,none⟩)]:=by simp
  rw[hap]
  refine(hsp.2 m2 W Y2 #[.agg (enc x).toArray,.agg (enc y).toArray,.pointer (some ⟨b1,0,none⟩)] ?_ ?_ ?_ ?_).mono ?_
  ·refine{objs:=fun n o hn=>?_,apart:=fun n n' o o' l l' b h1 h2 _ _ _ _ _ _=>?_,foreign:=fun b hb hx=>?_,fresh:=fun n hn=>?_}
   ·rw[stO_obj]at hn
    cases n with
    |succ n=>simp at hn
    |zero=>
     simp at hn
     subst hn
     refine⟨.blk b1,rfl,b1,arr,rfl,hbW,hbs,hb1c,fun j y u hy hu=>?_⟩
     obtain⟨v,hv⟩:=hrig y (List.mem_of_getElem? hy)
     exact(hv _ _ _).2 ((hv _ _ _).1 (hbr j y u hy hu))
   ·rw[stO_obj]at h1 h2
    cases n<;>cases n'<;>simp at h1 h2⊢
   ·rw[hown2 b hb]at hx
    exact hx.elim hne1 (hO.foreign b1 hb1o)
   ·have:1≤n:=hn
    simp[m2]
    omega
  ·intro b hb
   have:=hW.size
   rcases hb with hb|hb
   ·omega
   ·have:=hY b hb;omega
  ·rfl
  ·intro j z u hj hu
   match j with
   |0=>simp at hj hu;subst hj hu;exact hagg W hW x
   |1=>simp at hj hu;subst hj hu;exact hagg W hW y
   |2=>simp at hj hu;subst hj hu;exact .ptr rfl
   |j+3=>simp at hj
  ·rintro e' w'' ⟨v,m',rfl,hv,hs',hkept,_,hm'⟩
   have:=hv.sc_inv
   subst this
   refine⟨rfl,grow_of (Z:=fun _=>False) ⟨hkept.os,hkept.tape,hkept.output,hkept.drawn,hkept.size,fun b hb _=>?_⟩ (fun _ h=>h)⟩
   by_cases hbb:b=b1
   ·subst hbb
    obtain⟨l',hl',hrep⟩:=hs'.objs 0 (.box t cs) (by rw[stO_obj];rfl)
    have h0:m' 0=some (.blk b):=hm' 0 (.blk b) rfl
    rw[h0]at hl'
    cases hl'
    obtain⟨b2,arr2,hbe,hh2,hs2,_,hr2⟩:=hrep
    cases hbe
    rw[hh2,hbW]
    have:arr2=arr:=by
     apply Array.ext (by rw[hs2,hbs])
     intro i g1 g2
     have hi:i<cs.length:=by rw[←hs2];exact g1
     obtain⟨v,hv⟩:=hrig cs[i] (List.getElem_mem hi)
     rw[(hv _ _ _).1 (hr2 i cs[i] arr2[i] (List.getElem?_eq_getElem hi) (Array.getElem?_eq_getElem g1)),(hv _ _ _).1 (hbr i cs[i] arr[i] (List.getElem?_eq_getElem hi) (Array.getElem?_eq_getElem g2))]
    rw[this]
   ·exact hkept.block b hb (fun h=>hbb (hown2 b h))
 have hO':=swo_key (cf:=fun i j=>cf (el i) (el j)) (κ:=fun i=>κ (el i)) (fun i j=>hκ _ _ (hel i) (hel j))
 have hcon:=AnyQ.slices_SortFunc L k aE zE enc hk (fun i v hv=>by
  simp only[enc,List.mem_map,List.mem_range]at hv
  obtain⟨c,hc,rfl⟩:=hv
  exact hone' _ (hin i.1 c i.2 hc)) (fun i j=>cf (el i) (el j)) hO' g #[.pointer (some ⟨b1,0,none⟩)] gb 0 cp d w (fun args w=>eg args w) hlays hH hglt (by rw[hd];exact hlen)
 rw[hd]at hcon
 refine hcon.mono ?_
 rintro e' w' ⟨rfl,d',mm,os,hp,hs,rfl⟩
 rw[hwK]
 have hW:=sortWorld_w id w gb 0 mm (flatK enc k d') os
 obtain⟨hps,_,hpp⟩:=hp
 have hd':d'.size=xs.length:=by rw[hps,hd]
 have hd'q:d'.size=q+1:=by rw[hd',hq]
 have hd'g:∀j (hj:j<q+1),d'[j]! =d'[j]'(by rw[hd'q];exact hj):=fun j hj=>by
  rw[Array.getElem!_eq_getD,Array.getD_eq_getD_getElem?,Array.getElem?_eq_getElem (by rw[hd'q];exact hj)];rfl
 have hperm:d'.toList.Perm d.toList:=by
  have hx1':xs.length=d'.size:=by omega
  have e1:d'.extract 0 xs.length=d':=by rw[hx1'];simp
  have e2:d.extract 0 xs.length=d:=by rw[←hd];simp
  rw[e1,e2]at hpp
  exact hpp
 have hdl:d.toList.map el=xs:=by
  apply List.ext_getElem
  ·simp[d,hq]
  ·intro i h1 h2
   have h3:i<d.size:=by simpa using h1
   rw[List.getElem_map,Array.getElem_toList]
   have h4:d[i]=⟨i,by rw[hd,hq]at h3;exact h3⟩:=by simp[d]
   rw[h4]
 have hys:d'.toList.map el=S:=by
  refine hS _ ?_ ?_
  ·rw[←hdl];exact hperm.map el
  ·rw[List.pairwise_map,List.pairwise_iff_getElem]
   intro i j hi hj hij
   have hi':i<q+1:=by rw[←hd'q];simpa using hi
   have hj':j<q+1:=by rw[←hd'q];simpa using hj
   have:=hs i j (Nat.zero_le _) hij (by rw[hq];exact hj')
   rw[hd'g i hi',hd'g j hj']at this
   unfold ltOf at this
   simp only[decide_eq_false_iff_not,hκ _ _ (hel _) (hel _)]at this
   simp only[Array.getElem_toList]
   omega
 have hnew:(sortWorld id w gb 0 mm (flatK enc k d') os).heap[gb]? =some (.cells (putCells id 0 (flatK enc k d') cur) e (0,0)):=by
  rw[sortWorld_heap _ _ _ _ _ _ _ _ hglt]
  exact heap_mapBlock_same _ _ _ hh
 have hSl:S.length=xs.length:=by rw[←hys,List.length_map,Array.length_toList,hd']
 have hfs:(flatK enc k d').size=xs.length*k:=by rw[size_flatK,hd']
 have hown':(stO [.row e k S,.box t cs]).owned m=(stO [.row e k xs,.box t cs]).owned m:=by
  funext b
  apply propext
  constructor
  ·rintro⟨n,o,l,h1,h2,h3,h4⟩
   rw[stO_obj]at h1
   match n with
   |0=>exact⟨0,.row e k xs,l,by rw[stO_obj];rfl,rfl,h3,h4⟩
   |1=>exact⟨1,.box t cs,l,by rw[stO_obj];rfl,rfl,h3,h4⟩
   |n+2=>simp at h1
  ·rintro⟨n,o,l,h1,h2,h3,h4⟩
   rw[stO_obj]at h1
   match n with
   |0=>exact⟨0,.row e k S,l,by rw[stO_obj];rfl,rfl,h3,h4⟩
   |1=>exact⟨1,.box t cs,l,by rw[stO_obj];rfl,rfl,h3,h4⟩
   |n+2=>simp at h1
 have hget:∀t,t<xs.length*k→(flatK enc k d').toList[t]? =some (flat.getD ((d'[t / k]!).1*k+t % k) Go.undef):=by
  intro t ht
  rw[Array.getElem?_toList,Array.getElem?_eq_getElem (by rw[hfs];exact ht),←hfk d' t hd' ht,Array.getElem!_eq_getD,Array.getD_eq_getD_getElem?,Array.getElem?_eq_getElem (by rw[hfs];exact ht)]
  rfl
 refine⟨_,m,rfl,.tup rfl (fun j y u h=>by simp at h),?_,⟨hW.os,hW.tape,hW.output,hW.drawn,hW.size,fun b hb hz=>hW.block b hb (fun e'=>hz (by rw[e'];exact hgo))⟩,fun b hb=>.inl (by rw[←hown'];exact hb),fun _ _ h=>h⟩
 refine⟨?_,?_,?_,?_⟩
 ·intro n o hn
  rw[stO_obj]at hn
  match n with
  |n+2=>simp at hn
  |1=>
   simp at hn
   subst hn
   refine⟨_,hl1,b1,arr,rfl,by rw[hW.block b1 hb1lt hne1];exact hb1,hbs,hb1c,fun j y u hy hu=>?_⟩
   obtain⟨v,hv⟩:=hrig y (List.mem_of_getElem? hy)
   exact(hv _ _ _).2 ((hv _ _ _).1 (hbr j y u hy hu))
  |0=>
   simp at hn
   subst hn
   refine⟨_,hl,some ⟨gb,0,none⟩,cp,(flatK enc k d').toList,by rw[hSl],⟨by rw[hSl,Array.length_toList,hfs],.inr ⟨gb,cp,putCells id 0 (flatK enc k d') cur,by rw[hSl],Nat.zero_le _,hnew,by rw[hSl];exact hle,hcm,by simp[putCells,hcs],?_⟩⟩,?_,?_,?_⟩
   ·rw[hSl]
    apply List.ext_getElem?
    intro i
    rw[List.getElem?_take]
    split
    ·rename_i hi
     rw[hget i hi,Array.getElem?_toList]
     unfold putCells
     rw[Array.getElem?_mapIdx,hflat i hi]
     simp only[Option.map_some,Nat.zero_add,Nat.sub_zero]
     rw[if_pos ⟨Nat.zero_le _,by rw[hfs];exact hi⟩,hfk d' i hd' hi]
     rfl
    ·rw[List.getElem?_eq_none (by rw[Array.length_toList,hfs];omega)]
   ·intro u hu
    obtain⟨t,ht,rfl⟩:=List.getElem_of_mem hu
    have ht':t<xs.length*k:=by rw[←hfs];simpa using ht
    have h1:=hget t ht'
    rw[List.getElem?_eq_getElem ht]at h1
    rw[Option.some.inj h1]
    exact hone' _ (hin _ _ (d'[t / k]!).2 (Nat.mod_lt _ hk0))
   ·intro i x hx
    rw[←hys,List.getElem?_map,Option.map_eq_some_iff]at hx
    obtain⟨j,_,rfl⟩:=hx
    exact hel1 j
   ·intro i x j y u hx hy hu
    rw[←hys,List.getElem?_map,Option.map_eq_some_iff]at hx
    obtain⟨z,hz,rfl⟩:=hx
    have hj:j<k:=by rw[←hel1 z];exact(List.getElem?_eq_some_iff.1 hy).1
    have hi:i<q+1:=by rw[←hd'q];simpa using(List.getElem?_eq_some_iff.1 hz).1
    have hlt:=hin i j hi hj
    have h1:=hget (i*k+j) hlt
    have e1:(i*k+j) / k=i:=by rw[Nat.mul_comm,Nat.mul_add_div hk0,Nat.div_eq_of_lt hj];rfl
    have e2:(i*k+j) % k=j:=by rw[Nat.mul_comm,Nat.mul_add_mod,Nat.mod_eq_of_lt hj]
    have hz':d'[i]! =z:=by
     rw[hd'g i hi]
     rw[Array.getElem?_toList,Array.getElem?_eq_getElem (by rw[hd'q];exact hi)]at hz
     exact Option.some.inj hz
    rw[e1,e2,hz',hu]at h1
    have h2:=hirep z j y u hy (by rw[hec z j hj,←Option.some.inj h1])
    rw[hown']
    exact h2.mono (hsn hW)
 ·intro n n' o o' l l' b h1 h2 _ _ h3 h4 h5 h6
  rw[stO_obj]at h1 h2
  match n,n' with
  |0,0=>rfl
  |1,1=>rfl
  |0,1=>
   rw[hl]at h3;rw[hl1]at h4;cases h3;cases h4
   simp[Loc.own]at h5 h6
   exact absurd (h6.trans h5.symm) hne1
  |1,0=>
   rw[hl1]at h3;rw[hl]at h4;cases h3;cases h4
   simp[Loc.own]at h5 h6
   exact absurd (h5.trans h6.symm) hne1
  |n+2,_=>simp at h1
  |_,n+2=>simp at h2
 ·intro b hb
  rw[hown']at hb
  exact hO.foreign b hb
 ·intro n hn
  exact hO.fresh n hn
end Go.Am
