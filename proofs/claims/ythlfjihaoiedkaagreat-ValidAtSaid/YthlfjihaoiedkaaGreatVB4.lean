import Derived.Shelf.SortM.Plain
import Derived.Shelf.SortM.SortNone
import Derived.Test.YthlfjihaoiedkaaGreatVB3
set_option linter.unusedVariables false
set_option linter.unusedSimpArgs false
set_option linter.unusedSectionVars false
namespace Go.Am
open Go.RowKit Go.Shelf Go.Sort Go.Proofs
variable {P:Program}
def rowN (l:List Int):List (List IV):=l.map fun x=>[.sc (.int .i64 x)]
def sortI (l:List Int):List Int:=l.mergeSort fun x y=>decide (x≤y)
theorem sortInts {ρ:Ren} (L:SlLaysM.n5 P ρ) (e:TypeId) (xs:List Int) (hlen:xs.length<4611686018427387904):FSpec P (ρ.f 5) [.row 0] [.row e 1 (rowN xs)] (.tup []) [.row e 1 (rowN (sortI xs))]:=by
 refine⟨L.f5.enters rfl,fun m w Y vs hO hY hsz hvs=>?_⟩
 obtain⟨l,hl,A,cp,flat,rfl,hown,hone,hx1,hr⟩:=hO.objs 0 (.row e 1 (rowN xs)) (by rw[stO_obj];rfl)
 have hrl:(rowN xs).length=xs.length:=by simp[rowN]
 rw[hrl]at hl hown
 have hv0:vs[0]? =some (.slice A xs.length cp):=by
  have hlt:0<vs.size:=by rw[hsz];simp
  have:=hvs 0 (.row 0) vs[0] rfl (Array.getElem?_eq_getElem hlt)
  rw[Array.getElem?_eq_getElem hlt]
  generalize vs[0]=v at this
  cases this with|row hm=>rw[hl]at hm;cases hm;rfl
 have hvs2:vs=#[.slice A xs.length cp]:=by
  apply Array.ext_getElem?
  intro i
  match i with
  |0=>rw[hv0];rfl
  |i+1=>rw[Array.getElem?_eq_none (by rw[hsz];simp)];rfl
 subst hvs2
 have hflat:flat=xs.map (Value.int .i64):=by
  apply List.ext_getElem?
  intro i
  by_cases hi:i<xs.length
  ·have h1:i<flat.length:=by rw[hown.1];omega
   have h2:=hr i [.sc (.int .i64 xs[i])] 0 (.sc (.int .i64 xs[i])) flat[i] (by simp[rowN,hi]) rfl (by rw[Nat.mul_one,Nat.add_zero,List.getElem?_eq_getElem h1])
   have h3:flat[i]=.int .i64 xs[i]:=by
    generalize flat[i]=z at h2
    cases h2;rfl
   rw[List.getElem?_eq_getElem h1,List.getElem?_map,List.getElem?_eq_getElem hi,h3]
   rfl
  ·rw[List.getElem?_eq_none (by rw[hown.1];omega),List.getElem?_eq_none (by simp;omega)]
 have hown':∀S:List (List IV),(stO [.row e 1 S]).owned m=(stO [.row e 1 (rowN xs)]).owned m:=by
  intro S
  funext b
  apply propext
  constructor
  ·rintro⟨n,o,l,h1,h2,h3,h4⟩
   rw[stO_obj]at h1
   cases n with
   |zero=>exact⟨0,.row e 1 (rowN xs),l,by rw[stO_obj];rfl,rfl,h3,h4⟩
   |succ n=>simp at h1
  ·rintro⟨n,o,l,h1,h2,h3,h4⟩
   rw[stO_obj]at h1
   cases n with
   |zero=>exact⟨0,.row e 1 S,l,by rw[stO_obj];rfl,rfl,h3,h4⟩
   |succ n=>simp at h1
 by_cases hne:xs=[]
 ·subst hne
  have hs0:sortI []=[]:=by simp[sortI]
  rw[hs0]
  refine(AnyM.slices_Sort_int_none L A cp w).mono ?_
  rintro e' w' ⟨rfl,rfl⟩
  exact⟨_,m,rfl,.tup rfl (fun j y u h=>by simp at h),hO,Kept.refl _ _,fun b hb=>.inl hb,fun _ _ h=>h⟩
 obtain⟨k,hk⟩:∃k,xs.length=k+1:=⟨xs.length-1,by have:=List.length_pos_iff.2 hne;omega⟩
 obtain⟨hfl,hcase⟩:=hown
 rcases hcase with⟨_,h0⟩|⟨gb,cap,cur,hve,hg,hh,hle,hcm,hcs,htk⟩
 ·rw[hk]at h0;cases h0
 obtain⟨rfl,rfl⟩:A=some ⟨gb,0,none⟩∧cp=cap:=by simp at hve;exact hve
 clear hve
 rw[Nat.mul_one]at hfl hcs htk
 subst hflat
 have hcur:∀(i:Nat) (hi:i<xs.length),cur[i]? =some (.int .i64 xs[i]):=by
  intro i hi
  have h1:(xs.map (Value.int .i64))[i]? =some (.int .i64 xs[i]):=by simp[hi]
  rw[←h1,←htk,List.getElem?_take,if_pos hi,Array.getElem?_toList]
 have hgo:(stO [.row e 1 (rowN xs)]).owned m gb:=⟨0,_,_,by rw[stO_obj];rfl,rfl,hl,rfl⟩
 have hglt:gb<w.heap.size:=(Array.getElem?_eq_some_iff.1 hh).1
 have hH:Holds (Value.int .i64) w gb 0 xs.toArray:=by
  intro j hj
  have hj':j<xs.length:=by simpa using hj
  have e1:xs.toArray[j]! =xs[j]:=by simp[hj']
  rw[e1]
  constructor
  ·unfold World.cell?
   simp only[hh,Nat.zero_add]
   exact hcur j hj'
  ·unfold World.frozen?
   simp only[hh]
   simp
 refine(AnyM.slices_Sort_int L gb 0 cp xs w hH hglt hlen).mono ?_
 rintro e' w' ⟨rfl,mm,os,rfl⟩
 have hW:=sortWorld_w (Value.int .i64) w gb 0 mm (sortI xs).toArray os
 have hWe:sortWorld (Value.int .i64) w gb 0 mm (sortI xs).toArray os=grow (putRow (Value.int .i64) (Sort.ahead w mm) gb 0 (xs.mergeSort fun x y=>decide (x≤y)).toArray) os:=rfl
 rw[←hWe]
 have hsl:(sortI xs).length=xs.length:=by simp[sortI]
 have hrs:(rowN (sortI xs)).length=xs.length:=by simp[rowN,hsl]
 have hnew:(sortWorld (Value.int .i64) w gb 0 mm (sortI xs).toArray os).heap[gb]? =some (.cells (putCells (Value.int .i64) 0 (sortI xs).toArray cur) e (0,0)):=by
  rw[sortWorld_heap _ _ _ _ _ _ _ _ hglt]
  exact heap_mapBlock_same _ _ _ hh
 refine⟨_,m,rfl,.tup rfl (fun j y u h=>by simp at h),?_,⟨hW.os,hW.tape,hW.output,hW.drawn,hW.size,fun b hb hz=>hW.block b hb (fun e'=>hz (by rw[e'];exact hgo))⟩,fun b hb=>.inl (by rw[←hown' (rowN (sortI xs))];exact hb),fun _ _ h=>h⟩
 refine⟨?_,?_,?_,?_⟩
 ·intro n o hn
  rw[stO_obj]at hn
  cases n with
  |succ n=>simp at hn
  |zero=>
   simp at hn
   subst hn
   refine⟨_,hl,some ⟨gb,0,none⟩,cp,((sortI xs).map (Value.int .i64)),by rw[hrs],⟨by rw[hrs,List.length_map,hsl];omega,.inr ⟨gb,cp,putCells (Value.int .i64) 0 (sortI xs).toArray cur,by rw[hrs],Nat.zero_le _,hnew,by rw[hrs];exact hle,hcm,by simp[putCells,hcs],?_⟩⟩,?_,?_,?_⟩
   ·rw[hrs,Nat.mul_one]
    apply List.ext_getElem?
    intro i
    rw[List.getElem?_take]
    split
    ·rename_i hi
     rw[Array.getElem?_toList,List.getElem?_map,List.getElem?_eq_getElem (show i<(sortI xs).length by omega)]
     unfold putCells
     rw[Array.getElem?_mapIdx,hcur i hi]
     simp only[Option.map_some,Nat.zero_add,Nat.sub_zero,List.size_toArray]
     rw[if_pos ⟨Nat.zero_le _,by omega⟩]
     simp[show i<(sortI xs).length by omega]
    ·rw[List.getElem?_eq_none (by rw[List.length_map];omega)]
   ·intro u hu
    simp only[List.mem_map]at hu
    obtain⟨i,_,rfl⟩:=hu
    rfl
   ·intro i x hx
    unfold rowN at hx
    rw[List.getElem?_map,Option.map_eq_some_iff]at hx
    obtain⟨j,_,rfl⟩:=hx
    rfl
   ·intro i x j y u hx hy hu
    unfold rowN at hx
    rw[List.getElem?_map,Option.map_eq_some_iff]at hx
    obtain⟨z,hz,rfl⟩:=hx
    cases j with
    |succ j=>simp at hy
    |zero=>
     simp at hy
     subst hy
     have ei:i*1+0=i:=by omega
     have hu':((sortI xs).map (Value.int .i64))[i]? =some u:=ei▸hu
     rw[List.getElem?_map,hz]at hu'
     simp only[Option.map_some,Option.some.injEq]at hu'
     subst hu'
     exact .sc
 ·intro n n' o o' l l' b h1 h2 _ _ _ _ _ _
  rw[stO_obj]at h1 h2
  cases n<;>cases n'<;>simp at h1 h2⊢
 ·intro b hb
  rw[hown']at hb
  exact hO.foreign b hb
 ·intro n hn
  exact hO.fresh n hn
theorem sorted_eq:∀{a b:List Int},a.Perm b→a.Pairwise (·≤·)→b.Pairwise (·≤·)→a=b
 |[],b,h,_,_=>(List.nil_perm.1 h).symm
 |x::a,[],h,_,_=>by have:=h.length_eq;cases this
 |x::a,y::b,h,ha,hb=>by
  have hxy:x=y:=by
   have h1:=h.mem_iff.1 (show x∈x::a from List.mem_cons_self)
   have h2:=h.mem_iff.2 (show y∈y::b from List.mem_cons_self)
   rcases List.mem_cons.1 h1 with e|h1
   ·exact e
   ·rcases List.mem_cons.1 h2 with e|h2
    ·exact e.symm
    ·have g1:=List.rel_of_pairwise_cons ha h2
     have g2:=List.rel_of_pairwise_cons hb h1
     omega
  subst hxy
  rw[sorted_eq ((List.perm_cons x).1 h) (List.Pairwise.of_cons ha) (List.Pairwise.of_cons hb)]
theorem sortI_perm (l:List Int):(sortI l).Perm l:=List.mergeSort_perm l _
theorem sortI_sorted (l:List Int):(sortI l).Pairwise (·≤·):=by
 have:=List.pairwise_mergeSort (le:=fun x y:Int=>decide (x≤y)) (fun a b c h1 h2=>by simp at*;omega) (fun a b=>by simp;omega) l
 simpa [sortI]using this
end Go.Am
