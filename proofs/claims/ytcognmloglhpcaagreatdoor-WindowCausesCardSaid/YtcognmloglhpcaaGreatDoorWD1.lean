import Derived.WalkKit
import Derived.Maps.AppendAt
import Derived.Deep.Draws
import Derived.Deep.Quiet
import Derived.Deep.AppendLies
import Derived.Laws.StructEq
import Derived.Laws.Pointers
import Derived.Laws.Cover3
import Derived.Maps.RangeRun
import Derived.Laws.BytesString
import Derived.Laws.OwnMore
import Derived.Lib.AppendZeros
set_option linter.unusedVariables false
set_option linter.unusedSimpArgs false
set_option linter.unusedSectionVars false
namespace Go.Am
open Go.RowKit
inductive IV where
 |sc (v:Value)
 |sl (k:Nat) (xs:List (List IV))
 deriving Inhabited
inductive AV where
 |im (x:IV)
 |eptr (cs:List IV)
 |rptr (n k i off:Nat)
 |ptr (n off:Nat)
 |row (n:Nat)
 |agg (cs:List AV)
 |tup (cs:List AV)
 |fn (f:FuncId) (cap:List AV)
 |map (n:Nat)
 |yld (n:Nat)
 |sub (n k lo len:Nat)
 |cut (n len:Nat)
 |cond (b:Bool) (a:AV)
 |undef
 deriving Inhabited
inductive Loc where
 |blk (b:Nat)
 |hdr (A:Option Addr) (n c:Nat)
 |hole
def Loc.own:Loc→Option Nat
 |.blk b=>some b
 |.hdr A _ _=>A.map (·.block)
 |.hole=>none
inductive AObj where
 |box (t:TypeId) (cs:List AV)
 |row (e:TypeId) (k:Nat) (xs:List (List IV))
 |fz (k:Nat) (xs:List (List IV))
 |rowE (e:TypeId) (k:Nat) (Q:List (List IV)→Prop)
 |mp (q:IntKind) (xs:List (Int×AV))
 |it (n since:Nat) (seen:List Nat)
 |lp (b:Nat) (r:Loop) (s:LoopState) (p:Option Code)
 |sv (a:Act) (fr:List (Nat×AV))
 |gl (gs:List (Nat×List IV))
 |rowP (e:TypeId) (k l c:Nat) (xs:List (List IV))
 |gone
 deriving Inhabited
def AObj.owns:AObj→Bool
 |.fz _ _=>false
 |.sv _ _=>false
 |.gl _=>false
 |.gone=>false
 |_=>true
abbrev nilS:Value:=.slice none 0 0
inductive IRep (c:Addr→Value→Prop):IV→Value→Prop
 |sc {v:Value}:IRep c (.sc v) v
 |sl {k:Nat} {xs:List (List IV)} {A:Option Addr} {cap:Nat} (u:Nat→Nat→Value) (a:Addr) (hcap:xs.length≤cap) (hmax:cap≤maxLen) (hA:xs≠[]→A=some a)
   (hk:∀(i:Nat) (x:List IV),xs[i]? =some x→x.length=k)
   (hc:∀(i:Nat) (x:List IV) (j:Nat) (y:IV),xs[i]? =some x→x[j]? =some y→c (a.add (i*k+j)) (u i j))
   (h1:∀(i:Nat) (x:List IV) (j:Nat) (y:IV),xs[i]? =some x→x[j]? =some y→(u i j).oneCell'=true)
   (hr:∀(i:Nat) (x:List IV) (j:Nat) (y:IV),xs[i]? =some x→x[j]? =some y→IRep c y (u i j)):IRep c (.sl k xs) (.slice A xs.length cap)
abbrev Nm:=Nat→Option Loc
inductive VRep (m:Nm) (c:Addr→Value→Prop):AV→Value→Prop
 |im {x:IV} {v:Value} (h:IRep c x v):VRep m c (.im x) v
 |eptr {cs:List IV} (u:Nat→Value) (a:Addr) (h1:∀(j:Nat) (y:IV),cs[j]? =some y→(u j).oneCell'=true) (hc:∀(j:Nat) (y:IV),cs[j]? =some y→c (a.add j) (u j)) (hr:∀(j:Nat) (y:IV),cs[j]? =some y→IRep c y (u j)):VRep m c (.eptr cs) (.pointer (some a))
 |rptr {n k i off b l cp:Nat} (h:m n=some (.hdr (some ⟨b,0,none⟩) l cp)):VRep m c (.rptr n k i off) (.pointer (some ⟨b,i*k+off,none⟩))
 |ptr {n off b:Nat} (h:m n=some (.blk b)):VRep m c (.ptr n off) (.pointer (some ⟨b,off,none⟩))
 |row {n:Nat} {A:Option Addr} {l cp:Nat} (h:m n=some (.hdr A l cp)):VRep m c (.row n) (.slice A l cp)
 |agg {cs:List AV} {vs:Array Value} (hl:vs.size=cs.length) (hr:∀(j:Nat) (y:AV) (u:Value),cs[j]? =some y→vs[j]? =some u→VRep m c y u):VRep m c (.agg cs) (.agg vs)
 |tup {cs:List AV} {vs:Array Value} (hl:vs.size=cs.length) (hr:∀(j:Nat) (y:AV) (u:Value),cs[j]? =some y→vs[j]? =some u→VRep m c y u):VRep m c (.tup cs) (.tuple vs)
 |fn {f:FuncId} {cs:List AV} {vs:Array Value} (hl:vs.size=cs.length) (hr:∀(j:Nat) (y:AV) (u:Value),cs[j]? =some y→vs[j]? =some u→VRep m c y u):VRep m c (.fn f cs) (.func (.func f) #[] vs)
 |map {n b:Nat} (h:m n=some (.blk b)):VRep m c (.map n) (.map (some b))
 |yld {n b:Nat} (h:m n=some (.blk b)):VRep m c (.yld n) (.func (.yield b) #[] #[])
 |sub {n k lo len l cp:Nat} {A B:Option Addr} (h:m n=some (.hdr A l cp)) (hl:lo+len≤cp) (hB:lo<cp→B=A.map (·.add (lo*k))):VRep m c (.sub n k lo len) (.slice B len (cp-lo))
 |cut {n len l cp:Nat} {A:Option Addr} (h:m n=some (.hdr A l cp)) (hl:len≤l):VRep m c (.cut n len) (.slice A len len)
 |cond {b:Bool} {a:AV} {v:Value} (h:b=true→VRep m c a v) (hf:b=false→v=Go.undef):VRep m c (.cond b a) v
 |undef {v:Value}:VRep m c .undef v
theorem IRep.mono {c c':Addr→Value→Prop} (hc:∀p v,c p v→c' p v) {x:IV} {v:Value} (h:IRep c x v):IRep c' x v:=by
 induction h with
 |sc=>exact .sc
 |sl u a hcap hmax hA hk hcc h1 _ ih=>exact .sl u a hcap hmax hA hk (fun i x j y h1 h2=>hc _ _ (hcc i x j y h1 h2)) h1 ih
theorem VRep.mono {m m':Nm} {c c':Addr→Value→Prop} (hm:∀n l,m n=some l→m' n=some l) (hc:∀p v,c p v→c' p v) {x:AV} {v:Value}
  (h:VRep m c x v):VRep m' c' x v:=by
 induction h with
 |im h=>exact .im (h.mono hc)
 |eptr u a h0 h1 h2=>exact .eptr u a h0 (fun j y h=>hc _ _ (h1 j y h)) (fun j y h=>(h2 j y h).mono hc)
 |yld h=>exact .yld (hm _ _ h)
 |sub h hl hcp=>exact .sub (hm _ _ h) hl hcp
 |cut h hl=>exact .cut (hm _ _ h) hl
 |rptr h=>exact .rptr (hm _ _ h)
 |ptr h=>exact .ptr (hm _ _ h)
 |row h=>exact .row (hm _ _ h)
 |agg hl _ ih=>exact .agg hl ih
 |tup hl _ ih=>exact .tup hl ih
 |fn hl _ ih=>exact .fn hl ih
 |map h=>exact .map (hm _ _ h)
 |cond _ hf ih=>exact .cond ih hf
 |undef=>exact .undef
mutual
def AV.ren (ρ:Nat→Nat):AV→AV
 |.im x=>.im x
 |.eptr cs=>.eptr cs
 |.rptr n k i off=>.rptr (ρ n) k i off
 |.ptr n off=>.ptr (ρ n) off
 |.row n=>.row (ρ n)
 |.agg cs=>.agg (AV.renL ρ cs)
 |.tup cs=>.tup (AV.renL ρ cs)
 |.fn f cs=>.fn f (AV.renL ρ cs)
 |.map n=>.map (ρ n)
 |.yld n=>.yld (ρ n)
 |.sub n k lo len=>.sub (ρ n) k lo len
 |.cut n len=>.cut (ρ n) len
 |.cond b a=>.cond b (a.ren ρ)
 |.undef=>.undef
def AV.renL (ρ:Nat→Nat):List AV→List AV
 |[]=>[]
 |a::l=>a.ren ρ::AV.renL ρ l
end
theorem AV.renL_eq (ρ:Nat→Nat) (l:List AV):AV.renL ρ l=l.map (AV.ren ρ):=by
 induction l with
 |nil=>simp[AV.renL]
 |cons a l ih=>simp[AV.renL,ih]
theorem VRep.of_ren {m m':Nm} {c:Addr→Value→Prop} {ρ:Nat→Nat} (hm:∀n l,m (ρ n)=some l→m' n=some l):∀{a:AV} {a0:AV} {v:Value},VRep m c a0 v→a0=a.ren ρ→VRep m' c a v:=by
 intro a a0 v h
 induction h generalizing a with
 |im h=>intro e;cases a<;>simp[AV.ren]at e;subst e;exact .im h
 |eptr u a1 h0 h1 h2=>intro e;cases a<;>simp[AV.ren]at e;subst e;exact .eptr u a1 h0 h1 h2
 |yld h=>intro e;cases a<;>simp[AV.ren]at e;subst e;exact .yld (hm _ _ h)
 |sub h hl hcp=>intro e;cases a<;>simp[AV.ren]at e;obtain⟨rfl,rfl,rfl,rfl⟩:=e;exact .sub (hm _ _ h) hl hcp
 |cut h hl=>intro e;cases a<;>simp[AV.ren]at e;obtain⟨rfl,rfl⟩:=e;exact .cut (hm _ _ h) hl
 |rptr h=>intro e;cases a<;>simp[AV.ren]at e;obtain⟨rfl,rfl,rfl,rfl⟩:=e;exact .rptr (hm _ _ h)
 |ptr h=>intro e;cases a<;>simp[AV.ren]at e;obtain⟨rfl,rfl⟩:=e;exact .ptr (hm _ _ h)
 |row h=>intro e;cases a<;>simp[AV.ren]at e;subst e;exact .row (hm _ _ h)
 |agg hl _ ih=>
  intro e;cases a<;>simp[AV.ren,AV.renL_eq]at e
  subst e
  exact .agg (by simpa using hl) (fun j y u h1 h2=>ih j _ u (by simp[h1]) h2 rfl)
 |tup hl _ ih=>
  intro e;cases a<;>simp[AV.ren,AV.renL_eq]at e
  subst e
  exact .tup (by simpa using hl) (fun j y u h1 h2=>ih j _ u (by simp[h1]) h2 rfl)
 |fn hl _ ih=>
  intro e;cases a<;>simp[AV.ren,AV.renL_eq]at e
  obtain⟨rfl,rfl⟩:=e
  exact .fn (by simpa using hl) (fun j y u h1 h2=>ih j _ u (by simp[h1]) h2 rfl)
 |map h=>intro e;cases a<;>simp[AV.ren]at e;subst e;exact .map (hm _ _ h)
 |cond _ hf ih=>intro e;cases a<;>simp[AV.ren]at e;obtain⟨rfl,rfl⟩:=e;exact .cond (fun hb=>ih hb rfl) hf
 |undef=>intro e;cases a<;>simp[AV.ren]at e;exact .undef
theorem VRep.to_ren {m m':Nm} {c:Addr→Value→Prop} {ρ:Nat→Nat} (hm:∀n l,m n=some l→m' (ρ n)=some l) {a:AV} {v:Value} (h:VRep m c a v):VRep m' c (a.ren ρ) v:=by
 induction h with
 |im h=>exact .im h
 |eptr u a1 h0 h1 h2=>exact .eptr u a1 h0 h1 h2
 |yld h=>exact .yld (hm _ _ h)
 |sub h hl hcp=>exact .sub (hm _ _ h) hl hcp
 |cut h hl=>exact .cut (hm _ _ h) hl
 |rptr h=>exact .rptr (hm _ _ h)
 |ptr h=>exact .ptr (hm _ _ h)
 |row h=>exact .row (hm _ _ h)
 |agg hl _ ih=>
  rw[AV.ren,AV.renL_eq]
  refine .agg (by simpa using hl) (fun j y u h1 h2=>?_)
  simp at h1
  obtain⟨y,h1,rfl⟩:=h1
  exact ih j y u h1 h2
 |tup hl _ ih=>
  rw[AV.ren,AV.renL_eq]
  refine .tup (by simpa using hl) (fun j y u h1 h2=>?_)
  simp at h1
  obtain⟨y,h1,rfl⟩:=h1
  exact ih j y u h1 h2
 |fn hl _ ih=>
  rw[AV.ren,AV.renL_eq]
  refine .fn (by simpa using hl) (fun j y u h1 h2=>?_)
  simp at h1
  obtain⟨y,h1,rfl⟩:=h1
  exact ih j y u h1 h2
 |map h=>exact .map (hm _ _ h)
 |cond _ hf ih=>exact .cond ih hf
 |undef=>exact .undef
def IV.le (x y:IV):Prop:=x=y∨(x=.sc nilS∧∃k,y=.sl k [])
mutual
def AV.le (a:AV):AV→Prop
 |.undef=>True
 |.im y=>∃x,a=.im x∧x.le y
 |.agg ds=>∃cs,a=.agg cs∧AV.leL cs ds
 |.tup ds=>∃cs,a=.tup cs∧AV.leL cs ds
 |.eptr cs=>a=.eptr cs
 |.rptr n k i off=>a=.rptr n k i off
 |.ptr n off=>a=.ptr n off
 |.row n=>a=.row n
 |.fn f cs=>a=.fn f cs
 |.map n=>a=.map n
 |.yld n=>a=.yld n
 |.sub n k lo len=>a=.sub n k lo len
 |.cut n len=>a=.cut n len
 |.cond b d=>a=.cond b d
def AV.leL:List AV→List AV→Prop
 |cs,[]=>cs=[]
 |cs,d::ds=>∃c cs',cs=c::cs'∧c.le d∧AV.leL cs' ds
end
theorem IRep.nil {c:Addr→Value→Prop} (k:Nat):IRep c (.sl k []) nilS:=
 .sl (k:=k) (xs:=[]) (A:=none) (cap:=0) (fun _ _=>nilS) default (Nat.le_refl _) (Nat.zero_le _) (fun h=>absurd rfl h) (fun i x h=>by simp at h) (fun i x j y h=>by simp at h) (fun i x j y h=>by simp at h) (fun i x j y h=>by simp at h)
theorem IRep.le {c:Addr→Value→Prop} {x y:IV} {v:Value} (h:IRep c x v) (hl:x.le y):IRep c y v:=by
 rcases hl with rfl|⟨rfl,k,rfl⟩
 ·exact h
 ·cases h;exact IRep.nil k
mutual
theorem VRep.le {m:Nm} {c:Addr→Value→Prop}:∀(b:AV) {a:AV} {v:Value},VRep m c a v→a.le b→VRep m c b v
 |.undef,a,v,h,hl=>.undef
 |.im y,a,v,h,hl=>by
  simp only[AV.le]at hl
  obtain⟨x,rfl,hx⟩:=hl
  cases h with|im h=>exact .im (h.le hx)
 |.agg ds,a,v,h,hl=>by
  simp only[AV.le]at hl
  obtain⟨cs,rfl,hx⟩:=hl
  cases h with|agg hl hr=>
  have:=VRep.leL (m:=m) (c:=c) ds hx
  exact .agg (hl.trans this.1) (fun j y u h1 h2=>this.2 j y u (fun x hx=>hr j x u hx h2) h1)
 |.tup ds,a,v,h,hl=>by
  simp only[AV.le]at hl
  obtain⟨cs,rfl,hx⟩:=hl
  cases h with|tup hl hr=>
  have:=VRep.leL (m:=m) (c:=c) ds hx
  exact .tup (hl.trans this.1) (fun j y u h1 h2=>this.2 j y u (fun x hx=>hr j x u hx h2) h1)
 |.eptr cs,a,v,h,hl=>by simp only[AV.le]at hl;subst hl;exact h
 |.rptr n k i off,a,v,h,hl=>by simp only[AV.le]at hl;subst hl;exact h
 |.ptr n off,a,v,h,hl=>by simp only[AV.le]at hl;subst hl;exact h
 |.row n,a,v,h,hl=>by simp only[AV.le]at hl;subst hl;exact h
 |.fn f cs,a,v,h,hl=>by simp only[AV.le]at hl;subst hl;exact h
 |.map n,a,v,h,hl=>by simp only[AV.le]at hl;subst hl;exact h
 |.yld n,a,v,h,hl=>by simp only[AV.le]at hl;subst hl;exact h
 |.sub n k lo len,a,v,h,hl=>by simp only[AV.le]at hl;subst hl;exact h
 |.cut n len,a,v,h,hl=>by simp only[AV.le]at hl;subst hl;exact h
 |.cond b d,a,v,h,hl=>by simp only[AV.le]at hl;subst hl;exact h
theorem VRep.leL {m:Nm} {c:Addr→Value→Prop}:∀(ds:List AV) {cs:List AV},AV.leL cs ds→cs.length=ds.length∧∀(j:Nat) (y:AV) (u:Value),(∀x,cs[j]? =some x→VRep m c x u)→ds[j]? =some y→VRep m c y u
 |[],cs,hl=>by simp only[AV.leL]at hl;subst hl;exact⟨rfl,fun j y u _ h=>by simp at h⟩
 |d::ds,cs,hl=>by
  simp only[AV.leL]at hl
  obtain⟨x,cs',rfl,h1,h2⟩:=hl
  have ih:=VRep.leL (m:=m) (c:=c) ds h2
  refine⟨by simp[ih.1],fun j y u hx hy=>?_⟩
  cases j with
  |zero=>simp at hy;subst hy;exact VRep.le d (hx x (by simp)) h1
  |succ j=>exact ih.2 j y u (fun x h=>hx x (by simpa using h)) (by simpa using hy)
end
def look {α:Type}:List (Nat×α)→Nat→Option α
 |[],_=>none
 |(i,x)::l,j=>if i=j then some x else look l j
structure St where
 fr:List (Nat×AV)
 objs:List (Nat×AObj)
 next:Nat
 size:Nat
 grd:Option Bool:=none
def impB (c b:Bool):Bool:=!c||b
@[simp] theorem impB_self (c:Bool):impB c c=true:=by cases c<;>rfl
@[simp] theorem impB_left (a b:Bool):impB (a&&b) a=true:=by cases a<;>cases b<;>rfl
@[simp] theorem impB_right (a b:Bool):impB (a&&b) b=true:=by cases a<;>cases b<;>rfl
@[simp] theorem impB_and (a b c:Bool) (h:impB b c=true):impB (a&&b) (a&&c)=true:=by cases a<;>simp_all [impB]
def AV.strip (c:Bool):AV→AV
 |.cond b a=>if impB c b=true then a else .undef
 |a=>a
def St.raw (st:St) (s:Nat):AV:=(look st.fr s).getD .undef
def St.get (st:St) (s:Nat):AV:=
 match st.grd with
 |none=>st.raw s
 |some c=>(st.raw s).strip c
def St.put (st:St) (d:Option Nat) (a:AV):St:=
 match d with
 |none=>st
 |some d=>{st with fr:=(d,if d<st.size then a else .undef)::st.fr}
def St.ev (st:St):Operand→AV
 |.tmp t=>st.get t
 |.const v=>.im (.sc v)
 |.global g=>.im (.sc (.pointer (some ⟨g,0,none⟩)))
 |.func f=>.fn f []
def St.evR (st:St) (x:Operand):AV:=({st with grd:=none}:St).ev x
def St.obj (st:St) (n:Nat):Option AObj:=look st.objs n
def St.setObj (st:St) (n:Nat) (o:AObj):St:={st with objs:=(n,o)::st.objs}
def St.new (st:St) (o:AObj):St:={st with objs:=(st.next,o)::st.objs,next:=st.next+1}
def St.owned (st:St) (m:Nm) (b:Nat):Prop:=∃n o l,st.obj n=some o∧o.owns=true∧m n=some l∧l.own=some b
abbrev dmark:Value:=.tuple #[]
def mark (b:Nat):Deferred:={target:=.collected b,args:=#[]}
def seen (w:World) (X:Nat→Prop) (p:Addr) (v:Value):Prop:=((w.cell? p=some v∧v≠dmark)∨(v=dmark∧w.heap[p.block]? =some (.deferred (some []))))∧¬X p.block
theorem seen.cell {w:World} {X:Nat→Prop} {p:Addr} {v:Value} (h:seen w X p v) (h1:v.oneCell'=true):w.cell? p=some v:=by
 rcases h.1 with h|⟨rfl,_⟩
 ·exact h.1
 ·cases h1
theorem seen.mark {w:World} {X:Nat→Prop} {p:Addr} (h:seen w X p dmark):w.heap[p.block]? =some (.deferred (some [])):=by
 rcases h.1 with h|h
 ·exact absurd rfl h.2
 ·exact h.2
def ObjRep (m:Nm) (c:Addr→Value→Prop) (w:World) (l:Loc):AObj→Prop
 |.box t cs=>∃b arr,l=.blk b∧w.heap[b]? =some (.cells arr t (0,0))∧arr.size=cs.length∧(∀u,u∈arr→u.oneCell'=true)∧∀(j:Nat) (y:AV) (u:Value),cs[j]? =some y→arr[j]? =some u→VRep m c y u
 |.row e k xs=>∃A cp flat,l=.hdr A xs.length cp∧w.ownsRow 0 e k (.slice A xs.length cp) xs.length flat∧(∀u,u∈flat→u.oneCell'=true)∧(∀(i:Nat) (x:List IV),xs[i]? =some x→x.length=k)∧
   ∀(i:Nat) (x:List IV) (j:Nat) (y:IV) (u:Value),xs[i]? =some x→x[j]? =some y→flat[i*k+j]? =some u→IRep c y u
 |.rowE e k Q=>∃xs:List (List IV),Q xs∧∃A cp flat,l=.hdr A xs.length cp∧w.ownsRow 0 e k (.slice A xs.length cp) xs.length flat∧(∀u,u∈flat→u.oneCell'=true)∧(∀(i:Nat) (x:List IV),xs[i]? =some x→x.length=k)∧
   ∀(i:Nat) (x:List IV) (j:Nat) (y:IV) (u:Value),xs[i]? =some x→x[j]? =some y→flat[i*k+j]? =some u→IRep c y u
 |.fz k xs=>∃A cp,l=.hdr A xs.length cp∧IRep c (.sl k xs) (.slice A xs.length cp)
 |.mp q xs=>∃b es,l=.blk b∧w.heap[b]? =some (.map es xs.length)∧es.size=xs.length∧(∀(i:Nat) (x:Int×AV) (e:MapEntry),xs[i]? =some x→es[i]? =some e→e.born=i∧e.key=.int q x.1∧VRep m c x.2 e.val)
 |.it n since seen=>∃b bm,l=.blk b∧m n=some (.blk bm)∧w.heap[b]? =some (.mapIter (some bm) since seen.toArray since)
 |.lp b r s p=>l=.blk b∧w.heap[b]? =some (.loop {r with state:=s,pending:=p})
 |.sv a fr=>l=.hdr none 0 0∧(∀d,d∈a.defers→∃b,d=mark b∧c ⟨b,0,none⟩ dmark)∧∀s y,look fr s=some y→VRep m c y (a.tmps.getD s Go.undef)
 |.rowP e k hl cp xs=>∃A flat,l=.hdr A hl cp∧hl≤cp∧w.ownsRow 0 e k (.slice A xs.length cp) xs.length flat∧(∀u,u∈flat→u.oneCell'=true)∧(∀(i:Nat) (x:List IV),xs[i]? =some x→x.length=k)∧
   ∀(i:Nat) (x:List IV) (j:Nat) (y:IV) (u:Value),xs[i]? =some x→x[j]? =some y→flat[i*k+j]? =some u→IRep c y u
 |.gl gs=>l=.hdr none 0 0∧∀g cs,look gs g=some cs→VRep m c (.eptr cs) (.pointer (some ⟨g,0,none⟩))
 |.gone=>True
structure SimO (Y:Nat→Prop) (st:St) (m:Nm) (w:World):Prop where
 objs:∀n o,st.obj n=some o→∃l,m n=some l∧ObjRep m (seen w fun b=>st.owned m b∨Y b) w l o
 apart:∀n n' o o' l l' b,st.obj n=some o→st.obj n'=some o'→o.owns=true→o'.owns=true→m n=some l→m n'=some l'→l.own=some b→l'.own=some b→n=n'
 foreign:∀b,st.owned m b→¬Y b
 fresh:∀n,st.next≤n→m n=none
structure Kept (Z:Nat→Prop) (w0 w:World):Prop where
 os:w.os=w0.os
 tape:w.tape=w0.tape
 output:w.output=w0.output
 drawn:w0.drawn≤w.drawn
 size:w0.heap.size≤w.heap.size
 block:∀b,b<w0.heap.size→¬Z b→w.heap[b]? =w0.heap[b]?
structure Sim (Y:Nat→Prop) (st:St) (m:Nm) (a:Act) (w:World):Prop extends SimO Y st m w where
 defers:∀d,d∈a.defers→∃b,d=mark b∧seen w (fun b=>st.owned m b∨Y b) ⟨b,0,none⟩ dmark
 size:a.tmps.size=st.size
 fr:∀s y,look st.fr s=some y→VRep m (seen w fun b=>st.owned m b∨Y b) y (a.tmps.getD s Go.undef)
end Go.Am
namespace Go.Am
open Go.RowKit
def tsz (P:Program) (t:TypeId):Option Nat:=(P.info? t).map (·.size)
def tag (P:Program) (t:TypeId):Option Bool:=(P.underlying t).map fun|.struct _|.array _ _=>true|_=>false
def elt (P:Program) (t:TypeId):Option TypeId:=match P.underlying t with|some (.slice e)=>some e|_=>none
def tint (P:Program) (t:TypeId):Option IntKind:=match P.underlying t with|some (.int k)=>some k|_=>none
def foff (P:Program) (t:TypeId) (f:Nat):Option (Nat×Nat):=
 match P.underlying t with
 |some (.struct fs)=>match fs[f]? with
  |some f=>(tsz P f.type).bind fun n=>if n=0 then none else some (f.offset,n)
  |none=>none
 |_=>none
def fone (P:Program) (t:TypeId) (f:Nat):Option Nat:=
 match P.underlying t with
 |some (.struct fs)=>match fs[f]? with
  |some fd=>if tag P fd.type=some false then some fd.offset else none
  |none=>none
 |_=>none
def zcells (P:Program) (t:TypeId):Option (List Value):=((P.info? t).bind (·.zero)).map (·.cells.toList)
def places (P:Program) (t:TypeId):Option (List (Nat×Nat)):=
 match P.underlying t with
 |some (.struct fs)=>fs.toList.mapM fun f=>(tsz P f.type).map fun n=>(f.offset,n)
 |_=>none
variable {P:Program} {w:World}
theorem run_tsz {t:TypeId} {n:Nat} (h:tsz P t=some n) (w:World):(sizeOf t).run P w=.ok n w:=by
 simp only[tsz,Option.map_eq_some_iff]at h
 obtain⟨i,hi,rfl⟩:=h
 simp[sizeOf,typeInfo,hi]
theorem run_tag {t:TypeId} {b:Bool} (h:tag P t=some b) (w:World):(isAgg t).run P w=.ok b w:=by
 simp only[tag,Option.map_eq_some_iff]at h
 obtain⟨d,hd,rfl⟩:=h
 simp[isAgg,underlying,hd]
 cases d<;>simp
theorem elt_under {t e:TypeId} (h:elt P t=some e):P.underlying t=some (.slice e):=by
 unfold elt at h;split at h
 ·rename_i h1;cases h;exact h1
 ·cases h
theorem tint_under {t:TypeId} {k:IntKind} (h:tint P t=some k):P.underlying t=some (.int k):=by
 unfold tint at h;split at h
 ·rename_i h1;cases h;exact h1
 ·cases h
theorem add_at (b o n:Nat):(⟨b,o,none⟩:Addr).add n=⟨b,o+n,none⟩:=by unfold Addr.add;split<;>simp_all
theorem add_add' (a:Addr) (i j:Nat):(a.add i).add j=a.add (i+j):=by
 unfold Addr.add
 by_cases hi:i=0<;>by_cases hj:j=0<;>simp[hi,hj,Nat.add_assoc]
section
variable {Y:Nat→Prop} {st:St} {m:Nm} {a:Act}
theorem raw_rep {c:Addr→Value→Prop} (hfr:∀s y,look st.fr s=some y→VRep m c y (a.tmps.getD s Go.undef)) (t:Nat):VRep m c (st.raw t) (a.tmps.getD t Go.undef):=by
 unfold St.raw
 cases h:look st.fr t with
 |none=>exact .undef
 |some y=>exact hfr t y h
theorem get_rep {c:Addr→Value→Prop} (hg:∀g,st.grd=some g→g=true) (hfr:∀s y,look st.fr s=some y→VRep m c y (a.tmps.getD s Go.undef)) (t:Nat):VRep m c (st.get t) (a.tmps.getD t Go.undef):=by
 have h:=raw_rep hfr t
 unfold St.get
 split
 ·exact h
 ·rename_i g hgd
  have hg:=hg g hgd
  subst hg
  generalize st.raw t=y at h
  generalize a.tmps.getD t Go.undef=v at h
  cases h with
  |@cond b x _ hx _=>
   simp only[AV.strip]
   split
   ·rename_i hb;exact hx (by simpa [impB]using hb)
   ·exact .undef
  |im h=>exact .im h
  |eptr u ad h0 h1 h2=>exact .eptr u ad h0 h1 h2
  |yld h=>exact .yld h
  |sub h hl hcp=>exact .sub h hl hcp
  |cut h hl=>exact .cut h hl
  |rptr h=>exact .rptr h
  |ptr h=>exact .ptr h
  |row h=>exact .row h
  |agg hl hr=>exact .agg hl hr
  |tup hl hr=>exact .tup hl hr
  |fn hl hr=>exact .fn hl hr
  |map h=>exact .map h
  |undef=>exact .undef
theorem ev_rep {c:Addr→Value→Prop} (hget:∀t,VRep m c (st.get t) (a.tmps.getD t Go.undef)) (x:Operand):VRep m c (st.ev x) (a.eval x):=by
 cases x with
 |tmp t=>exact hget t
 |const v=>exact .im .sc
 |global g=>exact .im .sc
 |func f=>exact .fn (by simp) (by simp)
@[simp] theorem put_objs (st:St) (d:Option Nat) (r:AV):(st.put d r).objs=st.objs:=by cases d<;>rfl
@[simp] theorem put_next (st:St) (d:Option Nat) (r:AV):(st.put d r).next=st.next:=by cases d<;>rfl
@[simp] theorem put_grd (st:St) (d:Option Nat) (r:AV):(st.put d r).grd=st.grd:=by cases d<;>rfl
@[simp] theorem put_size (st:St) (d:Option Nat) (r:AV):(st.put d r).size=st.size:=by cases d<;>rfl
@[simp] theorem put_obj (st:St) (d:Option Nat) (r:AV) (n:Nat):(st.put d r).obj n=st.obj n:=by simp[St.obj]
theorem put_owned (st:St) (d:Option Nat) (r:AV) (m:Nm):(st.put d r).owned m=st.owned m:=by funext b;simp[St.owned]
theorem fr_put {c:Addr→Value→Prop} (hsz:a.tmps.size=st.size) (hfr:∀s y,look st.fr s=some y→VRep m c y (a.tmps.getD s Go.undef)) (d:Option Nat) {r:AV} {v:Value} (h:VRep m c r v):
  ∀s y,look (st.put d r).fr s=some y→VRep m c y ((a.put d v).tmps.getD s Go.undef):=by
 intro s y hy
 cases d with
 |none=>exact hfr s y hy
 |some d=>
  simp only[St.put,look]at hy
  split at hy
  ·rename_i e
   subst e
   cases hy
   split
   ·rename_i hlt
    have:(a.put (some d) v).tmps.getD d Go.undef=v:=by simp[Act.put,Array.getD_eq_getD_getElem?,hsz,hlt]
    rw[this];exact h
   ·exact .undef
  ·rename_i e
   have:(a.put (some d) v).tmps.getD s Go.undef=a.tmps.getD s Go.undef:=by simp[Act.put,Array.getD_eq_getD_getElem?,Array.getElem?_setIfInBounds,e]
   rw[this];exact hfr s y hy
theorem SimO.put (h:SimO Y st m w) (d:Option Nat) (r:AV):SimO Y (st.put d r) m w where
 objs n o hn:=by
  rw[put_obj]at hn
  rw[put_owned]
  exact h.objs n o hn
 apart n n' o o' l l' b h1 h2:=by rw[put_obj]at h1 h2;exact h.apart n n' o o' l l' b h1 h2
 foreign b hb:=by rw[put_owned]at hb;exact h.foreign b hb
 fresh n hn:=h.fresh n (by simpa using hn)
theorem Sim.put (h:Sim Y st m a w) (d:Option Nat) {r:AV} {v:Value} (hr:VRep m (seen w fun b=>st.owned m b∨Y b) r v):Sim Y (st.put d r) m (a.put d v) w where
 toSimO:=h.toSimO.put d r
 defers:=by rw[put_owned];cases d<;>exact h.defers
 size:=by cases d<;>simp[Act.put,h.size]
 fr:=by
  rw[put_owned]
  exact fr_put h.size h.fr d hr
end
end Go.Am
namespace Go.Am
open Go.RowKit
abbrev IV.int (k:IntKind) (n:Int):IV:=.sc (.int k n)
abbrev AV.int (k:IntKind) (n:Int):AV:=.im (.sc (.int k n))
abbrev AV.bool (b:Bool):AV:=.im (.sc (.bool b))
def St.cellsAt (st:St) (a:AV) (k:Nat):Option (List AV):=
 match a with
 |.ptr n off=>match st.obj n with
  |some (.box _ cs)=>if off+k≤cs.length then some ((cs.drop off).take k)else none
  |_=>none
 |.eptr cs=>if k≤cs.length then some ((cs.take k).map .im)else none
 |.rptr n k' i off=>match st.obj n with
  |some (.row _ k2 xs)=>if k'=k2∧off+k≤k2 then(xs[i]?).map fun x=>((x.drop off).take k).map .im else none
  |_=>none
 |.im (.sc (.pointer (some ⟨g,off,none⟩)))=>match st.obj 0 with
  |some (.gl gs)=>(look gs g).bind fun cs=>if off+k≤cs.length then some (((cs.drop off).take k).map .im)else none
  |_=>none
 |_=>none
def andI (k:IntKind) (x y:Int):Int:=k.wrap (BitVec.ofInt k.bits x&&& BitVec.ofInt k.bits y).toNat
def orI (k:IntKind) (x y:Int):Int:=k.wrap (BitVec.ofInt k.bits x|||BitVec.ofInt k.bits y).toNat
def xorI (k:IntKind) (x y:Int):Int:=k.wrap (BitVec.ofInt k.bits x ^^^ BitVec.ofInt k.bits y).toNat
def andNotI (k:IntKind) (x y:Int):Int:=k.wrap (BitVec.ofInt k.bits x&&& ~~~ BitVec.ofInt k.bits y).toNat
def binI (op:BinOp) (k:IntKind) (x:Int) (ky:IntKind) (y:Int):Option (Bool×Value):=
 match op with
 |.shl=>some (decide (0≤y),.int k (k.wrap (x*2 ^ min y.toNat k.bits)))
 |.shr=>some (decide (0≤y),.int k (x.fdiv (2 ^ min y.toNat k.bits)))
 |.add=>if k=ky then some (true,.int k (k.wrap (x+y)))else none
 |.sub=>if k=ky then some (true,.int k (k.wrap (x-y)))else none
 |.mul=>if k=ky then some (true,.int k (k.wrap (x*y)))else none
 |.quo=>if k=ky then some (decide (y≠0),.int k (k.wrap (x.tdiv y)))else none
 |.rem=>if k=ky then some (decide (y≠0),.int k (x.tmod y))else none
 |.and=>if k=ky then some (true,.int k (andI k x y))else none
 |.or=>if k=ky then some (true,.int k (orI k x y))else none
 |.xor=>if k=ky then some (true,.int k (xorI k x y))else none
 |.andNot=>if k=ky then some (true,.int k (andNotI k x y))else none
 |.eql=>if k=ky then some (true,.bool (x==y))else none
 |.neq=>if k=ky then some (true,.bool (x != y))else none
 |.lss=>if k=ky then some (true,.bool (decide (x<y)))else none
 |.leq=>if k=ky then some (true,.bool (decide (x≤y)))else none
 |.gtr=>if k=ky then some (true,.bool (decide (x>y)))else none
 |.geq=>if k=ky then some (true,.bool (decide (x≥y)))else none
def binS (op:BinOp) (x y:ByteArray):Option (Bool×Value):=
 match op with
 |.add=>some (decide (x.size+y.size≤9223372036854775807),.string (x++y))
 |.eql=>some (true,.bool (x.toList==y.toList))
 |.neq=>some (true,.bool (!(x.toList==y.toList)))
 |.lss=>some (true,.bool (Op.bytesLess x.toList y.toList))
 |.leq=>some (true,.bool (Op.bytesLess x.toList y.toList||x.toList==y.toList))
 |.gtr=>some (true,.bool (!(Op.bytesLess x.toList y.toList||x.toList==y.toList)))
 |.geq=>some (true,.bool (!Op.bytesLess x.toList y.toList))
 |_=>none
def binB (op:BinOp) (x y:Bool):Option (Bool×Value):=
 match op with
 |.eql=>some (true,.bool (x==y))
 |.neq=>some (true,.bool (!(x==y)))
 |_=>none
def arr (P:Program) (t:TypeId):Option (Nat×Nat):=match P.underlying t with|some (.array len e)=>(tsz P e).map fun n=>(len,n)|_=>none
def isBool (P:Program) (t:TypeId):Bool:=match P.underlying t with|some .bool=>true|_=>false
def isStr (P:Program) (t:TypeId):Bool:=match P.underlying t with|some .string=>true|_=>false
variable {P:Program}
theorem binI_run {op:BinOp} {k ky:IntKind} {x y:Int} {s:Bool} {r:Value} (h:binI op k x ky y=some (s,r)) (hs:s=true) (t:TypeId) (w:World):
  (binOp op t (.int k x) (.int ky y)).run P w=.ok r w:=by
 cases op<;>simp only[binI,Option.some.injEq,Prod.mk.injEq,Option.ite_none_right_eq_some]at h
 all_goals first
  |(obtain⟨rfl,rfl,rfl⟩:=h)
  |(obtain⟨rfl,rfl⟩:=h)
 all_goals simp[binOp,Op.intArith,Op.intDiv,Op.intBits,Op.intCmp,Op.shift,andI,orI,xorI,andNotI]
 all_goals first
  |done
  |(intro h0;have:=of_decide_eq_true hs;omega)
  |(simp at hs;simp[hs])
  |skip
theorem binS_run {op:BinOp} {x y:ByteArray} {s:Bool} {r:Value} (h:binS op x y=some (s,r)) (hs:s=true) (t:TypeId) (w:World):
  (binOp op t (.string x) (.string y)).run P w=.ok r w:=by
 cases op<;>simp only[binS,Option.some.injEq,Prod.mk.injEq,reduceCtorEq]at h
 all_goals obtain⟨rfl,rfl⟩:=h
 all_goals simp[binOp,Op.stringOp]
 have:=of_decide_eq_true hs;omega
theorem binB_run {op:BinOp} {x y:Bool} {s:Bool} {r:Value} (h:binB op x y=some (s,r)) (hs:s=true) {t:TypeId} (ht:isBool P t=true) (w:World):
  (binOp op t (.bool x) (.bool y)).run P w=.ok r w:=by
 have hu:P.underlying t=some .bool:=by
  unfold isBool at ht
  split at ht
  ·assumption
  ·cases ht
 cases op<;>simp only[binB,Option.some.injEq,Prod.mk.injEq,reduceCtorEq]at h
 all_goals obtain⟨rfl,rfl⟩:=h
 all_goals
  have he:=run_equalIn_bool (P:=P) w 9999 t x y hu
  simp only[binOp,Op.equal,Op.maxDepth]
  simp[he]
def pk (t p q:Bool):Bool:=if t then p else q
@[simp] theorem pk_and (t p:Bool):pk t p false=(t&&p):=by cases t<;>rfl
@[simp] theorem pk_or (t q:Bool):pk t true q=(t||q):=by cases t<;>rfl
def AV.one:AV→Bool
 |.im (.sc v)=>v.oneCell'
 |.im (.sl _ _)=>true
 |.eptr _|.rptr _ _ _ _|.ptr _ _|.row _|.fn _ _|.map _|.yld _|.sub _ _ _ _|.cut _ _=>true
 |_=>false
def AV.cells:AV→Option (List AV)
 |.agg cs=>if cs.all AV.one then some cs else none
 |a=>if a.one then some [a]else none
def scEq:Value→Value→Option Bool
 |.int k a,.int k' b=>if k=k' then some (a==b)else none
 |.bool a,.bool b=>some (a==b)
 |.string a,.string b=>some (a.toList==b.toList)
 |_,_=>none
def AV.part (P:Program) (t:TypeId) (cs:List AV) (off:Nat):Option AV:=
 match tag P t with
 |some true=>(tsz P t).map fun n=>.agg ((cs.drop off).take n)
 |some false=>cs[off]?
 |none=>none
def eqFs (part:TypeId→List AV→Nat→Option AV) (rec:TypeId→AV→AV→Option Bool) (xs ys:List AV):List Field→Option Bool
 |[]=>some true
 |f::fs=>if f.name= "_" then none else match part f.type xs f.offset,part f.type ys f.offset with
  |some a,some b=>match rec f.type a b,eqFs part rec xs ys fs with
   |some p,some q=>some (p&&q)
   |_,_=>none
  |_,_=>none
def eqT (P:Program):Nat→TypeId→AV→AV→Option Bool
 |0,_,_,_=>none
 |d+1,t,x,y=>match P.underlying t with
  |some .bool=>match x,y with
   |.im (.sc (.bool a)),.im (.sc (.bool b))=>some (a==b)
   |_,_=>none
  |some (.int _)=>match x,y with
   |.im (.sc (.int k a)),.im (.sc (.int k' b))=>if k=k' then some (a==b)else none
   |_,_=>none
  |some .string=>match x,y with
   |.im (.sc (.string a)),.im (.sc (.string b))=>some (a.toList==b.toList)
   |_,_=>none
  |some (.struct fs)=>match x,y with
   |.agg xs,.agg ys=>if P.stoodInHeld t then none else eqFs (AV.part P) (eqT P d) xs ys fs.toList
   |_,_=>none
  |_=>none
def isPtr (P:Program) (t:TypeId):Bool:=match P.underlying t with|some (.pointer _)=>true|_=>false
def nilEq (P:Program) (t:TypeId) (x y:AV):Option Bool:=
 match x,y with
 |.ptr _ _,.im (.sc (.pointer none))=>if isPtr P t then some false else none
 |.eptr _,.im (.sc (.pointer none))=>if isPtr P t then some false else none
 |.rptr _ _ _ _,.im (.sc (.pointer none))=>if isPtr P t then some false else none
 |.im (.sc (.pointer none)),.im (.sc (.pointer none))=>if isPtr P t then some true else none
 |.im (.sc (.slice none 0 0)),.im (.sc (.slice none 0 0))=>if(elt P t).isSome then some true else none
 |.im (.sl _ (_::_)),.im (.sc (.slice none 0 0))=>if(elt P t).isSome then some false else none
 |.im (.sc (.slice A _ _)),.im (.sc (.slice none 0 0))=>if(elt P t).isSome then some A.isNone else none
 |.agg xs,.agg ys=>if P.eqGuardType P.depth t then none else eqT P 10 t (.agg xs) (.agg ys)
 |_,_=>none
def aBin2 (P:Program) (op:BinOp) (t:TypeId) (x y:AV):Option (Bool×AV):=
 match op with
 |.eql=>(nilEq P t x y).map fun b=>(true,.bool b)
 |.neq=>(nilEq P t x y).map fun b=>(true,.bool (!b))
 |_=>none
def aBin (P:Program) (op:BinOp) (t:TypeId) (x y:AV):Option (Bool×AV):=
 match x,y with
 |.im (.sc (.int k a)),.im (.sc (.int k' b))=>(binI op k a k' b).map fun r=>(r.1,.im (.sc r.2))
 |.im (.sc (.bool a)),.im (.sc (.bool b))=>if isBool P t then(binB op a b).map fun r=>(r.1,.im (.sc r.2))else none
 |.im (.sc (.string a)),.im (.sc (.string b))=>(binS op a b).map fun r=>(r.1,.im (.sc r.2))
 |x,y=>aBin2 P op t x y
def fillA (P:Program) (t:TypeId) (ev:Operand→AV):List AV→List (Nat×Operand)→Option (List AV)
 |cs,[]=>some cs
 |cs,(i,x)::rest=>match foff P t i,(ev x).cells with
  |some (off,n),some ds=>if ds.length=n∧off+n≤cs.length then fillA P t ev (cs.take off++ds++cs.drop (off+n)) rest else none
  |_,_=>none
def bnd (lo hi:AV) (len:Nat) (hasLo hasHi:Bool):Option (Bool×Nat×Nat):=
 match (if hasHi then hi else .int .i64 len),(if hasLo then lo else .int .i64 0)with
 |.im (.sc (.int _ h)),.im (.sc (.int _ l))=>some (decide (0≤l∧l≤h),l.toNat,h.toNat)
 |_,_=>none
def evO (st:St):Option Operand→AV
 |some x=>st.ev x
 |none=>.undef
def aVal2 (P:Program) (st:St) (op:Op):Option (Bool×AV):=
 match op with
 |.build t parts=>match zcells P t,places P t with
  |some zs,some _=>(fillA P t st.ev (zs.map fun v=>.im (.sc v)) parts.toList).map fun cs=>(true,.agg cs)
  |_,_=>none
 |.makeFunc (.func f) first cap=>if first.isEmpty then some (true,.fn f (cap.toList.map st.ev))else none
 |.slice t x lo hi none=>match st.ev x with
  |.im (.sc (.string s))=>if isStr P t then match bnd (evO st lo) (evO st hi) s.size lo.isSome hi.isSome with
    |some (b,l,h)=>some (b&&decide (h≤s.size),.im (.sc (.string (s.extract l h))))
    |none=>none
   else none
  |.im (.sc (.slice none 0 0))=>match elt P t with
   |some e=>if(tsz P e).isSome then match bnd (evO st lo) (evO st hi) 0 lo.isSome hi.isSome with
     |some (b,l,h)=>some (b&&decide (h≤0),.im (.sc (.slice none 0 0)))
     |none=>none
    else none
   |none=>none
  |.im (.sl k xs)=>match elt P t with
   |some e=>if tsz P e=some k then match bnd (evO st lo) (evO st hi) xs.length lo.isSome hi.isSome with
     |some (b,l,h)=>some (b&&decide (h≤xs.length),.im (.sl k ((xs.take h).drop l)))
     |none=>none
    else none
   |none=>none
  |_=>none
 |.field t x f=>match fone P t f,st.ev x with
  |some off,.agg cs=>match cs[off]? with
   |some c=>some (true,c)
   |none=>none
  |_,_=>none
 |_=>none
def midx:List (Int×AV)→Int→Option Nat
 |[],_=>none
 |(k,_)::l,key=>if key=k then some 0 else(midx l key).map (·+1)
def mget (xs:List (Int×AV)) (key:Int):Option AV:=(midx xs key).bind fun i=>(xs[i]?).map (·.2)
def mput (xs:List (Int×AV)) (key:Int) (v:AV):List (Int×AV):=
 match midx xs key with
 |some i=>xs.modify i fun x=>(x.1,v)
 |none=>xs++[(key,v)]
def mpOf (P:Program) (t:TypeId):Option (IntKind×TypeId):=
 match P.underlying t with
 |some (.map k e)=>(tint P k).map fun q=>(q,e)
 |_=>none
def zav (P:Program) (t:TypeId):Option AV:=
 match (P.info? t).bind (·.zero)with
 |some (.agg cs)=>some (.agg (cs.toList.map fun v=>.im (.sc v)))
 |some v=>some (.im (.sc v))
 |none=>none
def mpVal (P:Program) (st:St) (q:IntKind) (e:TypeId) (key:Int) (x:AV):Option (AV×Bool):=
 match x with
 |.map n=>match st.obj n with
  |some (.mp q' xs)=>if q'=q then(zav P e).map fun z=>((mget xs key).getD z,(mget xs key).isSome)else none
  |_=>none
 |.im (.sc (.map none))=>(zav P e).map fun z=>(z,false)
 |_=>none
def bytesOf:List (List IV)→Option (List Int)
 |[]=>some []
 |[.sc (.int .u8 n)]::l=>(bytesOf l).map (n::·)
 |_=>none
def rowAt (st:St):AV→Option (Nat×List (List IV))
 |.im (.sc (.slice none 0 0))=>some (1,[])
 |.im (.sl k xs)=>some (k,xs)
 |.row n=>match st.obj n with
  |some (.row _ k xs)=>some (k,xs)
  |some (.fz k xs)=>some (k,xs)
  |_=>none
 |.sub n k lo len=>match st.obj n with
  |some (.row _ k' xs)=>if k'=k∧lo+len≤xs.length then some (k,(xs.drop lo).take len)else none
  |some (.rowP _ k' _ _ xs)=>if k'=k∧lo+len≤xs.length then some (k,(xs.drop lo).take len)else none
  |_=>none
 |_=>none
def aStr (P:Program) (st:St) (e d:TypeId) (v:AV):Option (Bool×AV):=
 if tint P e=some .u8∧isStr P d=true then match rowAt st v with
  |some (1,xs)=>(bytesOf xs).map fun ns=>(true,.im (.sc (.string (ns.foldl (fun r n=>r.push (UInt8.ofNat n.toNat)) ByteArray.empty))))
  |_=>none
 else none
def aSub (P:Program) (st:St) (t:TypeId) (n:Nat) (lo hi:Option Operand):Option (Bool×AV):=
 match st.obj n with
 |some (.row _ k xs)=>match elt P t with
  |some e=>if tsz P e=some k then match bnd (evO st lo) (evO st hi) xs.length lo.isSome hi.isSome with
    |some (b,l,h)=>some (b&&decide (h≤xs.length),.sub n k l (h-l))
    |none=>none
   else none
  |none=>none
 |_=>none
def subP (st:St):AV→Option (Nat×Nat×Nat×Nat×Nat)
 |.row n=>match st.obj n with
  |some (.rowP _ k l c _)=>some (n,k,0,l,c)
  |_=>none
 |.sub n k lo len=>match st.obj n with
  |some (.rowP _ k' _ c _)=>if k'=k then some (n,k,lo,len,c)else none
  |_=>none
 |_=>none
def aSubP (P:Program) (st:St) (t:TypeId) (x:AV) (lo hi:Option Operand):Option (Bool×AV):=
 match subP st x with
 |some (n,k,l0,len,c)=>match elt P t with
  |some e=>if tsz P e=some k then match bnd (evO st lo) (evO st hi) len lo.isSome hi.isSome with
    |some (b,l,h)=>some (b&&decide (l0+h≤c),.sub n k (l0+l) (h-l))
    |none=>none
   else none
  |none=>none
 |none=>none
def aSub3 (P:Program) (st:St) (t:TypeId) (x:AV) (lo hi mx:Operand):Option (Bool×AV):=
 match subP st x with
 |some (n,k,l0,len,c)=>match elt P t,st.ev lo,st.ev hi,st.ev mx with
  |some e,.im (.sc (.int _ l)),.im (.sc (.int _ h)),.im (.sc (.int _ mm))=>if tsz P e=some k then some (decide (0≤l∧l≤h∧h≤mm∧(l0:Int)+mm≤c),.undef)else none
  |_,_,_,_=>none
 |none=>none
def aCut (P:Program) (st:St) (t:TypeId) (x:AV) (hi mx:Operand):Option (Bool×AV):=
 match x with
 |.row n=>match (match st.obj n with
   |some (.row _ k xs)=>some (k,xs.length)
   |some (.fz k xs)=>some (k,xs.length)
   |_=>none),elt P t,st.ev hi,st.ev mx with
  |some (k,l),some e,.im (.sc (.int _ h)),.im (.sc (.int _ mm))=>if tsz P e=some k then some (decide (0≤h∧h=mm∧h≤l),.cut n h.toNat)else none
  |_,_,_,_=>none
 |_=>none
def aLook (P:Program) (st:St) (t:TypeId) (x i:Operand) (ok:Bool):Option (Bool×AV):=
 match mpOf P t,st.ev i with
 |some (q,e),.im (.sc (.int q' key))=>if q=q' then match mpVal P st q e key (st.ev x)with
   |some (v,b)=>some (true,if ok then .tup [v,.bool b]else v)
   |none=>none
  else none
 |_,_=>none
def aEnt (st:St) (x:Operand):Option (Bool×AV):=
 match st.ev x with
 |.ptr r 0=>match st.obj r with
  |some (.it n since seen)=>match st.obj n,seen.getLast? with
   |some (.mp q xs),some i=>match xs[i]? with
    |some e=>some (decide (since=xs.length),.tup [.im (.sc (.int q e.1)),e.2])
    |none=>none
   |_,_=>none
  |_=>none
 |_=>none
def aCall (P:Program) (st:St) (f:Callee) (args:List Operand) (tys:List TypeId):Option (Bool×AV):=
 match f,args,tys with
 |.builtin .len,[x],[t]=>match st.ev x with
  |.im (.sc (.string s))=>if isStr P t then some (true,.int .i64 s.size)else none
  |.im (.sc (.slice _ n _))=>if(elt P t).isSome then some (true,.int .i64 n)else none
  |.im (.sl _ xs)=>if(elt P t).isSome then some (true,.int .i64 xs.length)else none
  |.row r=>match st.obj r with
   |some (.row _ _ xs)=>if(elt P t).isSome then some (true,.int .i64 xs.length)else none
   |some (.fz _ xs)=>if(elt P t).isSome then some (true,.int .i64 xs.length)else none
   |some (.rowP _ _ l _ _)=>if(elt P t).isSome then some (true,.int .i64 l)else none
   |_=>none
  |.sub n _ _ len=>if(elt P t).isSome then some (true,.int .i64 len)else none
  |.map n=>match mpOf P t,st.obj n with
   |some _,some (.mp _ xs)=>some (true,.int .i64 xs.length)
   |_,_=>none
  |_=>none
 |.builtin .cap,[x],[t]=>match st.ev x with
  |.im (.sc (.slice _ _ c))=>if(elt P t).isSome then some (true,.int .i64 c)else none
  |.row r=>match st.obj r with
   |some (.rowP _ _ _ c _)=>if(elt P t).isSome then some (true,.int .i64 c)else none
   |_=>none
  |_=>none
 |.builtin .min,[x,y],_=>match st.ev x,st.ev y with
  |.im (.sc (.int k a)),.im (.sc (.int _ b))=>some (true,.int k (if b<a then b else a))
  |_,_=>none
 |.builtin .max,[x,y],_=>match st.ev x,st.ev y with
  |.im (.sc (.int k a)),.im (.sc (.int _ b))=>some (true,.int k (if a<b then b else a))
  |_,_=>none
 |_,_,_=>none
def aVal (P:Program) (st:St) (op:Op):Option (Bool×AV):=
 match op with
 |.move x|.assign x=>some (true,st.ev x)
 |.load t x=>match tag P t,tsz P t with
  |some true,some n=>(st.cellsAt (st.ev x) n).map fun cs=>(true,.agg cs)
  |some false,some 1=>match st.cellsAt (st.ev x) 1 with
   |some [c]=>some (true,c)
   |_=>none
  |_,_=>none
 |.fieldAddr t x f=>match foff P t f,st.ev x with
  |some (off,_),.ptr n o=>some (true,.ptr n (o+off))
  |some (off,_),.rptr n k i o=>some (true,.rptr n k i (o+off))
  |some (off,_),.eptr cs=>some (true,.eptr (cs.drop off))
  |_,_=>none
 |.indexAddr t x i=>match elt P t,st.ev i with
  |some e,.im (.sc (.int _ iv))=>match tsz P e,st.ev x with
   |some n,.im (.sl n' xs)=>if n=n' then some (decide (0≤iv∧iv<xs.length),.eptr (xs[iv.toNat]?.getD []))else none
   |some n,.row r=>match st.obj r with
    |some (.row _ n' xs)=>if n=n'∧0<n then some (decide (0≤iv∧iv<xs.length),.rptr r n iv.toNat 0)else none
    |some (.fz n' xs)=>if n=n' then some (decide (0≤iv∧iv<xs.length),.eptr (xs[iv.toNat]?.getD []))else none
    |_=>none
   |some n,.sub r n' lo len=>match st.obj r with
    |some (.row _ n2 xs)=>if n=n'∧n'=n2∧0<n then some (decide (0≤iv∧iv<len∧lo+len≤xs.length),.rptr r n (lo+iv.toNat) 0)else none
    |_=>none
   |_,_=>none
  |none,.im (.sc (.int _ iv))=>match arr P t,st.ev x with
   |some (len,n),.ptr nm o=>some (decide (0≤iv∧iv<len),.ptr nm (o+iv.toNat*n))
   |some (len,n),.eptr cs=>some (decide (0≤iv∧iv<len),.eptr (cs.drop (iv.toNat*n)))
   |some (len,n),.im (.sc (.pointer (some ⟨g,o,none⟩)))=>some (decide (0≤iv∧iv<len),.im (.sc (.pointer (some ⟨g,o+iv.toNat*n,none⟩))))
   |_,_=>none
  |_,_=>none
 |.nilCheck x=>match st.ev x with
  |.ptr n o=>some (true,.ptr n o)
  |.eptr cs=>some (true,.eptr cs)
  |.rptr n k i o=>some (true,.rptr n k i o)
  |_=>none
 |.unOp .not _ x=>match st.ev x with
  |.im (.sc (.bool b))=>some (true,.bool (!b))
  |_=>none
 |.unOp .neg _ x=>match st.ev x with
  |.im (.sc (.int k n))=>some (true,.int k (k.wrap (0-n)))
  |_=>none
 |.binOp op t x y _=>aBin P op t (st.ev x) (st.ev y)
 |.convert s d x=>match P.underlying s,tint P d,st.ev x with
  |some (.int _),some k,.im (.sc (.int _ n))=>some (true,.int k (k.wrap n))
  |some (.slice e),_,v=>aStr P st e d v
  |_,_,_=>none
 |.extract t i=>match st.ev t with
  |.tup cs=>match cs[i]? with
   |some c=>some (true,c)
   |none=>none
  |_=>none
 |.call c=>aCall P st c.callee c.args.toList c.argTypes.toList
 |.pick c x y=>match st.ev c with
  |.im (.sc (.bool t))=>match st.evR x,st.evR y with
   |.im (.sc (.bool p)),.im (.sc (.bool q))=>some (true,.bool (pk t p q))
   |.cond c' (.im (.sc (.bool p))),.im (.sc (.bool q))=>some (impB t c',.bool (pk t p q))
   |.im (.sc (.bool p)),.cond c' (.im (.sc (.bool q)))=>some (impB (!t) c',.bool (pk t p q))
   |.cond _ .undef,.im (.sc (.bool q))=>some (!t,.bool q)
   |.im (.sc (.bool p)),.cond _ .undef=>some (t,.bool p)
   |_,_=>none
  |_=>none
 |.index t x i=>match st.ev x,st.ev i with
  |.im (.sc (.string s)),.im (.sc (.int _ iv))=>if isStr P t then some (decide (0≤iv∧iv<s.size),.int .u8 ((s[iv.toNat]?.map fun b=>(b.toNat:Int)).getD 0))else none
  |_,_=>none
 |.lookup t x i ok=>aLook P st t x i ok
 |.entry x=>aEnt st x
 |.slice t x lo hi none=>match st.ev x with
  |.row n=>(match st.obj n with
   |some (.rowP _ _ _ _ _)=>aSubP P st t (.row n) lo hi
   |_=>aSub P st t n lo hi)
  |.sub n k l0 len=>aSubP P st t (.sub n k l0 len) lo hi
  |_=>aVal2 P st (.slice t x lo hi none)
 |.slice t x (some lo) (some hi) (some mx)=>aSub3 P st t (st.ev x) lo hi mx
 |.slice t x none (some hi) (some mx)=>aCut P st t (st.ev x) hi mx
 |op=>aVal2 P st op
end Go.Am
namespace Go.Am
open Go.RowKit
variable {P:Program} {Y:Nat→Prop} {st:St} {m:Nm} {w:World}
theorem VRep.sc_inv {m:Nm} {c:Addr→Value→Prop} {x v:Value} (h:VRep m c (.im (.sc x)) v):v=x:=by
 cases h with|im h=>cases h;rfl
theorem one_rep {m:Nm} {c:Addr→Value→Prop} {a:AV} {v:Value} (h:VRep m c a v) (h1:a.one=true):v.oneCell'=true:=by
 cases h with
 |im h=>
  cases h with
  |sc=>exact h1
  |sl=>rfl
 |agg=>cases h1
 |tup=>cases h1
 |cond=>cases h1
 |undef=>cases h1
 |_=>rfl
theorem cells_one {v:Value} (h:v.oneCell'=true):v.cells=#[v]:=by cases v<;>first|rfl|cases h
theorem cells_rep {m:Nm} {c:Addr→Value→Prop} {a:AV} {v:Value} (h:VRep m c a v) {cs:List AV} (hc:a.cells=some cs):
  v.cells.size=cs.length∧(∀u,u∈v.cells→u.oneCell'=true)∧∀(j:Nat) (y:AV) (u:Value),cs[j]? =some y→v.cells[j]? =some u→VRep m c y u:=by
 have one:∀(a:AV) (v:Value),VRep m c a v→a.one=true→cs=[a]→v.cells.size=cs.length∧(∀u,u∈v.cells→u.oneCell'=true)∧∀(j:Nat) (y:AV) (u:Value),cs[j]? =some y→v.cells[j]? =some u→VRep m c y u:=by
  intro a v h h1 e
  subst e
  have hv:=one_rep h h1
  rw[cells_one hv]
  refine⟨rfl,fun u hu=>?_,fun j y u hy hu=>?_⟩
  ·simp at hu;subst hu;exact hv
  ·cases j with
   |zero=>simp at hy hu;subst hy hu;exact h
   |succ j=>simp at hy
 cases a with
 |agg ds=>
  simp only[AV.cells]at hc
  split at hc
  ·rename_i hall
   cases hc
   cases h with|agg hl hr=>
   refine⟨hl,fun u hu=>?_,fun j y u hy hu=>hr j y u hy hu⟩
   obtain⟨j,hj,rfl⟩:=Array.mem_iff_getElem.1 hu
   have hjl:j<cs.length:=by rw[←hl];exact hj
   have:=hr j cs[j] _ (List.getElem?_eq_getElem hjl) (Array.getElem?_eq_getElem hj)
   exact one_rep this (List.all_eq_true.1 hall _ (List.getElem_mem hjl))
  ·cases hc
 |_=>
  simp only[AV.cells]at hc
  split at hc
  ·rename_i h1
   cases hc
   exact one _ _ h h1 rfl
  ·cases hc
theorem part_run {c:Addr→Value→Prop} {t:TypeId} {xs:List AV} {us:Array Value} {off:Nat} {a:AV} (hl:us.size=xs.length) (hr:∀(j:Nat) (y:AV) (u:Value),xs[j]? =some y→us[j]? =some u→VRep m c y u)
  (h:AV.part P t xs off=some a) (w:World):∃u,(part t us off).run P w=.ok u w∧VRep m c a u:=by
 unfold AV.part at h
 split at h
 ·rename_i ht
  simp only[Option.map_eq_some_iff]at h
  obtain⟨n,hn,rfl⟩:=h
  refine⟨.agg (us.extract off (off+n)),by simp[part,run_tag ht,run_tsz hn],.agg (by simp[hl];omega) (fun j y u h1 h2=>?_)⟩
  rw[List.getElem?_take]at h1
  split at h1
  ·rw[List.getElem?_drop]at h1
   refine hr _ y u h1 ?_
   rw[Array.getElem?_extract]at h2
   split at h2
   ·exact h2
   ·cases h2
  ·cases h1
 ·rename_i ht
  have hlt:=(List.getElem?_eq_some_iff.1 h).1
  have hu:us[off]? =some us[off]:=Array.getElem?_eq_getElem (by omega)
  exact⟨us[off],by simp[part,run_tag ht,hu],hr off a _ h hu⟩
 ·cases h
theorem eqT_run {c:Addr→Value→Prop}:∀(d D:Nat),d≤D→∀(t:TypeId) (x y:AV) (u v:Value) (b:Bool),VRep m c x u→VRep m c y v→eqT P d t x y=some b→∀w,(Op.equalIn D t u v).run P w=.ok b w
 |0,_,_,_,_,_,_,_,_,_,_,h=>by cases h
 |d+1,0,hd,_,_,_,_,_,_,_,_,_=>by omega
 |d+1,D+1,hd,t,x,y,u,v,b,hx,hy,h=>by
  intro w
  unfold eqT at h
  split at h
  ·rename_i hu
   split at h
   ·cases h
    rw[hx.sc_inv,hy.sc_inv]
    exact run_equalIn_bool w D t _ _ hu
   ·cases h
  ·rename_i k0 hu
   split at h
   ·split at h
    ·rename_i hk
     subst hk
     cases h
     rw[hx.sc_inv,hy.sc_inv]
     exact run_equalIn_int w D t _ _ _ _ hu
    ·cases h
   ·cases h
  ·rename_i hu
   split at h
   ·cases h
    rw[hx.sc_inv,hy.sc_inv]
    exact run_equalIn_string w D t _ _ hu
   ·cases h
  ·rename_i fs hu
   split at h
   ·rename_i xs ys
    split at h
    ·cases h
    ·rename_i hp
     cases hx with|agg hlx hrx=>
     cases hy with|agg hly hry=>
     rename_i us vs
     have hf:P.fieldsOf t=fs:=by simp[Program.fieldsOf,hu]
     rw[run_equalIn_struct w D t us vs (by rw[hf];exact hu) (by simpa using hp),hf]
     have ih:=eqT_run (c:=c) d D (by omega)
     clear hu hf hp
     generalize fs.toList=l at h
     induction l generalizing b w with
     |nil=>cases h;simp[Op.eqFields]
     |cons f l ihl=>
      unfold eqFs at h
      split at h
      ·cases h
      ·rename_i hn
       split at h
       ·rename_i a1 a2 h1 h2
        split at h
        ·rename_i p q hp hq
         cases h
         obtain⟨u1,r1,v1⟩:=part_run hlx hrx h1 w
         obtain⟨u2,r2,v2⟩:=part_run hly hry h2 w
         have h3:=ih f.type a1 a2 u1 u2 p v1 v2 hp w
         have h4:=ihl (b:=q) (w:=w) hq
         simp only[Op.eqFields,Sem.run_ite,if_pos hn,Sem.run_bind,r1,r2,h3,Result.andThen_ok]
         cases p
         ·simp
         ·simpa using h4
        ·cases h
       ·cases h
   ·cases h
  ·cases h
theorem isPtr_under {t:TypeId} (h:isPtr P t=true):∃e,P.underlying t=some (.pointer e):=by
 unfold isPtr at h
 split at h
 ·rename_i e he;exact⟨e,he⟩
 ·cases h
theorem nilEq_run {c:Addr→Value→Prop} {t:TypeId} {x y:AV} {u v:Value} {b:Bool} (hx:VRep m c x u) (hy:VRep m c y v) (h:nilEq P t x y=some b) (op:BinOp) (ho:op=.eql∨op=.neq) (ox oy:Operand) (w:World):
  (Op.equal t u v).run P w=.ok b w∧(eqGuard op t ox oy u v).run P w=.ok () w∧(∀k n,u≠.int k n)∧(∀s,u≠.string s)∧(∀k n,u≠.float k n)∧(∀k n n',u≠.complex k n n'):=by
 have ptr:∀(p q:Option Addr),isPtr P t=true→(p=none∨q=none)→u=.pointer p→v=.pointer q→(Op.equal t u v).run P w=.ok (p.isNone&&q.isNone) w:=by
  intro p q ht hpq hu hv
  obtain⟨e,he⟩:=isPtr_under ht
  subst hu hv
  unfold Op.equal Op.maxDepth Op.equalIn
  cases p<;>cases q<;>simp[run_underlying he]
  simp at hpq
 unfold nilEq at h
 split at h
 ·split at h
  ·rename_i ht
   cases h
   have hv:=hy.sc_inv
   cases hx with|ptr hm=>
   exact⟨by rw[ptr _ none ht (.inr rfl) rfl hv];simp,by rw[hv];rcases ho with rfl|rfl<;>simp[eqGuard],by simp,by simp,by simp,by simp⟩
  ·cases h
 ·split at h
  ·rename_i ht
   cases h
   have hv:=hy.sc_inv
   cases hx with|eptr=>
   exact⟨by rw[ptr _ none ht (.inr rfl) rfl hv];simp,by rw[hv];rcases ho with rfl|rfl<;>simp[eqGuard],by simp,by simp,by simp,by simp⟩
  ·cases h
 ·split at h
  ·rename_i ht
   cases h
   have hv:=hy.sc_inv
   cases hx with|rptr hm=>
   exact⟨by rw[ptr _ none ht (.inr rfl) rfl hv];simp,by rw[hv];rcases ho with rfl|rfl<;>simp[eqGuard],by simp,by simp,by simp,by simp⟩
  ·cases h
 ·split at h
  ·rename_i ht
   cases h
   have hu:=hx.sc_inv
   have hv:=hy.sc_inv
   exact⟨by rw[ptr none none ht (.inr rfl) hu hv];simp,by rw[hu,hv];rcases ho with rfl|rfl<;>simp[eqGuard],by simp[hu],by simp[hu],by simp[hu],by simp[hu]⟩
  ·cases h
 ·split at h
  ·rename_i ht
   cases h
   obtain⟨e,he⟩:=Option.isSome_iff_exists.1 ht
   have hu:=hx.sc_inv
   have hv:=hy.sc_inv
   subst hu hv
   exact⟨run_equal_slice_nil w t e _ _ _ (elt_under he),by rcases ho with rfl|rfl<;>simp[eqGuard],by simp,by simp,by simp,by simp⟩
  ·cases h
 ·split at h
  ·rename_i x0 xs0 ht
   cases h
   obtain⟨e,he⟩:=Option.isSome_iff_exists.1 ht
   have hv:=hy.sc_inv
   subst hv
   cases hx with|im hx=>
   cases hx with|sl uu ad hcap hmax hA=>
   have:=hA (by simp)
   subst this
   exact⟨run_equal_slice_nil w t e _ _ _ (elt_under he),by rcases ho with rfl|rfl<;>simp[eqGuard],by simp,by simp,by simp,by simp⟩
  ·cases h
 ·split at h
  ·rename_i A0 n0 c0 _ ht
   cases h
   obtain⟨e,he⟩:=Option.isSome_iff_exists.1 ht
   have hu:=hx.sc_inv
   have hv:=hy.sc_inv
   subst hu hv
   exact⟨run_equal_slice_nil w t e _ _ _ (elt_under he),by rcases ho with rfl|rfl<;>simp[eqGuard],by simp,by simp,by simp,by simp⟩
  ·cases h
 ·rename_i xs ys
  split at h
  ·cases h
  ·rename_i hg
   have he:=eqT_run 10 Op.maxDepth (by decide) t _ _ u v b hx hy h w
   cases hx with|agg=>
   cases hy with|agg=>
   exact⟨he,by rcases ho with rfl|rfl<;>simp[eqGuard,hg],by simp,by simp,by simp,by simp⟩
 ·cases h
theorem fold_set (off:Nat):∀(l:List Value) (k:Nat) (cs:Array Value),((l.zipIdx k).foldl (fun cs (p:Value×Nat)=>cs.setIfInBounds (off+p.2) p.1) cs).size=cs.size∧
  ∀i,i<cs.size→((l.zipIdx k).foldl (fun cs (p:Value×Nat)=>cs.setIfInBounds (off+p.2) p.1) cs)[i]? =if off+k≤i∧i<off+k+l.length then l[i-(off+k)]? else cs[i]?
 |[],k,cs=>by simp;omega
 |x::l,k,cs=>by
  obtain⟨h1,h2⟩:=fold_set off l (k+1) (cs.setIfInBounds (off+k) x)
  simp only[List.zipIdx_cons,List.foldl_cons]
  refine⟨by rw[h1];simp,fun i hi=>?_⟩
  rw[h2 i (by simpa using hi)]
  by_cases e:off+k=i
  ·subst e
   rw[if_neg (by omega),if_pos (by simp)]
   simp[Array.getElem?_setIfInBounds,hi]
  ·rw[Array.getElem?_setIfInBounds_ne e]
   by_cases h3:off+(k+1)≤i∧i<off+(k+1)+l.length
   ·rw[if_pos h3,if_pos (by simp;omega),show i-(off+k)=(i-(off+(k+1)))+1 by omega]
    simp
   ·rw[if_neg h3,if_neg (by simp;omega)]
theorem fill_run {c:Addr→Value→Prop} {ev:Operand→AV} {ρ:Operand→Value} (hev:∀x,VRep m c (ev x) (ρ x)) {t:TypeId} {place:Nat→Option (Nat×Nat)} (hp:∀i q,foff P t i=some q→place i=some q):
  ∀(l:List (Nat×Operand)) (cs cs':List AV) (us:Array Value),us.size=cs.length→(∀(j:Nat) (y:AV) (u:Value),cs[j]? =some y→us[j]? =some u→VRep m c y u)→fillA P t ev cs l=some cs'→
   ∃us',Instr.fill place us (l.map fun(p:Nat×Operand)=>(p.1,ρ p.2))=some us'∧us'.size=cs'.length∧∀(j:Nat) (y:AV) (u:Value),cs'[j]? =some y→us'[j]? =some u→VRep m c y u
 |[],cs,cs',us,hl,hr,h=>by cases h;exact⟨us,rfl,hl,hr⟩
 |(i,x)::l,cs,cs',us,hl,hr,h=>by
  unfold fillA at h
  split at h
  ·rename_i off n ds hf hc
   split at h
   ·rename_i hd
    obtain⟨hdl,hfit⟩:=hd
    obtain⟨g1,g2,g3⟩:=cells_rep (hev x) hc
    have hpl:=hp i _ hf
    obtain⟨f1,f2⟩:=fold_set off (ρ x).cells.toList 0 us
    have hfold:((ρ x).cells.zipIdx.foldl (fun cs (p:Value×Nat)=>cs.setIfInBounds (off+p.2) p.1) us)=((ρ x).cells.toList.zipIdx 0).foldl (fun cs (p:Value×Nat)=>cs.setIfInBounds (off+p.2) p.1) us:=by
     rw[←Array.foldl_toList,Array.toList_zipIdx]
    have:=fill_run hev hp l (cs.take off++ds++cs.drop (off+n)) cs' (((ρ x).cells.toList.zipIdx 0).foldl (fun cs (p:Value×Nat)=>cs.setIfInBounds (off+p.2) p.1) us) (by rw[f1,hl];simp;omega) ?_ h
    ·obtain⟨us',r1,r2,r3⟩:=this
     refine⟨us',?_,r2,r3⟩
     simp only[List.map_cons,Instr.fill,hpl]
     rw[if_neg (by simp;omega)]
     rw[←hfold]at r1
     exact r1
    ·intro j y u h1 h2
     have hj:j<us.size:=by have:=(Array.getElem?_eq_some_iff.1 h2).1;omega
     rw[f2 j hj]at h2
     simp only[Nat.add_zero,Array.length_toList,g1,hdl]at h2
     rw[List.getElem?_append,List.getElem?_append]at h1
     simp only[List.length_append,List.length_take,Nat.min_eq_left (show off≤cs.length by omega),hdl]at h1
     split at h1
     ·rename_i h3
      split at h1
      ·rename_i h4
       rw[if_neg (by omega)]at h2
       rw[List.getElem?_take,if_pos h4]at h1
       exact hr j y u h1 h2
      ·rename_i h4
       rw[if_pos (by omega)]at h2
       exact g3 _ y u h1 (by simpa using h2)
     ·rename_i h3
      rw[if_neg (by omega)]at h2
      rw[List.getElem?_drop]at h1
      refine hr _ y u h1 ?_
      rw[show off+n+(j-(off+n))=j by omega]
      exact h2
   ·cases h
  ·cases h
theorem run_pair (f:Field) {n:Nat} (hn:tsz P f.type=some n) (w:World):(Prod.mk f.offset<$>sizeOf f.type:Sem (Nat×Nat)).run P w=.ok (f.offset,n) w:=by
 have:(Prod.mk f.offset<$>sizeOf f.type:Sem (Nat×Nat))=(do pure (f.offset,←sizeOf f.type):Sem (Nat×Nat)):=by simp
 rw[this]
 simp only[Sem.run_bind,run_tsz hn,Result.andThen_ok,Sem.run_pure]
theorem mapM_places:∀(l:List Field) (q:List (Nat×Nat)),l.mapM (fun f=>(tsz P f.type).map fun n=>(f.offset,n))=some q→
  ∀w,(l.mapM fun f=>(Prod.mk f.offset<$>sizeOf f.type:Sem (Nat×Nat))).run P w=.ok q w
 |[],q,h,w=>by simp at h;subst h;simp
 |f::l,q,h,w=>by
  simp only[List.mapM_cons,Option.bind_eq_bind,Option.bind_eq_some_iff,Option.map_eq_some_iff,Option.pure_def,Option.some.injEq]at h
  obtain⟨p,⟨n,hn,rfl⟩,q',hq,rfl⟩:=h
  have:=mapM_places l q' hq w
  simp only[List.mapM_cons,Sem.run_bind,run_pair f hn,Result.andThen_ok,Sem.run_pure,this]
theorem places_get:∀(l:List Field) (q:List (Nat×Nat)),l.mapM (fun f=>(tsz P f.type).map fun n=>(f.offset,n))=some q→∀(i:Nat) (f:Field),l[i]? =some f→∃n,tsz P f.type=some n∧q[i]? =some (f.offset,n)
 |[],q,h,i,f,hf=>by simp at hf
 |g::l,q,h,i,f,hf=>by
  simp only[List.mapM_cons,Option.bind_eq_bind,Option.bind_eq_some_iff,Option.map_eq_some_iff,Option.pure_def,Option.some.injEq]at h
  obtain⟨p,⟨n,hn,rfl⟩,q',hq,rfl⟩:=h
  cases i with
  |zero=>simp at hf;subst hf;exact⟨n,hn,rfl⟩
  |succ i=>simpa using places_get l q' hq i f (by simpa using hf)
theorem build_run {c:Addr→Value→Prop} {ev:Operand→AV} {ρ:Operand→Value} (hev:∀x,VRep m c (ev x) (ρ x)) {t:TypeId} {parts:Array (Nat×Operand)} {zs:List Value} {q:List (Nat×Nat)} {cs:List AV}
  (hz:zcells P t=some zs) (hq:places P t=some q) (h:fillA P t ev (zs.map fun v=>.im (.sc v)) parts.toList=some cs):
  ∃v,VRep m c (.agg cs) v∧∀w,(Instr.build t (parts.map fun(i,x)=>(i,ρ x))).run P w=.ok v w:=by
 simp only[zcells,Option.map_eq_some_iff,Option.bind_eq_some_iff]at hz
 obtain⟨z,⟨i,hi,hz⟩,rfl⟩:=hz
 unfold places at hq
 split at hq
 ·rename_i fs hu
  have hp:∀i q',foff P t i=some q'→(q.toArray[·]?) i=some q':=by
   intro i q' hf
   unfold foff at hf
   rw[hu]at hf
   simp only at hf
   split at hf
   ·rename_i f hfi
    obtain⟨n,hn,hqi⟩:=places_get fs.toList q hq i f (by simpa using hfi)
    rw[hn]at hf
    simp only[Option.bind_some]at hf
    split at hf
    ·cases hf
    ·cases hf;simpa using hqi
   ·cases hf
  obtain⟨us,r1,r2,r3⟩:=fill_run hev hp parts.toList _ cs z.cells (by simp) (fun j y u h1 h2=>by
   simp at h1
   obtain⟨x,hx,rfl⟩:=h1
   rw[hx]at h2;cases h2
   exact .im .sc) h
  refine⟨.agg us,.agg r2 r3,fun w=>?_⟩
  have hm:(fs.mapM fun f=>(Prod.mk f.offset<$>sizeOf f.type:Sem (Nat×Nat))).run P w=.ok q.toArray w:=by
   rw[Array.mapM_eq_mapM_toList]
   simp[mapM_places fs.toList q hq w]
  unfold Instr.build
  simp only[Sem.run_bind,zeroValue,typeInfo,run_underlying hu,Result.andThen_ok,Sem.run_pure,hi,hz,run_program]
  have r1':Instr.fill (fun x=>q[x]?) z.cells (List.map (fun x=>(x.fst,ρ x.snd)) parts.toList)=some us:=by simpa using r1
  simp[hi,hz,hm,r1']
 ·cases hq
theorem bnd_runC {c:Addr→Value→Prop} {ev:Option Operand→AV} {a:Act} (hev:∀x,VRep m c (ev (some x)) (a.eval x)) {lo hi:Option Operand} {len cap l h:Nat} (hb:bnd (ev lo) (ev hi) len lo.isSome hi.isSome=some (true,l,h)) (hl:h≤cap) (isS:Bool) (w:World):
  l≤h∧(Instr.sliceBounds isS len cap (lo.map a.eval) (hi.map a.eval) none).run P w=.ok (l,h,cap) w:=by
 unfold bnd at hb
 split at hb
 ·rename_i k1 hv k2 lv h1 h2
  simp only[Option.some.injEq,Prod.mk.injEq]at hb
  obtain⟨hd,rfl,rfl⟩:=hb
  have hd:=of_decide_eq_true hd
  refine⟨by omega,?_⟩
  cases hi with
  |none=>
   simp at h1
   obtain⟨rfl,rfl⟩:=h1
   cases lo with
   |none=>simp at h2;obtain⟨rfl,rfl⟩:=h2;simp[Instr.sliceBounds]
   |some x=>
    simp at h2
    have:=hev x
    rw[h2]at this
    have hx:=this.sc_inv
    simp[Instr.sliceBounds,Instr.sliceBound,hx,asIntOf,hd.1,hd.2]
  |some y=>
   simp at h1
   have:=hev y
   rw[h1]at this
   have hy:=this.sc_inv
   have hle:hv≤(cap:Int):=by omega
   have h0:0≤hv:=by omega
   cases lo with
   |none=>simp at h2;obtain⟨rfl,rfl⟩:=h2;simp[Instr.sliceBounds,Instr.sliceBound,hy,asIntOf,hle,h0]
   |some x=>
    simp at h2
    have:=hev x
    rw[h2]at this
    have hx:=this.sc_inv
    have:lv≤((hv.toNat:Nat):Int):=by omega
    simp[Instr.sliceBounds,Instr.sliceBound,hx,hy,asIntOf,hd.1,hd.2,hle,h0,this]
    intro h;omega
 ·cases hb
theorem bnd_run {c:Addr→Value→Prop} {ev:Option Operand→AV} {a:Act} (hev:∀x,VRep m c (ev (some x)) (a.eval x)) {lo hi:Option Operand} {len cap l h:Nat} (hb:bnd (ev lo) (ev hi) len lo.isSome hi.isSome=some (true,l,h)) (hl:h≤len) (hc:len≤cap) (isS:Bool) (w:World):
  l≤h∧(Instr.sliceBounds isS len cap (lo.map a.eval) (hi.map a.eval) none).run P w=.ok (l,h,cap) w:=bnd_runC hev hb (Nat.le_trans hl hc) isS w
theorem ev_rep' {c:Addr→Value→Prop} {a:Act} (hfr:∀t,VRep m c (st.get t) (a.tmps.getD t Go.undef)) (x:Operand):VRep m c (st.ev x) (a.eval x):=ev_rep hfr x
theorem aVal2_sound {c:Addr→Value→Prop} {a:Act} {r:AV} {s:Bool} (hfr:∀t,VRep m c (st.get t) (a.tmps.getD t Go.undef)) (o:Oper) (h:aVal2 P st o.op=some (s,r)) (hs:s=true):
  ∃v,VRep m c r v∧∀w,(execOp a.eval o).run P w=.ok (.value v) w:=by
 obtain⟨dst,op,ty,pos,after,guard⟩:=o
 simp only at h
 unfold aVal2 at h
 split at h
 ·rename_i t parts
  split at h
  ·rename_i zs q hz hq
   simp only[Option.map_eq_some_iff,Prod.mk.injEq]at h
   obtain⟨cs,hcs,rfl,rfl⟩:=h
   obtain⟨v,h1,h2⟩:=build_run (fun x=>ev_rep' hfr x) hz hq hcs
   exact⟨v,h1,fun w=>by simp[execOp,h2]⟩
  ·cases h
 ·rename_i f first cap
  split at h
  ·rename_i hf
   cases h
   have:first=#[]:=by simpa using hf
   subst this
   refine⟨.func (.func f) #[] (cap.map a.eval),.fn (by simp) (fun j y u h1 h2=>?_),fun w=>by simp[execOp,Instr.makeFunc]⟩
   simp at h1 h2
   obtain⟨x,hx,rfl⟩:=h1
   obtain⟨x',hx',rfl⟩:=h2
   rw[hx]at hx';cases hx'
   exact ev_rep' hfr x
  ·cases h
 ·rename_i t x lo hi
  have hx:=ev_rep' hfr x
  split at h
  ·rename_i sv hxe
   split at h
   ·rename_i ht
    split at h
    ·rename_i b l hh hb
     cases h
     simp only[Bool.and_eq_true,decide_eq_true_eq]at hs
     obtain⟨rfl,hle⟩:=hs
     rw[hxe]at hx
     have hu:P.underlying t=some .string:=by
      unfold isStr at ht
      split at ht
      ·assumption
      ·cases ht
     refine⟨_,.im .sc,fun w=>?_⟩
     obtain⟨_,hbr⟩:=bnd_run (P:=P) (ev:=evO st) (fun x=>ev_rep' hfr x) hb hle (Nat.le_refl _) false w
     simp[execOp,Instr.sliceAt,Instr.slice,run_underlying hu,hx.sc_inv,hbr]
    ·cases h
   ·cases h
  ·rename_i hxe
   split at h
   ·rename_i e he
    split at h
    ·rename_i hsz
     split at h
     ·rename_i b l hh hb
      cases h
      simp only[Bool.and_eq_true,decide_eq_true_eq]at hs
      obtain⟨rfl,hle⟩:=hs
      rw[hxe]at hx
      have hu:=elt_under he
      obtain⟨n,hn⟩:=Option.isSome_iff_exists.1 hsz
      refine⟨_,.im .sc,fun w=>?_⟩
      obtain⟨hlh,hbr⟩:=bnd_run (P:=P) (ev:=evO st) (fun x=>ev_rep' hfr x) hb hle (Nat.le_refl _) true w
      have:hh=0:=by omega
      subst this
      have:l=0:=by omega
      subst this
      simp[execOp,Instr.sliceAt,Instr.slice,run_underlying hu,hx.sc_inv,hbr,run_tsz hn]
     ·cases h
    ·cases h
   ·cases h
  ·rename_i k xs hxe
   split at h
   ·rename_i e he
    split at h
    ·rename_i hsz
     split at h
     ·rename_i b l hh hb
      cases h
      simp only[Bool.and_eq_true,decide_eq_true_eq]at hs
      obtain⟨rfl,hle⟩:=hs
      rw[hxe]at hx
      have hu:=elt_under he
      generalize hxv:a.eval x=xv at hx
      cases hx with|im hx=>
      cases hx with|@sl _ _ A cap u ad hcap hmax hA hk hc h1c hr=>
      obtain⟨hlh,_⟩:=bnd_run (P:=P) (ev:=evO st) (fun x=>ev_rep' hfr x) hb hle hcap true default
      have hlen:((xs.take hh).drop l).length=hh-l:=by simp;omega
      have hget:∀i x,((xs.take hh).drop l)[i]? =some x→xs[l+i]? =some x:=by
       intro i x h1
       rw[List.getElem?_drop,List.getElem?_take]at h1
       split at h1
       ·exact h1
       ·cases h1
      refine⟨.slice (if cap=l then A else A.map (·.add (l*k))) (hh-l) (cap-l),?_,fun w=>?_⟩
      ·rw[←hlen]
       refine .im (.sl (fun i j=>u (l+i) j) (ad.add (l*k)) (by omega) (by omega) (fun hne=>?_) (fun i x h1=>hk _ x (hget i x h1)) (fun i x j y h1 h2=>?_) (fun i x j y h1 h2=>h1c _ x j y (hget i x h1) h2) (fun i x j y h1 h2=>hr _ x j y (hget i x h1) h2))
       ·have h3:l<hh:=by
         rcases Nat.lt_or_ge l hh with h4|h4
         ·exact h4
         ·exact absurd (List.eq_nil_of_length_eq_zero (by omega)) hne
        have:=hA (fun e=>by subst e;simp at hle;omega)
        subst this
        rw[if_neg (by omega)]
        rfl
       ·rw[add_add',show l*k+(i*k+j)=(l+i)*k+j by rw[Nat.add_mul];omega]
        exact hc _ x j y (hget i x h1) h2
      ·obtain⟨_,hbr⟩:=bnd_run (P:=P) (ev:=evO st) (fun x=>ev_rep' hfr x) hb hle hcap true w
       simp[execOp,Instr.sliceAt,Instr.slice,run_underlying hu,hxv,hbr,run_tsz hsz]
     ·cases h
    ·cases h
   ·cases h
  ·cases h
 ·rename_i t x f
  have hx:=ev_rep' hfr x
  split at h
  ·rename_i off cs hf he
   split at h
   ·rename_i c hc
    cases h
    rw[he]at hx
    generalize hxv:a.eval x=xv at hx
    cases hx with|@agg _ vs hl hr=>
    obtain⟨u,hu⟩:∃u,vs[off]? =some u:=by
     have:=(List.getElem?_eq_some_iff.1 hc).1
     exact⟨vs[off]'(by omega),Array.getElem?_eq_getElem (by omega)⟩
    refine⟨u,hr off _ u hc hu,fun w=>?_⟩
    unfold fone at hf
    split at hf
    ·rename_i fs hus
     split at hf
     ·rename_i fd hfd
      split at hf
      ·rename_i ht
       cases hf
       simp[execOp,Instr.field,hxv,run_underlying hus,hfd,part,asAgg,run_tag ht,hu]
      ·cases hf
     ·cases hf
    ·cases hf
   ·cases h
  ·cases h
 ·cases h
end Go.Am
namespace Go.Am
open Go.RowKit
open Go.ChangeMaps (setBlock)
variable {P:Program} {Y:Nat→Prop} {st:St} {m:Nm} {w:World} {a:Act}
theorem mpOf_under {t e:TypeId} {q:IntKind} (h:mpOf P t=some (q,e)):∃k,P.underlying t=some (.map k e)∧P.underlying k=some (.int q):=by
 unfold mpOf at h
 split at h
 ·rename_i k e' hu
  simp only[Option.map_eq_some_iff,Prod.mk.injEq]at h
  obtain⟨q',hq,rfl,rfl⟩:=h
  exact⟨k,hu,tint_under hq⟩
 ·cases h
theorem findNow_run {q:IntKind} {key:Int}:∀(xs:List (Int×AV)) (es:List MapEntry) (i0:Nat),es.length=xs.length→(∀(j:Nat) (x:Int×AV) (e:MapEntry),xs[j]? =some x→es[j]? =some e→e.key=.int q x.1)→
  Instr.findNow (.int q) (.int q key) es i0=some ((midx xs key).bind fun i=>(es[i]?).map fun e=>(i0+i,e.val))
 |[],[],i0,hl,hk=>rfl
 |[],_::_,i0,hl,hk=>by cases hl
 |_::_,[],i0,hl,hk=>by cases hl
 |(x,v)::xs,e::es,i0,hl,hk=>by
  have ih:=findNow_run (q:=q) (key:=key) xs es (i0+1) (by simpa using hl) (fun j x e h1 h2=>hk (j+1) x e (by simpa using h1) (by simpa using h2))
  have h0:=hk 0 _ _ rfl rfl
  simp only[Instr.findNow,Instr.sameNow,h0,if_true,midx]
  by_cases hx:key=x
  ·subst hx;simp
  ·have hb:(key==x)=false:=by simp[hx]
   simp only[hb,if_neg hx,ih]
   cases midx xs key with
   |none=>rfl
   |some i=>
    simp only[Option.map_some,Option.bind_some]
    simp only[List.getElem?_cons_succ]
    cases es[i]? with
    |none=>rfl
    |some e=>simp;omega
theorem findKey_run {q:IntKind} {key:Int} {kt:TypeId} (hk:P.underlying kt=some (.int q)) {xs:List (Int×AV)} {es:Array MapEntry} (hsz:es.size=xs.length) (he:∀(j:Nat) (x:Int×AV) (e:MapEntry),xs[j]? =some x→es[j]? =some e→e.key=.int q x.1) (w:World):
  (Instr.findKey kt (.int q key) es.toList).run P w=.ok ((midx xs key).bind fun i=>(es[i]?).map fun e=>(i,e.val)) w:=by
 have:=findNow_run (q:=q) (key:=key) xs es.toList 0 (by simpa using hsz) (fun j x e h1 h2=>he j x e h1 (by simpa using h2))
 simp only[Nat.zero_add]at this
 simp[Instr.findKey,run_underlying hk,this]
theorem checkKey_run {q:IntKind} {key:Int} {kt:TypeId} (hk:P.underlying kt=some (.int q)) (b:Bool) (w:World):(Instr.checkKey b 10000 kt (.int q key)).run P w=.ok () w:=by
 rw[show(10000:Nat)=9999+1 from rfl,Instr.checkKey]
 simp[run_underlying hk]
theorem zav_run {t:TypeId} {z:AV} (h:zav P t=some z) (m:Nm) (c:Addr→Value→Prop):∃v,VRep m c z v∧∀w,(zeroValue t).run P w=.ok v w:=by
 unfold zav at h
 cases hz:(P.info? t).bind (·.zero)with
 |none=>rw[hz]at h;cases h
 |some v=>
  rw[hz]at h
  have hrun:∀w,(zeroValue t).run P w=.ok v w:=by
   intro w
   simp only[Option.bind_eq_some_iff]at hz
   obtain⟨i,hi,hz⟩:=hz
   simp[zeroValue,typeInfo,hi,hz]
  refine⟨v,?_,hrun⟩
  cases v with
  |agg cs=>
   cases h
   refine .agg (by simp) (fun j y u h1 h2=>?_)
   simp at h1
   obtain⟨x,hx,rfl⟩:=h1
   rw[hx]at h2;cases h2
   exact .im .sc
  |_=>cases h;exact .im .sc
theorem midx_lt:∀(xs:List (Int×AV)) (key:Int) (i:Nat),midx xs key=some i→i<xs.length
 |[],_,_,h=>by cases h
 |(k,v)::xs,key,i,h=>by
  simp only[midx]at h
  split at h
  ·cases h;simp
  ·simp only[Option.map_eq_some_iff]at h
   obtain⟨j,hj,rfl⟩:=h
   have:=midx_lt xs key j hj
   simp;omega
theorem keyStays_run (q:IntKind) (key:Int) (w:World):(Instr.keyThatStays (.int q key) (.int q key)).run P w=.ok (.int q key) w:=by
 have:Instr.sameBits 10000 (.int q key) (.int q key)=true:=by
  simp[Instr.sameBits]
 simp[Instr.keyThatStays,this]
theorem midx_key:∀(xs:List (Int×AV)) (key:Int) (i:Nat) (x:Int×AV),midx xs key=some i→xs[i]? =some x→x.1=key
 |[],_,_,_,h,_=>by cases h
 |(k,v)::xs,key,i,x,h,hx=>by
  simp only[midx]at h
  split at h
  ·rename_i e;cases h;simp at hx;subst hx;exact e.symm
  ·simp only[Option.map_eq_some_iff]at h
   obtain⟨j,hj,rfl⟩:=h
   exact midx_key xs key j x hj (by simpa using hx)
theorem aLook_sound (sim:SimO Y st m w) (hfr:∀t,VRep m (seen w (fun b=>st.owned m b∨Y b)) (st.get t) (a.tmps.getD t Go.undef)) {t:TypeId} {x i:Operand} {ok:Bool} {s:Bool} {r:AV} (h:aLook P st t x i ok=some (s,r)):
  ∃v,VRep m (seen w (fun b=>st.owned m b∨Y b)) r v∧∀w',(∀b,b<w.heap.size→w'.heap[b]? =w.heap[b]?)→(Instr.lookup t (a.eval x) (a.eval i) ok).run P w'=.ok v w':=by
 unfold aLook at h
 split at h
 ·rename_i q e q' key hq hie
  split at h
  ·rename_i hqq
   subst hqq
   split at h
   ·rename_i v b hv
    cases h
    obtain⟨kt,hu,hku⟩:=mpOf_under hq
    have hi:=ev_rep hfr i
    rw[hie]at hi
    have hiv:=hi.sc_inv
    rw[hiv]
    have fin:∀u,VRep m (seen w (fun b=>st.owned m b∨Y b)) v u→(∀w',(∀b,b<w.heap.size→w'.heap[b]? =w.heap[b]?)→(Instr.lookup t (a.eval x) (.int q key) ok).run P w'=.ok (if ok then .tuple #[u,.bool b]else u) w')→
      ∃v',VRep m (seen w (fun b=>st.owned m b∨Y b)) (if ok then .tup [v,.bool b]else v) v'∧∀w',(∀b,b<w.heap.size→w'.heap[b]? =w.heap[b]?)→(Instr.lookup t (a.eval x) (.int q key) ok).run P w'=.ok v' w':=by
     intro u hu1 hrun
     refine⟨_,?_,hrun⟩
     cases ok with
     |false=>exact hu1
     |true=>
      refine .tup rfl (fun j y z g1 g2=>?_)
      match j with
      |0=>simp at g1 g2;subst g1 g2;exact hu1
      |1=>simp at g1 g2;subst g1 g2;exact .im .sc
      |j+2=>simp at g1
    have hx:=ev_rep hfr x
    unfold mpVal at hv
    split at hv
    ·rename_i n hxe
     rw[hxe]at hx
     generalize hxv:a.eval x=xv at hx fin
     cases hx with|@map _ bm hm=>
     split at hv
     ·rename_i q' xs ho
      split at hv
      ·rename_i hqq
       subst hqq
       simp only[Option.map_eq_some_iff,Prod.mk.injEq]at hv
       obtain⟨z,hz,rfl,rfl⟩:=hv
       obtain⟨l,hl,b,es,rfl,hh,hsz,hr⟩:=sim.objs n _ ho
       rw[hl]at hm;cases hm
       have hbl:=(Array.getElem?_eq_some_iff.1 hh).1
       have hf:=findKey_run (P:=P) (key:=key) hku hsz (fun j x e h1 h2=>(hr j x e h1 h2).2.1)
       obtain⟨zv,hzr,hzrun⟩:=zav_run hz m (seen w (fun b=>st.owned m b∨Y b))
       cases hmi:midx xs key with
       |none=>
        rw[hmi]at hf
        have hg:mget xs key=none:=by simp[mget,hmi]
        refine fin zv (by rw[hg];exact hzr) (fun w' hw=>?_)
        have hh':=(hw bm hbl).trans hh
        simp[Instr.lookup,run_underlying hu,getObj,Sem.run,hh',checkKey_run hku,hf,hzrun,hg]
       |some j=>
        rw[hmi]at hf
        have hj:=midx_lt xs key j hmi
        obtain⟨y,hy⟩:∃y,xs[j]? =some y:=⟨xs[j],List.getElem?_eq_getElem hj⟩
        obtain⟨e',he'⟩:∃e',es[j]? =some e':=⟨es[j],Array.getElem?_eq_getElem (by omega)⟩
        have hg:mget xs key=some y.2:=by simp[mget,hmi,hy]
        refine fin e'.val (by rw[hg];exact(hr j y e' hy he').2.2) (fun w' hw=>?_)
        have hh':=(hw bm hbl).trans hh
        simp[Instr.lookup,run_underlying hu,getObj,Sem.run,hh',checkKey_run hku,hf,he',hg]
      ·cases hv
     ·cases hv
    ·rename_i hxe
     rw[hxe]at hx
     have hxv:=hx.sc_inv
     simp only[Option.map_eq_some_iff,Prod.mk.injEq]at hv
     obtain⟨z,hz,rfl,rfl⟩:=hv
     obtain⟨zv,hzr,hzrun⟩:=zav_run hz m (seen w (fun b=>st.owned m b∨Y b))
     have hf:=findKey_run (P:=P) (q:=q) (key:=key) (xs:=[]) (es:=#[]) hku rfl (fun j x e h1=>by simp at h1)
     refine fin zv hzr (fun w' _=>?_)
     have hf':(Instr.findKey kt (.int q key) []).run P w'=.ok none w':=by simpa [midx]using hf w'
     simp[Instr.lookup,run_underlying hu,hxv,checkKey_run hku,hzrun,hf']
    ·cases hv
   ·cases h
  ·cases h
 ·cases h
theorem aEnt_sound (sim:SimO Y st m w) (hfr:∀t,VRep m (seen w (fun b=>st.owned m b∨Y b)) (st.get t) (a.tmps.getD t Go.undef)) {x:Operand} {s:Bool} {r:AV} (h:aEnt st x=some (s,r)) (hs:s=true):
  ∃v,VRep m (seen w (fun b=>st.owned m b∨Y b)) r v∧∀w',(∀b,b<w.heap.size→w'.heap[b]? =w.heap[b]?)→(Instr.entry (a.eval x)).run P w'=.ok v w':=by
 unfold aEnt at h
 split at h
 ·rename_i r hxe
  split at h
  ·rename_i n since sn ho
   split at h
   ·rename_i q xs i hn hlast
    split at h
    ·rename_i e hi
     cases h
     have hs:=of_decide_eq_true hs
     subst hs
     have hx:=ev_rep hfr x
     rw[hxe]at hx
     generalize hxv:a.eval x=xv at hx
     cases hx with|@ptr _ _ rb hm=>
     obtain⟨l,hl,rb',bm,rfl,hnb,hh⟩:=sim.objs r _ ho
     rw[hl]at hm;cases hm
     obtain⟨l2,hl2,b,es,rfl,hh2,hsz,hr⟩:=sim.objs n _ hn
     rw[hl2]at hnb;cases hnb
     have hlt:=(List.getElem?_eq_some_iff.1 hi).1
     obtain⟨e',he'⟩:∃e',es[i]? =some e':=⟨es[i],Array.getElem?_eq_getElem (by omega)⟩
     obtain⟨g1,g2,g3⟩:=hr i e e' hi he'
     have hborn:∀(j:Nat) (e2:MapEntry),es[j]? =some e2→e2.born=j:=by
      intro j e2 hj
      have hj':j<xs.length:=by have:=(Array.getElem?_eq_some_iff.1 hj).1;omega
      exact(hr j _ e2 (List.getElem?_eq_getElem hj') hj).1
     have hnd:(es.toList.map fun e:MapEntry=>e.born).Nodup:=by
      rw[List.nodup_iff_pairwise_ne,List.pairwise_iff_getElem]
      intro i j hi hj hij
      simp only[List.getElem_map,Array.getElem_toList]
      rw[hborn i _ (Array.getElem?_eq_getElem (by simpa using hi)),hborn j _ (Array.getElem?_eq_getElem (by simpa using hj))]
      omega
     have hsn:sn=sn.dropLast++[i]:=by
      have hne:sn≠[]:=by rintro rfl;cases hlast
      have:=List.dropLast_concat_getLast hne
      rw[List.getLast?_eq_some_getLast hne]at hlast
      cases hlast
      exact this.symm
     have harr:sn.toArray=(sn.dropLast.toArray).push e'.born:=by
      rw[hsn,g1];simp
     rw[harr]at hh
     have hb1:=(Array.getElem?_eq_some_iff.1 hh).1
     have hb2:=(Array.getElem?_eq_some_iff.1 hh2).1
     refine⟨.tuple #[e'.key,e'.val],?_,fun w' hw=>run_entry_at (P:=P) w' rb bm xs.length sn.dropLast.toArray es xs.length e' ((hw _ hb1).trans hh) ((hw _ hb2).trans hh2) (by simpa using Array.mem_of_getElem? he') hnd⟩
     refine .tup rfl (fun j y z k1 k2=>?_)
     match j with
     |0=>simp at k1 k2;subst k1 k2;rw[g2];exact .im .sc
     |1=>simp at k1 k2;subst k1 k2;exact g3
     |j+2=>simp at k1
    ·cases h
   ·cases h
  ·cases h
 ·cases h
end Go.Am
namespace Go.Am
open Go.RowKit
variable {P:Program} {Y:Nat→Prop} {st:St} {m:Nm} {w:World}
abbrev St.X (st:St) (m:Nm) (Y:Nat→Prop):Nat→Prop:=fun b=>st.owned m b∨Y b
theorem row_cells {e:TypeId} {k n:Nat} {A:Option Addr} {cp:Nat} {flat:List Value} (h:w.ownsRow 0 e k (.slice A n cp) n flat) (hn:0<flat.length):
  ∃b,A=some ⟨b,0,none⟩∧∀(j:Nat) (u:Value),flat[j]? =some u→w.cell? ⟨b,j,none⟩=some u:=by
 rcases h.2 with⟨hv,rfl⟩|⟨g,cap,cur,hv,_,hh,_⟩
 ·have:=h.1;simp at this;subst this;simp at hn
 ·cases hv
  refine⟨g,rfl,fun j u hu=>?_⟩
  have:=h.cells (g:=g) rfl j u hu
  rwa [add_at,Nat.zero_add]at this
theorem cellsAt_sound (sim:SimO Y st m w) {av:AV} {v:Value} (hv:VRep m (seen w (st.X m Y)) av v) {k:Nat} {cells:List AV} (hc:st.cellsAt av k=some cells):
  ∃(a:Addr) (u:Nat→Value),v=.pointer (some a)∧cells.length=k∧(∀j,j<k→w.cell? (a.add j)=some (u j))∧∀(j:Nat) (y:AV),cells[j]? =some y→VRep m (seen w (st.X m Y)) y (u j):=by
 unfold St.cellsAt at hc
 split at hc
 ·rename_i n off
  split at hc
  ·rename_i t cs ho
   split at hc
   ·rename_i hlen
    cases hc
    obtain⟨l,hl,b,arr,rfl,hh,hsz,hone,hr⟩:=sim.objs n _ ho
    cases hv with|ptr hm=>
    rw[hl]at hm;cases hm
    refine⟨⟨b,off,none⟩,fun j=>arr.getD (off+j) Go.undef,rfl,by simp;omega,fun j hj=>?_,fun j y hy=>?_⟩
    ·rw[add_at,cell_of_row w b _ arr t (0,0) hh]
     simp[Array.getD_eq_getD_getElem?,show off+j<arr.size by omega]
    ·rw[List.getElem?_take]at hy
     split at hy
     ·rename_i hj
      rw[List.getElem?_drop]at hy
      exact hr (off+j) y _ hy (by simp[Array.getD_eq_getD_getElem?,show off+j<arr.size by omega])
     ·cases hy
   ·cases hc
  ·cases hc
 ·rename_i cs
  split at hc
  ·rename_i hlen
   cases hc
   cases hv with|eptr u a h0 h1 h2=>
   refine⟨a,u,rfl,by simp;omega,fun j hj=>?_,fun j y hy=>?_⟩
   ·obtain⟨y,hy⟩:∃y,cs[j]? =some y:=⟨cs[j]'(by omega),List.getElem?_eq_getElem (by omega)⟩
    exact(h1 j y hy).cell (h0 j y hy)
   ·rw[List.getElem?_map,List.getElem?_take]at hy
    split at hy
    ·simp only[Option.map_eq_some_iff]at hy
     obtain⟨x,hx,rfl⟩:=hy
     exact .im (h2 j x hx)
    ·cases hy
  ·cases hc
 ·rename_i n k' i off
  split at hc
  ·rename_i e k2 xs ho
   split at hc
   ·rename_i hk
    obtain⟨rfl,hk⟩:=hk
    simp only[Option.map_eq_some_iff]at hc
    obtain⟨x,hx,rfl⟩:=hc
    obtain⟨l,hl,A,cp,flat,rfl,hown,hone,hlen,hr⟩:=sim.objs n _ ho
    cases hv with|rptr hm=>
    rw[hl]at hm;cases hm
    have hxl:=hlen i x hx
    have hi:=(List.getElem?_eq_some_iff.1 hx).1
    have hfl:flat.length=xs.length*k':=hown.1
    have hbd:∀j,j<k→i*k'+off+j<flat.length:=by
     intro j hj
     rw[hfl]
     calc i*k'+off+j<i*k'+k':=by omega
      _=(i+1)*k':=by rw[Nat.succ_mul]
      _≤xs.length*k':=Nat.mul_le_mul_right _ hi
    refine⟨_,fun j=>flat.getD (i*k'+off+j) Go.undef,rfl,by simp;omega,fun j hj=>?_,fun j y hy=>?_⟩
    ·have hb:=hbd j hj
     obtain⟨b',hb',hcell⟩:=row_cells hown (by omega)
     cases hb'
     rw[add_at]
     exact hcell _ _ (by simp[List.getD,List.getElem?_eq_getElem hb])
    ·rw[List.getElem?_map,List.getElem?_take]at hy
     split at hy
     ·rename_i hj
      simp only[Option.map_eq_some_iff]at hy
      obtain⟨z,hz,rfl⟩:=hy
      rw[List.getElem?_drop]at hz
      have hb:=hbd j hj
      refine .im (hr i x (off+j) z _ hx hz ?_)
      rw[←Nat.add_assoc]
      simp[List.getD,List.getElem?_eq_getElem hb]
     ·cases hy
   ·cases hc
  ·cases hc
 ·rename_i g off
  split at hc
  ·rename_i gs ho
   simp only[Option.bind_eq_some_iff]at hc
   obtain⟨cs,hcs,hc⟩:=hc
   split at hc
   ·rename_i hlen
    cases hc
    obtain⟨l,hl,rfl,hg⟩:=sim.objs 0 _ ho
    have hp:=hg g cs hcs
    generalize hpe:Value.pointer (some (⟨g,0,none⟩:Addr))=pv at hp
    cases hp with|eptr u a h0 h1 h2=>
    cases hpe
    have hv':=hv.sc_inv
    refine⟨⟨g,off,none⟩,fun j=>u (off+j),hv',by simp;omega,fun j hj=>?_,fun j y hy=>?_⟩
    ·obtain⟨y,hy⟩:∃y,cs[off+j]? =some y:=⟨cs[off+j]'(by omega),List.getElem?_eq_getElem (by omega)⟩
     have:=(h1 _ y hy).cell (h0 _ y hy)
     rw[add_at,Nat.zero_add]at this
     rw[add_at];exact this
    ·rw[List.getElem?_map,List.getElem?_take]at hy
     split at hy
     ·simp only[Option.map_eq_some_iff]at hy
      obtain⟨x,hx,rfl⟩:=hy
      rw[List.getElem?_drop]at hx
      exact .im (h2 _ x hx)
     ·cases hy
   ·cases hc
  ·cases hc
 ·cases hc
theorem cell_same {w w':World} (hw:∀b,b<w.heap.size→w'.heap[b]? =w.heap[b]?) {p:Addr} {v:Value} (h:w.cell? p=some v):w'.cell? p=some v:=
 (World.cell?_of_block (w:=w) (w':=w') (hw _ (World.block_lt_of_cell? w p h))).trans h
theorem run_loadVar_agg {t:TypeId} {n:Nat} (ht:tag P t=some true) (hn:tsz P t=some n) {a:Addr} {u:Nat→Value} (h:∀j,j<n→w.cell? (a.add j)=some (u j)):
  (loadVar t a).run P w=.ok (.agg ((List.range n).map u).toArray) w:=by
 simp[loadVar,run_tag ht,run_tsz hn,run_loadCells w a n u h]
theorem run_loadVar_one {t:TypeId} (ht:tag P t=some false) {a:Addr} {u:Value} (h:w.cell? a=some u):(loadVar t a).run P w=.ok u w:=by
 simp[loadVar,run_tag ht,h]
theorem run_fieldAt {t:TypeId} {f off n:Nat} (h:foff P t f=some (off,n)) (a:Addr) (w:World):(Instr.fieldAt t (.pointer (some a)) f).run P w=.ok (.pointer (some (a.add off))) w:=by
 unfold foff at h
 split at h
 ·rename_i fs hu
  split at h
  ·rename_i fd hf
   simp only[Option.bind_eq_some_iff]at h
   obtain⟨n',hn',h⟩:=h
   split at h
   ·cases h
   ·rename_i hz
    cases h
    simp[Instr.fieldAt,underlying,hu,hf,Instr.sureAddr,fieldPlace,run_tsz hn',hz]
  ·cases h
 ·cases h
theorem binOp_guard {op:BinOp} {t:TypeId} {x y:Operand} {u v:Value} (hu:∀l,u≠.agg l) (hn:u≠.nilIface) (w:World):
  (eqGuard op t x y u v).run P w=.ok () w:=by
 cases u<;>simp_all [eqGuard]<;>cases op<;>simp
theorem arr_under {t:TypeId} {len n:Nat} (h:arr P t=some (len,n)):∃e,P.underlying t=some (.array len e)∧tsz P e=some n:=by
 unfold arr at h
 split at h
 ·rename_i l e he
  simp only[Option.map_eq_some_iff,Prod.mk.injEq]at h
  obtain⟨_,h1,rfl,rfl⟩:=h
  exact⟨e,he,h1⟩
 ·cases h
theorem evR_rep {c:Addr→Value→Prop} {a:Act} (hraw:∀t,VRep m c (st.raw t) (a.tmps.getD t Go.undef)) (x:Operand):VRep m c (st.evR x) (a.eval x):=
 ev_rep (st:={st with grd:=none}) hraw x
theorem rowAt_sound (sim:SimO Y st m w) {x:AV} {v:Value} (hv:VRep m (seen w (st.X m Y)) x v) {k:Nat} {xs:List (List IV)} (h:rowAt st x=some (k,xs)):
  ∃A cp,v=.slice A xs.length cp∧(∀(i:Nat) (z:List IV),xs[i]? =some z→z.length=k)∧(xs≠[]→∃(ad:Addr) (u:Nat→Nat→Value),A=some ad∧∀(i:Nat) (z:List IV) (j:Nat) (y:IV),xs[i]? =some z→z[j]? =some y→w.cell? (ad.add (i*k+j))=some (u i j)∧IRep (seen w (st.X m Y)) y (u i j)∧(u i j).oneCell'=true∧z.length=k):=by
 have slc:∀(A:Option Addr) (cp:Nat),IRep (seen w (st.X m Y)) (.sl k xs) (.slice A xs.length cp)→v=.slice A xs.length cp→∃A cp,v=.slice A xs.length cp∧(∀(i:Nat) (z:List IV),xs[i]? =some z→z.length=k)∧(xs≠[]→∃(ad:Addr) (u:Nat→Nat→Value),A=some ad∧∀(i:Nat) (z:List IV) (j:Nat) (y:IV),xs[i]? =some z→z[j]? =some y→w.cell? (ad.add (i*k+j))=some (u i j)∧IRep (seen w (st.X m Y)) y (u i j)∧(u i j).oneCell'=true∧z.length=k):=by
  intro A cp hi hv
  cases hi with|@sl _ _ _ _ u ad hcap hmax hA hk' hc h1c hr=>
  exact⟨A,cp,hv,hk',fun hne=>⟨ad,u,hA hne,fun i z j y h1 h2=>⟨(hc i z j y h1 h2).cell (h1c i z j y h1 h2),hr i z j y h1 h2,h1c i z j y h1 h2,hk' i z h1⟩⟩⟩
 unfold rowAt at h
 split at h
 ·cases h
  exact⟨none,0,hv.sc_inv,fun i z h=>by simp at h,fun hne=>absurd rfl hne⟩
 ·cases h
  cases hv with|im hi=>
  cases hi with|@sl _ _ A cap u ad hcap hmax hA hk' hc h1c hr=>
  exact slc A cap (.sl u ad hcap hmax hA hk' hc h1c hr) rfl
 ·rename_i n
  split at h
  ·rename_i e k' zs ho
   cases h
   obtain⟨l,hl,A,cp,flat,rfl,hown,hone,hlen,hr⟩:=sim.objs n _ ho
   cases hv with|row hm=>
   rw[hl]at hm;cases hm
   refine⟨A,cp,rfl,hlen,fun hne=>?_⟩
   by_cases hk0:k=0
   ·subst hk0
    have hA:∃ad,A=some ad:=by
     rcases hown.2 with⟨hv,h0⟩|⟨g,cap,cur,hv,_⟩
     ·exact absurd (List.eq_nil_of_length_eq_zero h0) hne
     ·cases hv;exact⟨_,rfl⟩
    obtain⟨ad,rfl⟩:=hA
    refine⟨ad,fun _ _=>Go.undef,rfl,fun i z j y h1 h2=>?_⟩
    have:=hlen i z h1
    have:=(List.getElem?_eq_some_iff.1 h2).1
    omega
   ·have hfl:0<flat.length:=by rw[hown.1];exact Nat.mul_pos (List.length_pos_iff.2 hne) (by omega)
    obtain⟨b,rfl,hcell⟩:=row_cells hown hfl
    refine⟨_,fun i j=>flat.getD (i*k+j) Go.undef,rfl,fun i z j y h1 h2=>?_⟩
    have hj:=(List.getElem?_eq_some_iff.1 h2).1
    rw[hlen i z h1]at hj
    have hi:=(List.getElem?_eq_some_iff.1 h1).1
    have hbd:i*k+j<flat.length:=by
     rw[hown.1]
     calc i*k+j<i*k+k:=by omega
      _=(i+1)*k:=by rw[Nat.succ_mul]
      _≤xs.length*k:=Nat.mul_le_mul_right _ hi
    have hg:flat[i*k+j]? =some (flat.getD (i*k+j) Go.undef):=by simp[List.getD,List.getElem?_eq_getElem hbd]
    refine⟨?_,hr i z j y _ h1 h2 hg,?_,hlen i z h1⟩
    ·rw[add_at,Nat.zero_add]
     exact hcell _ _ hg
    ·exact hone _ (List.mem_of_getElem? hg)
  ·rename_i k' zs ho
   cases h
   obtain⟨l,hl,A,cp,rfl,hx⟩:=sim.objs n _ ho
   cases hv with|row hm=>
   rw[hl]at hm;cases hm
   exact slc A cp hx rfl
  ·cases h
 ·rename_i n k0 lo len
  split at h
  ·rename_i e k' zs ho
   split at h
   ·rename_i hc
    obtain⟨rfl,hle⟩:=hc
    cases h
    obtain⟨l,hl,A,cp,flat,rfl,hown,hone,hlen,hr⟩:=sim.objs n _ ho
    cases hv with|sub hm h1 hB=>
    rw[hl]at hm;cases hm
    have hcp:zs.length≤cp:=by
     rcases hown.2 with⟨hv,h0⟩|⟨g,cap,cur,hv,_,_,h1,h2,_⟩
     ·injection hv with _ _ hv;subst hv;omega
     ·injection hv with _ _ hv;subst hv;exact h1
    have hll:((zs.drop lo).take len).length=len:=by simp;omega
    rw[hll]
    have hget:∀(i:Nat) (x:List IV),((zs.drop lo).take len)[i]? =some x→zs[lo+i]? =some x:=by
     intro i x hx
     rw[List.getElem?_take]at hx
     split at hx
     ·rw[List.getElem?_drop]at hx;exact hx
     ·cases hx
    refine⟨_,_,rfl,fun i z hz=>hlen _ z (hget i z hz),fun hne=>?_⟩
    have h3:0<len:=by
     rcases Nat.eq_zero_or_pos len with h4|h4
     ·exact absurd (List.eq_nil_of_length_eq_zero (by omega)) hne
     ·exact h4
    rw[hB (by omega)]
    by_cases hk0:k=0
    ·subst hk0
     have hA:∃ad,A=some ad:=by
      rcases hown.2 with⟨hv,h0⟩|⟨g,cap,cur,hv,_⟩
      ·omega
      ·cases hv;exact⟨_,rfl⟩
     obtain⟨ad,rfl⟩:=hA
     refine⟨_,fun _ _=>Go.undef,rfl,fun i z j y g1 g2=>?_⟩
     have:=hlen _ z (hget i z g1)
     have:=(List.getElem?_eq_some_iff.1 g2).1
     omega
    ·have hfl:0<flat.length:=by rw[hown.1];exact Nat.mul_pos (by omega) (by omega)
     obtain⟨b,rfl,hcell⟩:=row_cells hown hfl
     refine⟨_,fun i j=>flat.getD ((lo+i)*k+j) Go.undef,rfl,fun i z j y g1 g2=>?_⟩
     have g1:=hget i z g1
     have hj:=(List.getElem?_eq_some_iff.1 g2).1
     rw[hlen _ z g1]at hj
     have hi:=(List.getElem?_eq_some_iff.1 g1).1
     have hbd:(lo+i)*k+j<flat.length:=by
      rw[hown.1]
      calc (lo+i)*k+j<(lo+i)*k+k:=by omega
       _=(lo+i+1)*k:=by rw[Nat.succ_mul]
       _≤zs.length*k:=Nat.mul_le_mul_right _ hi
     have hg:flat[(lo+i)*k+j]? =some (flat.getD ((lo+i)*k+j) Go.undef):=by simp[List.getD,List.getElem?_eq_getElem hbd]
     refine⟨?_,hr _ z j y _ g1 g2 hg,hone _ (List.mem_of_getElem? hg),hlen _ z g1⟩
     rw[add_add',add_at,Nat.zero_add,show lo*k+(i*k+j)=(lo+i)*k+j by rw[Nat.add_mul];omega]
     exact hcell _ _ hg
   ·cases h
  ·rename_i e k' hlP cp zs ho
   split at h
   ·rename_i hc
    obtain⟨rfl,hle⟩:=hc
    cases h
    obtain⟨l,hl,A,flat,rfl,hlc,hown,hone,hlen,hr⟩:=sim.objs n _ ho
    cases hv with|sub hm h1 hB=>
    rw[hl]at hm;cases hm
    have hcp:zs.length≤cp:=by
     rcases hown.2 with⟨hv,h0⟩|⟨g,cap,cur,hv,_,_,h1,h2,_⟩
     ·injection hv with _ _ hv;subst hv;omega
     ·injection hv with _ _ hv;subst hv;exact h1
    have hll:((zs.drop lo).take len).length=len:=by simp;omega
    rw[hll]
    have hget:∀(i:Nat) (x:List IV),((zs.drop lo).take len)[i]? =some x→zs[lo+i]? =some x:=by
     intro i x hx
     rw[List.getElem?_take]at hx
     split at hx
     ·rw[List.getElem?_drop]at hx;exact hx
     ·cases hx
    refine⟨_,_,rfl,fun i z hz=>hlen _ z (hget i z hz),fun hne=>?_⟩
    have h3:0<len:=by
     rcases Nat.eq_zero_or_pos len with h4|h4
     ·exact absurd (List.eq_nil_of_length_eq_zero (by omega)) hne
     ·exact h4
    rw[hB (by omega)]
    by_cases hk0:k=0
    ·subst hk0
     have hA:∃ad,A=some ad:=by
      rcases hown.2 with⟨hv,h0⟩|⟨g,cap,cur,hv,_⟩
      ·omega
      ·cases hv;exact⟨_,rfl⟩
     obtain⟨ad,rfl⟩:=hA
     refine⟨_,fun _ _=>Go.undef,rfl,fun i z j y g1 g2=>?_⟩
     have:=hlen _ z (hget i z g1)
     have:=(List.getElem?_eq_some_iff.1 g2).1
     omega
    ·have hfl:0<flat.length:=by rw[hown.1];exact Nat.mul_pos (by omega) (by omega)
     obtain⟨b,rfl,hcell⟩:=row_cells hown hfl
     refine⟨_,fun i j=>flat.getD ((lo+i)*k+j) Go.undef,rfl,fun i z j y g1 g2=>?_⟩
     have g1:=hget i z g1
     have hj:=(List.getElem?_eq_some_iff.1 g2).1
     rw[hlen _ z g1]at hj
     have hi:=(List.getElem?_eq_some_iff.1 g1).1
     have hbd:(lo+i)*k+j<flat.length:=by
      rw[hown.1]
      calc (lo+i)*k+j<(lo+i)*k+k:=by omega
       _=(lo+i+1)*k:=by rw[Nat.succ_mul]
       _≤zs.length*k:=Nat.mul_le_mul_right _ hi
     have hg:flat[(lo+i)*k+j]? =some (flat.getD ((lo+i)*k+j) Go.undef):=by simp[List.getD,List.getElem?_eq_getElem hbd]
     refine⟨?_,hr _ z j y _ g1 g2 hg,hone _ (List.mem_of_getElem? hg),hlen _ z g1⟩
     rw[add_add',add_at,Nat.zero_add,show lo*k+(i*k+j)=(lo+i)*k+j by rw[Nat.add_mul];omega]
     exact hcell _ _ hg
   ·cases h
  ·cases h
 ·cases h
theorem bytesOf_get:∀(xs:List (List IV)) (ns:List Int),bytesOf xs=some ns→xs=ns.map fun n=>[.sc (.int .u8 n)]
 |[],ns,h=>by cases h;rfl
 |x::xs,ns,h=>by
  unfold bytesOf at h
  split at h
  ·rename_i he;cases he
  ·rename_i n l he
   cases he
   simp only[Option.map_eq_some_iff]at h
   obtain⟨ms,hm,rfl⟩:=h
   rw[bytesOf_get _ _ hm];rfl
  ·cases h
theorem aStr_sound (sim:SimO Y st m w) {x:AV} {v:Value} (hv:VRep m (seen w (st.X m Y)) x v) {s e d:TypeId} (hs:P.underlying s=some (.slice e)) {b:Bool} {r:AV} (h:aStr P st e d x=some (b,r)):
  ∃u,VRep m (seen w (st.X m Y)) r u∧∀w',(∀b,b<w.heap.size→w'.heap[b]? =w.heap[b]?)→(convert s d v).run P w'=.ok u w':=by
 unfold aStr at h
 split at h
 ·rename_i hc
  obtain⟨hte,hd⟩:=hc
  split at h
  ·rename_i xs hrow
   simp only[Option.map_eq_some_iff,Prod.mk.injEq]at h
   obtain⟨ns,hns,rfl,rfl⟩:=h
   have hxs:=bytesOf_get _ _ hns
   obtain⟨A,cp,rfl,_,hcells⟩:=rowAt_sound sim hv hrow
   have hdu:P.underlying d=some .string:=by
    unfold isStr at hd
    split at hd
    ·assumption
    ·cases hd
   refine⟨_,.im .sc,fun w' hw=>?_⟩
   have hconv:(Conv.bytesToString (.slice A xs.length cp)).run P w'=.ok (.string (ns.foldl (fun r n=>r.push (UInt8.ofNat n.toNat)) ByteArray.empty)) w':=by
    cases A with
    |none=>
     have:xs=[]:=by
      apply Classical.byContradiction
      intro hne
      obtain⟨ad,u,he,_⟩:=hcells hne
      cases he
     subst this
     have:ns=[]:=by cases ns with|nil=>rfl|cons n ns=>cases hxs
     subst this
     simp[Conv.bytesToString]
    |some a=>
     refine run_bytesToString w' a xs.length cp ns ?_
     have hcl:∀j,j<xs.length→w'.cell? (a.add j)=some (.int .u8 (ns.getD j 0)):=by
      intro j hj
      obtain⟨ad,u,he,hc⟩:=hcells (by intro e;rw[e]at hj;simp at hj)
      cases he
      have hjn:j<ns.length:=by rw[hxs]at hj;simpa using hj
      have h1:xs[j]? =some [.sc (.int .u8 ns[j])]:=by rw[hxs];simp[hjn]
      obtain⟨h2,h3,_,_⟩:=hc j _ 0 _ h1 rfl
      generalize u j 0=uj at h2 h3
      cases h3
      rw[Nat.mul_one,Nat.add_zero]at h2
      rw[cell_same hw h2]
      simp[List.getD,List.getElem?_eq_getElem hjn]
     rw[run_loadCells w' a xs.length _ hcl]
     congr 1
     apply Array.ext_getElem?
     intro j
     have hlen:xs.length=ns.length:=by rw[hxs];simp
     by_cases hj:j<ns.length
     ·simp[hj,hlen,List.getD,List.getElem?_eq_getElem hj]
     ·rw[Array.getElem?_eq_none (by simp;omega),Array.getElem?_eq_none (by simp;omega)]
   simp[convert,run_underlying hs,run_underlying hdu,run_underlying (tint_under hte),hconv]
  ·cases h
 ·cases h
theorem subP_sound (sim:SimO Y st m w) {x:AV} {v:Value} (hv:VRep m (seen w (st.X m Y)) x v) {n k lo len c:Nat} (h:subP st x=some (n,k,lo,len,c)):
  ∃(A B:Option Addr) (l:Nat) (e:TypeId) (xs:List (List IV)),st.obj n=some (.rowP e k l c xs)∧m n=some (.hdr A l c)∧lo+len≤c∧(lo<c→B=A.map (·.add (lo*k)))∧v=.slice B len (c-lo):=by
 unfold subP at h
 split at h
 ·rename_i n'
  split at h
  ·rename_i e k' l' c' xs ho
   cases h
   obtain⟨l,hl,A,flat,rfl,hlc,_⟩:=sim.objs n _ ho
   cases hv with|row hm=>
   rw[hl]at hm;cases hm
   refine⟨A,A,len,e,xs,ho,hl,by omega,fun _=>?_,rfl⟩
   cases A with
   |none=>rfl
   |some ad=>simp[Addr.add]
  ·cases h
 ·rename_i n' k0 lo' len'
  split at h
  ·rename_i e k' l' c' xs ho
   split at h
   ·rename_i hk
    cases h
    subst hk
    obtain⟨l,hl,A,flat,rfl,hlc,_⟩:=sim.objs n _ ho
    cases hv with|sub hm h1 hB=>
    rw[hl]at hm;cases hm
    exact⟨A,_,l',e,xs,ho,hl,h1,hB,rfl⟩
   ·cases h
  ·cases h
 ·cases h
theorem aSubP_sound (sim:SimO Y st m w) {a:Act} (hfr:∀t,VRep m (seen w (st.X m Y)) (st.get t) (a.tmps.getD t Go.undef)) {t:TypeId} {x:AV} {lo hi:Option Operand} {v:Value} (hv:VRep m (seen w (st.X m Y)) x v) {s:Bool} {r:AV} (h:aSubP P st t x lo hi=some (s,r)) (hs:s=true):
  ∃u,VRep m (seen w (st.X m Y)) r u∧∀w',(Instr.sliceAt t v (lo.map a.eval) (hi.map a.eval) none).run P w'=.ok u w':=by
 unfold aSubP at h
 split at h
 ·rename_i n k l0 len c hsb
  obtain⟨A,B,l',e0,xs,ho,hm,hle,hB,rfl⟩:=subP_sound sim hv hsb
  split at h
  ·rename_i e he
   split at h
   ·rename_i hsz
    split at h
    ·rename_i b l hh hb
     cases h
     simp only[Bool.and_eq_true,decide_eq_true_eq]at hs
     obtain⟨rfl,hle2⟩:=hs
     obtain⟨hlh,_⟩:=bnd_runC (P:=P) (ev:=evO st) (a:=a) (cap:=c-l0) (fun x=>ev_rep' hfr x) hb (by omega) true default
     refine⟨.slice (if c-l0=l then B else B.map (·.add (l*k))) (hh-l) (c-l0-l),?_,fun w'=>?_⟩
     ·rw[show c-l0-l=c-(l0+l)by omega]
      refine .sub hm (by omega) (fun hlt=>?_)
      rw[if_neg (by omega),hB (by omega)]
      cases A with
      |none=>rfl
      |some ad=>simp[add_add',Nat.add_mul]
     ·obtain⟨_,hbr⟩:=bnd_runC (P:=P) (ev:=evO st) (a:=a) (cap:=c-l0) (fun x=>ev_rep' hfr x) hb (by omega) true w'
      simp[Instr.sliceAt,Instr.slice,run_underlying (elt_under he),hbr,run_tsz hsz]
    ·cases h
   ·cases h
  ·cases h
 ·cases h
theorem aSub3_sound (sim:SimO Y st m w) {a:Act} (hfr:∀t,VRep m (seen w (st.X m Y)) (st.get t) (a.tmps.getD t Go.undef)) {t:TypeId} {x:AV} {lo hi mx:Operand} {v:Value} (hv:VRep m (seen w (st.X m Y)) x v) {s:Bool} {r:AV} (h:aSub3 P st t x lo hi mx=some (s,r)) (hs:s=true):
  ∃u,VRep m (seen w (st.X m Y)) r u∧∀w',(Instr.sliceAt t v (some (a.eval lo)) (some (a.eval hi)) (some (a.eval mx))).run P w'=.ok u w':=by
 unfold aSub3 at h
 split at h
 ·rename_i n k l0 len c hsb
  obtain⟨A,B,l',e0,xs,ho,hm,hle,hB,rfl⟩:=subP_sound sim hv hsb
  split at h
  ·rename_i e k1 l k2 hh k3 mm he hlo hhi hmx
   split at h
   ·rename_i hsz
    cases h
    obtain⟨h0,h1,h2,h3⟩:=of_decide_eq_true hs
    have elo:=ev_rep hfr lo
    have ehi:=ev_rep hfr hi
    have emx:=ev_rep hfr mx
    rw[hlo]at elo;rw[hhi]at ehi;rw[hmx]at emx
    have elo:=elo.sc_inv
    have ehi:=ehi.sc_inv
    have emx:=emx.sc_inv
    refine⟨.slice (if mm.toNat=l.toNat then B else B.map (·.add (l.toNat*k))) (hh.toNat-l.toNat) (mm.toNat-l.toNat),.undef,fun w'=>?_⟩
    have g1:0≤mm∧mm≤((c-l0:Nat):Int):=by omega
    have g2:0≤hh∧hh≤((mm.toNat:Nat):Int):=by omega
    have g3:0≤l∧l≤((hh.toNat:Nat):Int):=by omega
    simp only[Instr.sliceAt,Instr.slice,Sem.run_bind,run_underlying (elt_under he),Result.andThen_ok,Instr.sliceBounds,Instr.sliceBound,elo,ehi,emx,asIntOf,Sem.run_pure,if_pos g1,if_pos g2,if_pos g3,run_tsz hsz]
   ·cases h
  ·cases h
 ·cases h
theorem aCut_sound (sim:SimO Y st m w) {a:Act} (hfr:∀t,VRep m (seen w (st.X m Y)) (st.get t) (a.tmps.getD t Go.undef)) {t:TypeId} {x:AV} {hi mx:Operand} {v:Value} (hv:VRep m (seen w (st.X m Y)) x v) {s:Bool} {r:AV} (h:aCut P st t x hi mx=some (s,r)) (hs:s=true):
  ∃u,VRep m (seen w (st.X m Y)) r u∧∀w',(Instr.sliceAt t v none (some (a.eval hi)) (some (a.eval mx))).run P w'=.ok u w':=by
 have key:∀(n l cp:Nat) (A:Option Addr) (k:Nat) (e:TypeId) (k1 k2:IntKind) (hh mm:Int),m n=some (.hdr A l cp)→l≤cp→v=.slice A l cp→elt P t=some e→tsz P e=some k→st.ev hi=.im (.sc (.int k1 hh))→st.ev mx=.im (.sc (.int k2 mm))→
   0≤hh∧hh=mm∧hh≤l→∃u,VRep m (seen w (st.X m Y)) (.cut n hh.toNat) u∧∀w',(Instr.sliceAt t v none (some (a.eval hi)) (some (a.eval mx))).run P w'=.ok u w':=by
  rintro n l cp A k e k1 k2 hh mm hm hlc rfl he hk hhi hmx ⟨h0,rfl,h1⟩
  have ehi:=ev_rep hfr hi
  have emx:=ev_rep hfr mx
  rw[hhi]at ehi;rw[hmx]at emx
  have ehi:=ehi.sc_inv
  have emx:=emx.sc_inv
  refine⟨.slice A hh.toNat hh.toNat,.cut hm (by omega),fun w'=>?_⟩
  have g1:0≤hh∧hh≤((cp:Nat):Int):=by omega
  have g2:0≤hh∧hh≤((hh.toNat:Nat):Int):=by omega
  have hA:(if hh.toNat=0 then A else A.map fun a=>a.add 0)=A:=by
   split
   ·rfl
   ·cases A with
    |none=>rfl
    |some ad=>simp[Addr.add]
  simp only[Instr.sliceAt,Instr.slice,Sem.run_bind,run_underlying (elt_under he),Result.andThen_ok,Instr.sliceBounds,Instr.sliceBound,ehi,emx,asIntOf,Sem.run_pure,if_pos g1,if_pos g2,run_tsz hk,Nat.zero_mul,Nat.sub_zero,hA]
 unfold aCut at h
 split at h
 ·rename_i n
  split at h
  ·rename_i k l e k1 hh k2 mm hob he hhi hmx
   split at h
   ·rename_i hk
    cases h
    have hs:=of_decide_eq_true hs
    split at hob
    ·rename_i e0 k0 xs ho
     cases hob
     obtain⟨l',hl,A,cp,flat,rfl,hown,_⟩:=sim.objs n _ ho
     cases hv with|row hm=>
     rw[hl]at hm;cases hm
     have hcp:xs.length≤cp:=by
      rcases hown.2 with⟨hv,hz⟩|⟨g,cap,cur,hv,_,_,h1,_⟩
      ·injection hv with _ _ e3;omega
      ·injection hv with _ _ e3;omega
     exact key n _ cp A k e k1 k2 hh mm hl hcp rfl he hk hhi hmx hs
    ·rename_i k0 xs ho
     cases hob
     obtain⟨l',hl,A,cp,rfl,hx⟩:=sim.objs n _ ho
     cases hv with|row hm=>
     rw[hl]at hm;cases hm
     cases hx with|sl u ad hcap hmax hA hk' hc h1c hr=>
     exact key n _ cp A k e k1 k2 hh mm hl hcap rfl he hk hhi hmx hs
    ·cases hob
   ·cases h
  ·cases h
 ·cases h
theorem aSub_sound (sim:SimO Y st m w) {a:Act} (hfr:∀t,VRep m (seen w (st.X m Y)) (st.get t) (a.tmps.getD t Go.undef)) {t:TypeId} {n:Nat} {lo hi:Option Operand} {v:Value} (hv:VRep m (seen w (st.X m Y)) (.row n) v) {s:Bool} {r:AV} (h:aSub P st t n lo hi=some (s,r)) (hs:s=true):
  ∃u,VRep m (seen w (st.X m Y)) r u∧∀w',(Instr.sliceAt t v (lo.map a.eval) (hi.map a.eval) none).run P w'=.ok u w':=by
 unfold aSub at h
 split at h
 ·rename_i e0 k xs ho
  split at h
  ·rename_i e he
   split at h
   ·rename_i hsz
    split at h
    ·rename_i b l hh hb
     cases h
     simp only[Bool.and_eq_true,decide_eq_true_eq]at hs
     obtain⟨rfl,hle⟩:=hs
     obtain⟨l',hl,A,cp,flat,rfl,hown,hone,hlen,hr⟩:=sim.objs n _ ho
     cases hv with|row hm=>
     rw[hl]at hm;cases hm
     have hcp:xs.length≤cp:=by
      rcases hown.2 with⟨hv,h0⟩|⟨g,cap,cur,hv,_,_,h1,h2,_⟩
      ·injection hv with _ _ hv;subst hv;omega
      ·injection hv with _ _ hv;subst hv;exact h1
     obtain⟨hlh,_⟩:=bnd_run (P:=P) (ev:=evO st) (a:=a) (fun x=>ev_rep' hfr x) hb hle hcp true default
     refine⟨_,.sub (B:=if cp=l then A else A.map (·.add (l*k))) hl (by omega) (fun hlt=>by rw[if_neg (by omega)]),fun w'=>?_⟩
     obtain⟨_,hbr⟩:=bnd_run (P:=P) (ev:=evO st) (a:=a) (fun x=>ev_rep' hfr x) hb hle hcp true w'
     simp[Instr.sliceAt,Instr.slice,run_underlying (elt_under he),hbr,run_tsz hsz]
    ·cases h
   ·cases h
  ·cases h
 ·cases h
theorem aVal_sound {a:Act} {r:AV} {s:Bool} (sim:SimO Y st m w) (hfr:∀t,VRep m (seen w (st.X m Y)) (st.get t) (a.tmps.getD t Go.undef)) (hraw:∀t,VRep m (seen w (st.X m Y)) (st.raw t) (a.tmps.getD t Go.undef))
  (o:Oper) (h:aVal P st o.op=some (s,r)) (hs:s=true):
  ∃v,VRep m (seen w (st.X m Y)) r v∧∀w',(∀b,b<w.heap.size→w'.heap[b]? =w.heap[b]?)→(execOp a.eval o).run P w'=.ok (.value v) w':=by
 obtain⟨dst,op,ty,pos,after,guard⟩:=o
 simp only at h
 unfold aVal at h
 split at h
 ·rename_i x;cases h
  exact⟨a.eval x,ev_rep hfr x,fun w' _=>by simp[execOp]⟩
 ·rename_i x;cases h
  exact⟨a.eval x,ev_rep hfr x,fun w' _=>by simp[execOp]⟩
 ·rename_i t x
  split at h
  ·rename_i n ht hn
   simp only[Option.map_eq_some_iff,Prod.mk.injEq]at h
   obtain⟨cs,hc,rfl,rfl⟩:=h
   obtain⟨ad,u,he,hl,h1,h2⟩:=cellsAt_sound sim (ev_rep hfr x) hc
   refine⟨.agg ((List.range n).map u).toArray,.agg (by simp[hl]) (fun j y v hy hv=>?_),fun w' hw=>?_⟩
   ·have hj:j<n:=by have:=(List.getElem?_eq_some_iff.1 hy).1;omega
    simp[hj]at hv
    subst hv
    exact h2 j y hy
   ·simp[execOp,Instr.loadAt,he,Instr.sureAddr,run_loadVar_agg ht hn (u:=u) (fun j hj=>cell_same hw (h1 j hj))]
  ·rename_i ht hn
   split at h
   ·rename_i hc
    cases h
    obtain⟨ad,u,he,hl,h1,h2⟩:=cellsAt_sound sim (ev_rep hfr x) hc
    have h0:=h1 0 (by omega)
    have hadd:ad.add 0=ad:=by simp[Addr.add]
    rw[hadd]at h0
    exact⟨u 0,h2 0 _ rfl,fun w' hw=>by simp[execOp,Instr.loadAt,he,Instr.sureAddr,run_loadVar_one ht (cell_same hw h0)]⟩
   ·cases h
  ·cases h
 ·rename_i t x f
  have hx:=ev_rep hfr x
  split at h
  ·rename_i off sz n o hf he
   cases h
   rw[he]at hx
   generalize hxe:a.eval x=xv at hx
   cases hx with|ptr hm=>
   exact⟨_,.ptr hm,fun w' _=>by simp[execOp,hxe,run_fieldAt hf,add_at]⟩
  ·rename_i off sz n k i o hf he
   cases h
   rw[he]at hx
   generalize hxe:a.eval x=xv at hx
   cases hx with|rptr hm=>
   exact⟨_,.rptr hm,fun w' _=>by simp[execOp,hxe,run_fieldAt hf,add_at,Nat.add_assoc]⟩
  ·rename_i off sz cs hf he
   cases h
   rw[he]at hx
   generalize hxe:a.eval x=xv at hx
   cases hx with|eptr u ad h0 h1 h2=>
   refine⟨_,.eptr (fun j=>u (off+j)) (ad.add off) (fun j y hy=>h0 _ y (by rw[List.getElem?_drop]at hy;exact hy)) (fun j y hy=>?_) (fun j y hy=>?_),fun w' _=>by simp[execOp,hxe,run_fieldAt hf]⟩
   ·rw[List.getElem?_drop]at hy
    rw[add_add']
    exact h1 _ y hy
   ·rw[List.getElem?_drop]at hy
    exact h2 _ y hy
  ·cases h
 ·rename_i t x i
  have hx:=ev_rep hfr x
  have hi:=ev_rep hfr i
  split at h
  ·rename_i e ki iv he hie
   rw[hie]at hi
   have hiv:=hi.sc_inv
   have hu:=elt_under he
   split at h
   ·rename_i n n' xs hn hxe
    split at h
    ·rename_i hnn
     subst hnn
     cases h
     rw[hxe]at hx
     generalize hxv:a.eval x=xv at hx
     cases hx with|im hx=>
     cases hx with|@sl _ _ A cap u ad hcap hmax hA hk hc h1c hr=>
     obtain⟨h0,h1⟩:=of_decide_eq_true hs
     have hlt:iv.toNat<xs.length:=by omega
     have hA':=hA (fun h=>by subst h;simp at hlt)
     subst hA'
     obtain⟨y,hy⟩:∃y,xs[iv.toNat]? =some y:=⟨xs[iv.toNat],List.getElem?_eq_getElem hlt⟩
     refine⟨.pointer (some (ad.add (iv.toNat*n))),?_,fun w' _=>?_⟩
     ·rw[hy]
      exact .eptr (fun j=>u iv.toNat j) _ (fun j z hz=>h1c _ y j z hy hz) (fun j z hz=>by rw[add_add'];exact hc _ y j z hy hz) (fun j z hz=>hr _ y j z hy hz)
     ·simp[execOp,Instr.indexAt,hiv,asIntOf,run_underlying hu,hxv,h0,h1,run_tsz hn]
    ·cases h
   ·rename_i n r hn hxe
    rw[hxe]at hx
    generalize hxv:a.eval x=xv at hx
    cases hx with|row hm=>
    split at h
    ·rename_i e2 n' xs ho
     split at h
     ·rename_i hnn
      obtain⟨hnn,hn0⟩:=hnn
      subst hnn
      cases h
      obtain⟨l,hl,A,cp,flat,rfl,hown,hone,hlen,hr⟩:=sim.objs r _ ho
      rw[hl]at hm;cases hm
      obtain⟨h0,h1⟩:=of_decide_eq_true hs
      have hlt:iv.toNat<xs.length:=by omega
      have hfl:0<flat.length:=by
       rw[hown.1];exact Nat.mul_pos (by omega) (by omega)
      obtain⟨b,rfl,hcell⟩:=row_cells hown hfl
      exact⟨_,.rptr hl,fun w' _=>by simp[execOp,Instr.indexAt,hiv,asIntOf,run_underlying hu,hxv,h0,h1,run_tsz hn,add_at]⟩
     ·cases h
    ·rename_i n' xs ho
     split at h
     ·rename_i hnn
      subst hnn
      cases h
      obtain⟨l,hl,A,cp,rfl,hx⟩:=sim.objs r _ ho
      rw[hl]at hm;cases hm
      cases hx with|@sl _ _ A cap u ad hcap hmax hA hk hc h1c hr=>
      obtain⟨h0,h1⟩:=of_decide_eq_true hs
      have hlt:iv.toNat<xs.length:=by omega
      have hA':=hA (fun h=>by subst h;simp at hlt)
      subst hA'
      obtain⟨y,hy⟩:∃y,xs[iv.toNat]? =some y:=⟨xs[iv.toNat],List.getElem?_eq_getElem hlt⟩
      refine⟨.pointer (some (ad.add (iv.toNat*n))),?_,fun w' _=>?_⟩
      ·rw[hy]
       exact .eptr (fun j=>u iv.toNat j) _ (fun j z hz=>h1c _ y j z hy hz) (fun j z hz=>by rw[add_add'];exact hc _ y j z hy hz) (fun j z hz=>hr _ y j z hy hz)
      ·simp[execOp,Instr.indexAt,hiv,asIntOf,run_underlying hu,hxv,h0,h1,run_tsz hn]
     ·cases h
    ·cases h
   ·rename_i n r n' lo len hn hxe
    rw[hxe]at hx
    generalize hxv:a.eval x=xv at hx
    cases hx with|@sub _ _ _ _ _ _ _ B hm hlc hB=>
    split at h
    ·rename_i e2 n2 xs ho
     split at h
     ·rename_i hnn
      obtain⟨rfl,rfl,hn0⟩:=hnn
      cases h
      obtain⟨l,hl,A,cp,flat,rfl,hown,hone,hlen,hr⟩:=sim.objs r _ ho
      have hcp:xs.length≤cp:=by
       rcases hown.2 with⟨hv,hz⟩|⟨g,cap,cur,hv,_,_,h1,_⟩
       ·injection hv with _ _ e3;omega
       ·injection hv with _ _ e3;omega
      rw[hl]at hm;cases hm
      obtain⟨h0,h1,h2⟩:=of_decide_eq_true hs
      have hfl:0<flat.length:=by
       rw[hown.1];exact Nat.mul_pos (by omega) (by omega)
      obtain⟨b,rfl,hcell⟩:=row_cells hown hfl
      have hBB:=hB (by omega)
      subst hBB
      refine⟨.pointer (some ⟨b,(lo+iv.toNat)*n,none⟩),?_,fun w' _=>?_⟩
      ·have:=VRep.rptr (c:=seen w (st.X m Y)) (m:=m) (n:=r) (k:=n) (i:=lo+iv.toNat) (off:=0) hl
       rwa [Nat.add_zero]at this
      ·simp[execOp,Instr.indexAt,hiv,asIntOf,run_underlying hu,hxv,h0,h1,run_tsz hn,add_at,Nat.add_mul]
     ·cases h
    ·cases h
   ·cases h
  ·rename_i ki iv hne hie
   rw[hie]at hi
   have hiv:=hi.sc_inv
   split at h
   ·rename_i len n nm o ha hxe
    cases h
    obtain⟨e,hu,hn⟩:=arr_under ha
    rw[hxe]at hx
    generalize hxv:a.eval x=xv at hx
    cases hx with|ptr hm=>
    obtain⟨h0,h1⟩:=of_decide_eq_true hs
    exact⟨_,.ptr hm,fun w' _=>by simp[execOp,Instr.indexAt,hiv,asIntOf,run_underlying hu,hxv,Instr.sureAddr,h0,h1,run_tsz hn,add_at]⟩
   ·rename_i len n cs ha hxe
    cases h
    obtain⟨e,hu,hn⟩:=arr_under ha
    rw[hxe]at hx
    generalize hxv:a.eval x=xv at hx
    cases hx with|eptr u ad g0 g1 g2=>
    obtain⟨h0,h1⟩:=of_decide_eq_true hs
    refine⟨_,.eptr (fun j=>u (iv.toNat*n+j)) (ad.add (iv.toNat*n)) (fun j y hy=>g0 _ y (by rw[List.getElem?_drop]at hy;exact hy)) (fun j y hy=>?_) (fun j y hy=>?_),fun w' _=>by simp[execOp,Instr.indexAt,hiv,asIntOf,run_underlying hu,hxv,Instr.sureAddr,h0,h1,run_tsz hn]⟩
    ·rw[List.getElem?_drop]at hy
     rw[add_add']
     exact g1 _ y hy
    ·rw[List.getElem?_drop]at hy
     exact g2 _ y hy
   ·rename_i len n g o ha hxe
    cases h
    obtain⟨e,hu,hn⟩:=arr_under ha
    rw[hxe]at hx
    have hxv:=hx.sc_inv
    obtain⟨h0,h1⟩:=of_decide_eq_true hs
    exact⟨_,.im .sc,fun w' _=>by simp[execOp,Instr.indexAt,hiv,asIntOf,run_underlying hu,hxv,Instr.sureAddr,h0,h1,run_tsz hn,add_at]⟩
   ·cases h
  ·cases h
 ·rename_i x
  have hx:=ev_rep hfr x
  split at h
  all_goals first|(cases h;done)|skip
  all_goals
   rename_i he
   cases h
   rw[he]at hx
   generalize hxv:a.eval x=xv at hx
   refine⟨xv,hx,fun w' _=>?_⟩
   cases hx<;>simp[execOp,hxv]
 ·rename_i t x
  have hx:=ev_rep hfr x
  split at h
  ·rename_i b he
   cases h
   rw[he]at hx
   exact⟨_,.im .sc,fun w' _=>by simp[execOp,hx.sc_inv,Op.unary]⟩
  ·cases h
 ·rename_i t x
  have hx:=ev_rep hfr x
  split at h
  ·rename_i k n he
   cases h
   rw[he]at hx
   exact⟨_,.im .sc,fun w' _=>by simp[execOp,hx.sc_inv,Op.unary,Op.intArith]⟩
  ·cases h
 ·rename_i op t x y ty
  have hx:=ev_rep hfr x
  have hy:=ev_rep hfr y
  unfold aBin at h
  split at h
  ·rename_i k n k' n' hxe hye
   simp only[Option.map_eq_some_iff,Prod.mk.injEq]at h
   obtain⟨⟨s',r'⟩,hb,rfl,rfl⟩:=h
   rw[hxe]at hx;rw[hye]at hy
   exact⟨_,.im .sc,fun w' _=>by simp[execOp,hx.sc_inv,hy.sc_inv,binOp_guard,binI_run hb hs]⟩
  ·rename_i n n' hxe hye
   split at h
   ·rename_i ht
    simp only[Option.map_eq_some_iff,Prod.mk.injEq]at h
    obtain⟨⟨s',r'⟩,hb,rfl,rfl⟩:=h
    rw[hxe]at hx;rw[hye]at hy
    exact⟨_,.im .sc,fun w' _=>by simp[execOp,hx.sc_inv,hy.sc_inv,binOp_guard,binB_run hb hs ht]⟩
   ·cases h
  ·rename_i n n' hxe hye
   simp only[Option.map_eq_some_iff,Prod.mk.injEq]at h
   obtain⟨⟨s',r'⟩,hb,rfl,rfl⟩:=h
   rw[hxe]at hx;rw[hye]at hy
   exact⟨_,.im .sc,fun w' _=>by simp[execOp,hx.sc_inv,hy.sc_inv,binOp_guard,binS_run hb hs]⟩
  ·clear hs
   unfold aBin2 at h
   split at h
   ·simp only[Option.map_eq_some_iff,Prod.mk.injEq]at h
    obtain⟨b,hb,_,rfl⟩:=h
    refine⟨_,.im .sc,fun w' _=>?_⟩
    obtain⟨e1,e2,e3,e4,e5,e6⟩:=nilEq_run hx hy hb .eql (.inl rfl) x y w'
    generalize hxv:a.eval x=u at*
    generalize hyv:a.eval y=v at*
    have hbo:(binOp .eql t u v).run P w'=.ok (.bool b) w':=by
     unfold binOp
     split<;>simp_all
    simp[execOp,hxv,hyv,e2,hbo]
   ·simp only[Option.map_eq_some_iff,Prod.mk.injEq]at h
    obtain⟨b,hb,_,rfl⟩:=h
    refine⟨_,.im .sc,fun w' _=>?_⟩
    obtain⟨e1,e2,e3,e4,e5,e6⟩:=nilEq_run hx hy hb .neq (.inr rfl) x y w'
    generalize hxv:a.eval x=u at*
    generalize hyv:a.eval y=v at*
    have hbo:(binOp .neq t u v).run P w'=.ok (.bool (!b)) w':=by
     unfold binOp
     split<;>simp_all
    simp[execOp,hxv,hyv,e2,hbo]
   ·cases h
 ·rename_i s' d x
  have hx:=ev_rep hfr x
  split at h
  ·rename_i k0 k kn n hsu hd he
   cases h
   rw[he]at hx
   exact⟨_,.im .sc,fun w' _=>by simp[execOp,convert,hx.sc_inv,run_underlying hsu,run_underlying (tint_under hd),Conv.intToInt]⟩
  ·rename_i e _ hsu
   obtain⟨u,h1,h2⟩:=aStr_sound sim hx hsu h
   exact⟨u,h1,fun w' hw=>by simp[execOp,h2 w' hw]⟩
  ·cases h
 ·rename_i t i
  have hx:=ev_rep hfr t
  split at h
  ·rename_i cs he
   split at h
   ·rename_i hc
    cases h
    rw[he]at hx
    generalize hxv:a.eval t=xv at hx
    cases hx with|@tup _ vs hl hr=>
    obtain⟨u,hu⟩:∃u,vs[i]? =some u:=by
     have:=(List.getElem?_eq_some_iff.1 hc).1
     exact⟨vs[i]'(by omega),Array.getElem?_eq_getElem (by omega)⟩
    exact⟨u,hr i _ u hc hu,fun w' _=>by simp[execOp,Instr.extract,hxv,hu]⟩
   ·cases h
  ·cases h
 ·rename_i c
  obtain⟨cal,args,tys⟩:=c
  unfold aCall at h
  split at h
  ·rename_i x t hcal hargs htys
   simp only at hcal hargs htys
   subst hcal
   obtain⟨al⟩:=args
   obtain⟨tl⟩:=tys
   simp only at hargs htys
   subst hargs htys
   have hx:=ev_rep hfr x
   have key:∀(n:Nat) (A:Option Addr) (cp:Nat) (e:TypeId),elt P t=some e→a.eval x=.slice A n cp→
     ∀w',(execOp a.eval ⟨dst,.call ⟨.builtin .len,⟨[x]⟩,⟨[t]⟩⟩,ty,pos,after,guard⟩).run P w'=.ok (.value (.int .i64 n)) w':=by
    intro n A cp e he hv w'
    simp[execOp,resolve,invoke,builtin,Builtin.len_,run_underlying (elt_under he),hv,goInt]
   split at h
   ·rename_i sv hxe
    split at h
    ·rename_i ht
     cases h
     rw[hxe]at hx
     have hu:P.underlying t=some .string:=by
      unfold isStr at ht
      split at ht
      ·assumption
      ·cases ht
     exact⟨_,.im .sc,fun w' _=>by simp[execOp,resolve,invoke,builtin,Builtin.len_,run_underlying hu,hx.sc_inv,goInt]⟩
    ·cases h
   ·rename_i A n cp hxe
    split at h
    ·rename_i ht
     cases h
     rw[hxe]at hx
     obtain⟨e,he⟩:=Option.isSome_iff_exists.1 ht
     exact⟨_,.im .sc,fun w' _=>key _ _ _ e he hx.sc_inv w'⟩
    ·cases h
   ·rename_i k xs hxe
    split at h
    ·rename_i ht
     cases h
     rw[hxe]at hx
     obtain⟨e,he⟩:=Option.isSome_iff_exists.1 ht
     generalize hxv:a.eval x=xv at hx
     cases hx with|im hx=>
     cases hx with|sl u ad hcap hmax hA hk hc hr=>
     exact⟨_,.im .sc,fun w' _=>key _ _ _ e he hxv w'⟩
    ·cases h
   ·rename_i r hxe
    rw[hxe]at hx
    generalize hxv:a.eval x=xv at hx
    cases hx with|row hm=>
    split at h
    ·rename_i e' k xs ho
     split at h
     ·rename_i ht
      cases h
      obtain⟨e,he⟩:=Option.isSome_iff_exists.1 ht
      obtain⟨l,hl,A,cp,flat,rfl,_⟩:=sim.objs r _ ho
      rw[hl]at hm;cases hm
      exact⟨_,.im .sc,fun w' _=>key _ _ _ e he hxv w'⟩
     ·cases h
    ·rename_i k xs ho
     split at h
     ·rename_i ht
      cases h
      obtain⟨e,he⟩:=Option.isSome_iff_exists.1 ht
      obtain⟨l,hl,A,cp,rfl,_⟩:=sim.objs r _ ho
      rw[hl]at hm;cases hm
      exact⟨_,.im .sc,fun w' _=>key _ _ _ e he hxv w'⟩
     ·cases h
    ·rename_i e' k l' c' xs ho
     split at h
     ·rename_i ht
      cases h
      obtain⟨e,he⟩:=Option.isSome_iff_exists.1 ht
      obtain⟨l,hl,A,flat,rfl,_⟩:=sim.objs r _ ho
      rw[hl]at hm;cases hm
      exact⟨_,.im .sc,fun w' _=>key _ _ _ e he hxv w'⟩
     ·cases h
    ·cases h
   ·rename_i n k lo len hxe
    rw[hxe]at hx
    generalize hxv:a.eval x=xv at hx
    cases hx with|sub hm hl hcp=>
    split at h
    ·rename_i ht
     cases h
     obtain⟨e,he⟩:=Option.isSome_iff_exists.1 ht
     exact⟨_,.im .sc,fun w' _=>key _ _ _ e he hxv w'⟩
    ·cases h
   ·rename_i n hxe
    rw[hxe]at hx
    generalize hxv:a.eval x=xv at hx
    cases hx with|@map _ bm hm=>
    split at h
    ·rename_i qe q xs hq ho
     cases h
     obtain⟨kt,hu,hku⟩:=mpOf_under (q:=qe.1) (e:=qe.2) hq
     obtain⟨l,hl,b,es,rfl,hh,hsz,hr⟩:=sim.objs n _ ho
     rw[hl]at hm;cases hm
     refine⟨_,.im .sc,fun w' hw=>?_⟩
     have hh':=(hw bm (Array.getElem?_eq_some_iff.1 hh).1).trans hh
     simp[execOp,resolve,invoke,builtin,hxv,Builtin.len_,run_underlying hu,getObj,Sem.run,hh',hsz,goInt]
    ·cases h
   ·cases h
  ·rename_i x t hcal hargs htys
   simp only at hcal hargs htys
   subst hcal
   obtain⟨al⟩:=args
   obtain⟨tl⟩:=tys
   simp only at hargs htys
   subst hargs htys
   have hx:=ev_rep hfr x
   split at h
   ·rename_i A n c hxe
    split at h
    ·rename_i ht
     cases h
     rw[hxe]at hx
     obtain⟨e,he⟩:=Option.isSome_iff_exists.1 ht
     exact⟨_,.im .sc,fun w' _=>by simp[execOp,resolve,invoke,builtin,Builtin.cap_,run_underlying (elt_under he),hx.sc_inv,goInt]⟩
    ·cases h
   ·rename_i r hxe
    rw[hxe]at hx
    generalize hxv:a.eval x=xv at hx
    cases hx with|row hm=>
    split at h
    ·rename_i e' k l' c' xs ho
     split at h
     ·rename_i ht
      cases h
      obtain⟨e,he⟩:=Option.isSome_iff_exists.1 ht
      obtain⟨l,hl,A,flat,rfl,_⟩:=sim.objs r _ ho
      rw[hl]at hm;cases hm
      exact⟨_,.im .sc,fun w' _=>by simp[execOp,resolve,invoke,builtin,Builtin.cap_,run_underlying (elt_under he),hxv,goInt]⟩
     ·cases h
    ·cases h
   ·cases h
  ·rename_i x y hcal hargs
   simp only at hcal hargs
   subst hcal
   obtain⟨al⟩:=args
   simp only at hargs
   subst hargs
   have hx:=ev_rep hfr x
   have hy:=ev_rep hfr y
   split at h
   ·rename_i k n k' n' hxe hye
    cases h
    rw[hxe]at hx;rw[hye]at hy
    exact⟨_,.im .sc,fun w' _=>by simp[execOp,resolve,invoke,builtin,Builtin.min_,Builtin.min2,hx.sc_inv,hy.sc_inv]⟩
   ·cases h
  ·rename_i x y hcal hargs
   simp only at hcal hargs
   subst hcal
   obtain⟨al⟩:=args
   simp only at hargs
   subst hargs
   have hx:=ev_rep hfr x
   have hy:=ev_rep hfr y
   split at h
   ·rename_i k n k' n' hxe hye
    cases h
    rw[hxe]at hx;rw[hye]at hy
    exact⟨_,.im .sc,fun w' _=>by simp[execOp,resolve,invoke,builtin,Builtin.max_,Builtin.max2,hx.sc_inv,hy.sc_inv]⟩
   ·cases h
  ·cases h
 ·rename_i c x y
  have hc:=ev_rep hfr c
  have hx:=evR_rep hraw x
  have hy:=evR_rep hraw y
  split at h
  ·rename_i t hce
   rw[hce]at hc
   have hcv:=hc.sc_inv
   split at h
   ·rename_i p q hxe hye
    cases h
    rw[hxe]at hx;rw[hye]at hy
    have hxv:=hx.sc_inv
    have hyv:=hy.sc_inv
    refine⟨_,.im .sc,fun w' _=>?_⟩
    cases t<;>simp[execOp,hcv,asBool,pk,hxv,hyv]
   ·rename_i c' p q hxe hye
    cases h
    rw[hxe]at hx;rw[hye]at hy
    have hyv:=hy.sc_inv
    refine⟨_,.im .sc,fun w' _=>?_⟩
    cases t
    ·simp[execOp,hcv,asBool,pk,hyv]
    ·generalize hxv:a.eval x=xv at hx
     cases hx with|cond hx _=>
     have:=(hx (by simpa [impB]using hs)).sc_inv
     simp[execOp,hcv,asBool,pk,hxv,this]
   ·rename_i p c' q hxe hye
    cases h
    rw[hxe]at hx;rw[hye]at hy
    have hxv:=hx.sc_inv
    refine⟨_,.im .sc,fun w' _=>?_⟩
    cases t
    ·generalize hyv:a.eval y=yv at hy
     cases hy with|cond hy _=>
     have:=(hy (by simpa [impB]using hs)).sc_inv
     simp[execOp,hcv,asBool,pk,hyv,this]
    ·simp[execOp,hcv,asBool,pk,hxv]
   ·rename_i c' q hxe hye
    cases h
    rw[hye]at hy
    have hyv:=hy.sc_inv
    refine⟨_,.im .sc,fun w' _=>?_⟩
    cases t
    ·simp[execOp,hcv,asBool,pk,hyv]
    ·cases hs
   ·rename_i p c' hxe hye
    cases h
    rw[hxe]at hx
    have hxv:=hx.sc_inv
    refine⟨_,.im .sc,fun w' _=>?_⟩
    subst hs
    simp[execOp,hcv,asBool,pk,hxv]
   ·cases h
  ·cases h
 ·rename_i t x i
  have hx:=ev_rep hfr x
  have hi:=ev_rep hfr i
  split at h
  ·rename_i sv k iv hxe hie
   split at h
   ·rename_i ht
    cases h
    rw[hxe]at hx;rw[hie]at hi
    have hu:P.underlying t=some .string:=by
     unfold isStr at ht
     split at ht
     ·assumption
     ·cases ht
    obtain⟨h0,h1⟩:=of_decide_eq_true hs
    have hlt:iv.toNat<sv.size:=by omega
    exact⟨_,.im .sc,fun w' _=>by simp[execOp,Instr.index,hi.sc_inv,hx.sc_inv,asIntOf,run_underlying hu,h0,hlt]⟩
   ·cases h
  ·cases h
 ·rename_i t x i ok
  obtain⟨v,h1,h2⟩:=aLook_sound sim hfr h
  exact⟨v,h1,fun w' hw=>by simp[execOp,h2 w' hw]⟩
 ·rename_i x
  obtain⟨v,h1,h2⟩:=aEnt_sound (P:=P) sim hfr h hs
  exact⟨v,h1,fun w' hw=>by simp[execOp,h2 w' hw]⟩
 ·rename_i t x lo hi
  split at h
  ·rename_i n hxe
   have hx:=ev_rep hfr x
   rw[hxe]at hx
   split at h
   ·obtain⟨u,h1,h2⟩:=aSubP_sound sim hfr hx h hs
    exact⟨u,h1,fun w' _=>by simp[execOp,h2 w']⟩
   ·obtain⟨u,h1,h2⟩:=aSub_sound sim hfr hx h hs
    exact⟨u,h1,fun w' _=>by simp[execOp,h2 w']⟩
  ·rename_i n k l0 len hxe
   have hx:=ev_rep hfr x
   rw[hxe]at hx
   obtain⟨u,h1,h2⟩:=aSubP_sound sim hfr hx h hs
   exact⟨u,h1,fun w' _=>by simp[execOp,h2 w']⟩
  ·obtain⟨v,h1,h2⟩:=aVal2_sound (fun t=>hfr t) ⟨dst,.slice t x lo hi none,ty,pos,after,guard⟩ h hs
   exact⟨v,h1,fun w' _=>h2 w'⟩
 ·rename_i t x lo hi mx
  have hx:=ev_rep hfr x
  obtain⟨u,h1,h2⟩:=aSub3_sound sim hfr hx h hs
  exact⟨u,h1,fun w' _=>by simp[execOp,h2 w']⟩
 ·rename_i t x hi mx
  have hx:=ev_rep hfr x
  obtain⟨u,h1,h2⟩:=aCut_sound sim hfr hx h hs
  exact⟨u,h1,fun w' _=>by simp[execOp,h2 w']⟩
 ·obtain⟨v,h1,h2⟩:=aVal2_sound (fun t=>hfr t) ⟨dst,_,ty,pos,after,guard⟩ h hs
  exact⟨v,h1,fun w' _=>h2 w'⟩
end Go.Am
namespace Go.Am
open Go.RowKit
variable {P:Program} {Y:Nat→Prop} {st:St} {m:Nm} {w:World}
theorem ask_drawn {α:Type}:∀(x:Ask α) (w:World),w.drawn≤(w.ask x).2.drawn:=by
 intro x
 induction x with
 |done a=>intro w;exact Nat.le_refl _
 |ask what range k ih=>
  intro w
  simp only[World.ask]
  split
  ·exact ih _ w
  ·have:=ih (w:={w with drawn:=w.drawn+1}) ((Question.extern what range).cut (w.tape w.drawn (Question.extern what range)))
   exact Nat.le_trans (Nat.le_succ _) this
theorem sys_drawn (w:World) (c:Sys):w.drawn≤(w.sys c).2.drawn:=by
 have h:=ask_drawn (Kernel.perform c w.os) w
 unfold World.sys
 split
 ·exact Nat.le_refl _
 ·rename_i r os w' e
  rw[e]at h
  exact h
theorem farStore_drawn {P:Program} {w w':World} {a:Addr} {v:Value} {b:Bool} {l:List Addr} (h:w.farStore P a v b=.ok (w',l)):w'.drawn=w.drawn:=by
 unfold World.farStore at h
 split at h
 ·split at h
  ·rename_i r e
   cases h
   unfold World.viewStore at e
   simp only[bind,Except.bind,pure,Except.pure]at e
   repeat' split at e
   all_goals first|(cases e;rfl)|(cases e;done)|skip
  ·cases h
 ·cases h
theorem sem_drawn {α:Type} {P:Program}:∀(x:Sem α) (w w':World) (v:α),x.run P w=.ok v w'→w.drawn≤w'.drawn:=by
 intro x
 induction x with
 |pure a=>intro w w' v h;simp only[Sem.run]at h;cases h;exact Nat.le_refl _
 |load m a k ih=>
  intro w w' v h
  simp only[Sem.run]at h
  split at h
  ·exact ih _ _ _ _ h
  ·split at h
   ·exact ih _ _ _ _ h
   ·cases h
 |store m a u k ih=>
  intro w w' v h
  unfold Sem.run at h
  split at h
  all_goals first|(simp at h;done)|skip
  all_goals
   rename_i heq
   cases heq<;>skip
  rename_i hw
  split at h
  ·split at h
   ·cases h
   ·have:=ih _ _ _ h
    exact this
  ·split at h
   ·rename_i w2 l e
    have h1:=farStore_drawn e
    have h2:=ih _ _ _ h
    omega
   ·cases h
 |new o k ih=>
  intro w w' v h
  simp only[Sem.run]at h
  have:=ih _ _ _ _ h
  exact this
 |shape r k ih=>intro w w' v h;exact ih _ _ _ _ h
 |freeze a n k ih=>
  intro w w' v h
  simp only[Sem.run]at h
  have:=ih _ _ _ h
  unfold World.freeze at this
  split at this<;>exact this
 |frozen a k ih=>intro w w' v h;exact ih _ _ _ _ h
 |getObj r k ih=>
  intro w w' v h
  simp only[Sem.run]at h
  split at h
  ·cases h
  ·exact ih _ _ _ _ h
  ·cases h
 |setObj r o k ih=>
  intro w w' v h
  simp only[Sem.run]at h
  split at h
  ·cases h
  ·have:=ih _ _ _ h
   exact this
  ·cases h
 |choose q k ih=>
  intro w w' v h
  simp only[Sem.run]at h
  split at h
  ·exact ih _ _ _ _ h
  ·exact Nat.le_trans (Nat.le_succ _) (ih _ _ _ _ h)
 |sys c k ih=>
  intro w w' v h
  simp only[Sem.run]at h
  exact Nat.le_trans (sys_drawn w c) (ih _ _ _ _ h)
 |program k ih=>intro w w' v h;exact ih _ _ _ _ h
 |mark m k ih=>intro w w' v h;exact ih _ _ _ h
 |halt h0=>intro w w' v h;simp only[Sem.run]at h;cases h
theorem Kept.refl (Z:Nat→Prop) (w:World):Kept Z w w:=⟨rfl,rfl,rfl,Nat.le_refl _,Nat.le_refl _,fun _ _ _=>rfl⟩
theorem Kept.trans {Z Z':Nat→Prop} {a b c:World} (h:Kept Z a b) (k:Kept Z' b c) (hz:∀x,x<a.heap.size→Z' x→Z x):Kept Z a c:=
 ⟨k.os.trans h.os,k.tape.trans h.tape,k.output.trans h.output,Nat.le_trans h.drawn k.drawn,Nat.le_trans h.size k.size,fun i hi hn=>(k.block i (Nat.lt_of_lt_of_le hi h.size) (fun e=>hn (hz i hi e))).trans (h.block i hi hn)⟩
structure Env where
 Y:Nat→Prop
 Z:Nat→Prop
 w0:World
 m0:Nm
 sz:Nat
 nodf:Bool:=false
structure SimF (E:Env) (st:St) (m:Nm) (a:Act) (w:World):Prop extends Sim E.Y st m a w where
 kept:Kept E.Z E.w0 w
 mine:∀b,st.owned m b→E.Z b∨E.w0.heap.size≤b
 mext:∀n l,E.m0 n=some l→m n=some l
 ylt:∀b,E.Y b→b<E.w0.heap.size
 esz:st.size=E.sz
 grd:st.grd=none
 dnd:a.defers.Nodup
 dge:∀b,mark b∈a.defers→E.w0.heap.size≤b
 ndf:E.nodf=true→a.defers=[]
theorem SimF.put {E:Env} {a:Act} (h:SimF E st m a w) (d:Option Nat) {r:AV} {v:Value} (hr:VRep m (seen w (st.X m E.Y)) r v):SimF E (st.put d r) m (a.put d v) w where
 toSim:=h.toSim.put d hr
 kept:=h.kept
 mine b hb:=by rw[put_owned]at hb;exact h.mine b hb
 mext:=h.mext
 ylt:=h.ylt
 esz:=by rw[put_size];exact h.esz
 grd:=by rw[put_grd];exact h.grd
 dnd:=by cases d<;>exact h.dnd
 dge:=by cases d<;>exact h.dge
 ndf:=by cases d<;>exact h.ndf
theorem objRep_mono {m m':Nm} {c c':Addr→Value→Prop} {w w':World} {l:Loc} {o:AObj} (hm:∀n l,m n=some l→m' n=some l) (hc:∀p v,c p v→c' p v)
  (hb:∀b,l.own=some b→o.owns=true→w'.heap[b]? =w.heap[b]?) (h:ObjRep m c w l o):ObjRep m' c' w' l o:=by
 cases o with
 |box t cs=>
  obtain⟨b,arr,rfl,hh,hsz,hone,hr⟩:=h
  exact⟨b,arr,rfl,(hb b rfl rfl).trans hh,hsz,hone,fun j y u h1 h2=>(hr j y u h1 h2).mono hm hc⟩
 |row e k xs=>
  obtain⟨A,cp,flat,rfl,hown,hone,hlen,hr⟩:=h
  refine⟨A,cp,flat,rfl,?_,hone,hlen,fun i x j y u h1 h2 h3=>(hr i x j y u h1 h2 h3).mono hc⟩
  obtain⟨h1,h2⟩:=hown
  refine⟨h1,?_⟩
  rcases h2 with h2|⟨g,cap,cur,hv,hg,hh,r⟩
  ·exact .inl h2
  ·refine .inr ⟨g,cap,cur,hv,hg,?_,r⟩
   cases hv
   exact(hb g rfl rfl).trans hh
 |fz k xs=>
  obtain⟨A,cp,rfl,hx⟩:=h
  exact⟨A,cp,rfl,hx.mono hc⟩
 |rowE e k Q=>
  obtain⟨xs,hQ,A,cp,flat,rfl,hown,hone,hlen,hr⟩:=h
  refine⟨xs,hQ,A,cp,flat,rfl,?_,hone,hlen,fun i x j y u h1 h2 h3=>(hr i x j y u h1 h2 h3).mono hc⟩
  obtain⟨h1,h2⟩:=hown
  refine⟨h1,?_⟩
  rcases h2 with h2|⟨g,cap,cur,hv,hg,hh,r⟩
  ·exact .inl h2
  ·refine .inr ⟨g,cap,cur,hv,hg,?_,r⟩
   cases hv
   exact(hb g rfl rfl).trans hh
 |mp q xs=>
  obtain⟨b,es,rfl,hh,hsz,hr⟩:=h
  exact⟨b,es,rfl,(hb b rfl rfl).trans hh,hsz,fun i x e h1 h2=>⟨(hr i x e h1 h2).1,(hr i x e h1 h2).2.1,(hr i x e h1 h2).2.2.mono hm hc⟩⟩
 |it n since seen=>
  obtain⟨b,bm,rfl,hn,hh⟩:=h
  exact⟨b,bm,rfl,hm _ _ hn,(hb b rfl rfl).trans hh⟩
 |lp b r s p=>
  obtain⟨rfl,hh⟩:=h
  exact⟨rfl,(hb b rfl rfl).trans hh⟩
 |sv a fr=>
  obtain⟨h1,h2,h3⟩:=h
  exact⟨h1,fun d hd=>let ⟨b,e,hx⟩:=h2 d hd;⟨b,e,hc _ _ hx⟩,fun s y hy=>(h3 s y hy).mono hm hc⟩
 |rowP e k hl cp xs=>
  obtain⟨A,flat,rfl,hle,hown,hone,hlen,hr⟩:=h
  refine⟨A,flat,rfl,hle,?_,hone,hlen,fun i x j y u h1 h2 h3=>(hr i x j y u h1 h2 h3).mono hc⟩
  obtain⟨h1,h2⟩:=hown
  refine⟨h1,?_⟩
  rcases h2 with h2|⟨g,cap,cur,hv,hg,hh,r⟩
  ·exact .inl h2
  ·refine .inr ⟨g,cap,cur,hv,hg,?_,r⟩
   cases hv
   exact(hb g rfl rfl).trans hh
 |gl gs=>exact⟨h.1,fun g cs hg=>(h.2 g cs hg).mono hm hc⟩
 |gone=>trivial
theorem ownsRow_lt {w:World} {base:Nat} {e:TypeId} {size:Nat} {v:Value} {n:Nat} {xs:List Value} (h:w.ownsRow base e size v n xs):∀k,v.ownBlock=some k→k<w.heap.size:=fun k hk=>(h.lt k hk).2
theorem SimO.owned_lt (h:SimO Y st m w) {b:Nat} (hb:st.owned m b):b<w.heap.size:=by
 obtain⟨n,o,l,h1,h2,h3,h4⟩:=hb
 obtain⟨l',hl',hr⟩:=h.objs n o h1
 rw[h3]at hl';cases hl'
 cases o with
 |box t cs=>
  obtain⟨b',arr,rfl,hh,_⟩:=hr
  cases h4
  exact(Array.getElem?_eq_some_iff.1 hh).1
 |row e k xs=>
  obtain⟨A,cp,flat,rfl,hown,_⟩:=hr
  refine ownsRow_lt hown b ?_
  cases A with
  |none=>cases h4
  |some a=>exact h4
 |rowE e k Q=>
  obtain⟨xs,hQ,A,cp,flat,rfl,hown,_⟩:=hr
  refine ownsRow_lt hown b ?_
  cases A with
  |none=>cases h4
  |some a=>exact h4
 |fz=>cases h2
 |gone=>cases h2
 |mp q xs=>
  obtain⟨b',es,rfl,hh,_⟩:=hr
  cases h4
  exact(Array.getElem?_eq_some_iff.1 hh).1
 |it n since seen=>
  obtain⟨b',bm,rfl,_,hh⟩:=hr
  cases h4
  exact(Array.getElem?_eq_some_iff.1 hh).1
 |lp b' r s p=>
  obtain⟨rfl,hh⟩:=hr
  cases h4
  exact(Array.getElem?_eq_some_iff.1 hh).1
 |sv=>cases h2
 |gl=>cases h2
 |rowP e k hl cp xs=>
  obtain⟨A,flat,rfl,hle,hown,_⟩:=hr
  refine ownsRow_lt hown b ?_
  cases A with
  |none=>cases h4
  |some a=>exact h4
theorem seen_mono {w w':World} {X X':Nat→Prop} (hw:∀b,b<w.heap.size→¬X b→w'.heap[b]? =w.heap[b]?) (hX:∀b,b<w.heap.size→X' b→X b):∀p v,seen w X p v→seen w' X' p v:=by
 intro p v ⟨h1,h2⟩
 have hlt:p.block<w.heap.size:=h1.elim (fun h=>World.block_lt_of_cell? w p h.1) (fun h=>(Array.getElem?_eq_some_iff.1 h.2).1)
 refine⟨h1.imp (fun h1=>⟨(World.cell?_of_block (w:=w) (w':=w') (hw _ hlt h2)).trans h1.1,h1.2⟩) (fun h1=>⟨h1.1,(hw _ hlt h2).trans h1.2⟩),fun h=>h2 (hX _ hlt h)⟩
theorem SimF.grow {E:Env} {a:Act} (h:SimF E st m a w) {w':World} (hb:Below w.heap.size w w') (hdr:w.drawn≤w'.drawn:=by first|exact Nat.le_refl _|assumption|(simp;done)):SimF E st m a w' where
 objs n o hn:=by
  obtain⟨l,hl,hr⟩:=h.objs n o hn
  refine⟨l,hl,objRep_mono (fun _ _ h=>h) (seen_mono (fun b hb' _=>hb.block b hb') (fun _ _ h=>h)) (fun b hbl ho=>?_) hr⟩
  exact hb.block b (h.owned_lt ⟨n,o,l,hn,ho,hl,hbl⟩)
 apart:=h.apart
 foreign:=h.foreign
 fresh:=h.fresh
 defers d hd:=let ⟨b,e,hx⟩:=h.defers d hd;⟨b,e,seen_mono (fun b hb' _=>hb.block b hb') (fun _ _ h=>h) _ _ hx⟩
 size:=h.size
 fr s y hy:=(h.fr s y hy).mono (fun _ _ h=>h) (seen_mono (fun b hb' _=>hb.block b hb') (fun _ _ h=>h))
 kept:=h.kept.trans (Z':=fun _=>False) ⟨hb.os,hb.tape,hb.output,hdr,hb.size,fun b hb' _=>hb.block b hb'⟩ (fun _ _ h=>h.elim)
 mine:=h.mine
 mext:=h.mext
 ylt:=h.ylt
 esz:=h.esz
 grd:=h.grd
 dnd:=h.dnd
 dge:=h.dge
 ndf:=h.ndf
def St.newAt (st:St) (nm nx:Nat) (o:AObj):St:={st with objs:=(nm,o)::st.objs,next:=nx}
theorem new_owned {st:St} {nm nx:Nat} {o:AObj} {m:Nm} {l:Loc} {b:Nat} (hf:m nm=none) (h:(st.newAt nm nx o).owned (fun n=>if n=nm then some l else m n) b):(o.owns=true∧l.own=some b)∨st.owned m b:=by
 obtain⟨n,o',l',h1,h2,h3,h4⟩:=h
 simp only[St.obj,St.newAt,look]at h1
 by_cases e:n=nm
 ·subst e
  simp at h1 h3
  subst h1 h3
  exact .inl ⟨h2,h4⟩
 ·rw[if_neg (fun h=>e h.symm)]at h1
  simp[e]at h3
  exact .inr ⟨n,o',l',h1,h2,h3,h4⟩
theorem SimF.newAt {E:Env} {a:Act} (h:SimF E st m a w) {nm nx:Nat} (hf:m nm=none) (hnx:st.next≤nx) (hnm:nm<nx) {w':World} (hb:Below w.heap.size w w') (o:AObj) (l:Loc) (hl:∀b,l.own=some b→o.owns=true→w.heap.size≤b)
  (hr:∀m' c',(∀n l,m n=some l→m' n=some l)→(∀p v,seen w (st.X m E.Y) p v→c' p v)→ObjRep m' c' w' l o) (hdr:w.drawn≤w'.drawn:=by first|exact Nat.le_refl _|assumption|(simp;done)):
  SimF E (st.newAt nm nx o) (fun n=>if n=nm then some l else m n) a w'∧∀n l',m n=some l'→(fun n=>if n=nm then some l else m n) n=some l':=by
 have hm:∀n l',m n=some l'→(fun n=>if n=nm then some l else m n) n=some l':=by
  intro n l' hn
  have:n≠nm:=by rintro rfl;rw[hf]at hn;cases hn
  simp[this,hn]
 have hX:∀b,b<w.heap.size→(st.newAt nm nx o).X (fun n=>if n=nm then some l else m n) E.Y b→st.X m E.Y b:=by
  intro b hlt hx
  rcases hx with hx|hx
  ·rcases new_owned hf hx with⟨ho,hlb⟩|hx
   ·have:=hl b hlb ho;omega
   ·exact .inl hx
  ·exact .inr hx
 have hc:=seen_mono (w:=w) (w':=w') (fun b hb' (_:¬st.X m E.Y b)=>hb.block b hb') hX
 refine⟨{objs:=?_,apart:=?_,foreign:=?_,fresh:=?_,defers:=fun d hd=>(let ⟨b,e,hx⟩:=h.defers d hd;⟨b,e,hc _ _ hx⟩),size:=h.size,fr:=?_,kept:=(h.grow hb hdr).kept,mine:=?_,mext:=fun n l' hn=>hm n l' (h.mext n l' hn),ylt:=h.ylt,esz:=h.esz,grd:=h.grd,dnd:=h.dnd,dge:=h.dge,ndf:=h.ndf},hm⟩
 ·intro n o' hn
  simp only[St.obj,St.newAt,look]at hn
  by_cases e:n=nm
  ·subst e
   simp at hn
   subst hn
   exact⟨l,by simp,hr _ _ hm hc⟩
  ·rw[if_neg (fun h=>e h.symm)]at hn
   obtain⟨l',hl',hr'⟩:=h.objs n o' hn
   refine⟨l',by simp[e,hl'],objRep_mono hm hc (fun b hbl ho=>hb.block b (h.owned_lt ⟨n,o',l',hn,ho,hl',hbl⟩)) hr'⟩
 ·intro n n' o1 o2 l1 l2 b h1 h2 h3 h4 h5 h6 h7 h8
  simp only[St.obj,St.newAt,look]at h1 h2
  by_cases e:n=nm
  ·by_cases e':n'=nm
   ·rw[e,e']
   ·subst e
    simp at h1 h5
    subst h1 h5
    rw[if_neg (fun h=>e' h.symm)]at h2
    simp[e']at h6
    have:=h.owned_lt ⟨n',o2,l2,h2,h4,h6,h8⟩
    have:=hl b h7 h3
    omega
  ·rw[if_neg (fun h=>e h.symm)]at h1
   simp[e]at h5
   by_cases e':n'=nm
   ·subst e'
    simp at h2 h6
    subst h2 h6
    have:=h.owned_lt ⟨n,o1,l1,h1,h3,h5,h7⟩
    have:=hl b h8 h4
    omega
   ·rw[if_neg (fun h=>e' h.symm)]at h2
    simp[e']at h6
    exact h.apart n n' o1 o2 l1 l2 b h1 h2 h3 h4 h5 h6 h7 h8
 ·intro b hb'
  rcases new_owned hf hb' with⟨ho,hlb⟩|hx
  ·intro hy;have:=hl b hlb ho;have:=h.ylt b hy;have:=h.kept.size;omega
  ·exact h.foreign b hx
 ·intro n hn
  simp only[St.newAt]at hn
  have:n≠nm:=by omega
  simp only[this,if_false]
  exact h.fresh n (by omega)
 ·intro s y hy
  exact(h.fr s y hy).mono hm hc
 ·intro b hb'
  rcases new_owned hf hb' with⟨ho,hlb⟩|hx
  ·right;have:=hl b hlb ho;have:=h.kept.size;omega
  ·exact h.mine b hx
theorem SimF.new {E:Env} {a:Act} (h:SimF E st m a w) {w':World} (hb:Below w.heap.size w w') (o:AObj) (l:Loc) (hl:∀b,l.own=some b→o.owns=true→w.heap.size≤b)
  (hr:∀m' c',(∀n l,m n=some l→m' n=some l)→(∀p v,seen w (st.X m E.Y) p v→c' p v)→ObjRep m' c' w' l o) (hdr:w.drawn≤w'.drawn:=by first|exact Nat.le_refl _|assumption|(simp;done)):
  SimF E (st.new o) (fun n=>if n=st.next then some l else m n) a w'∧∀n l',m n=some l'→(fun n=>if n=st.next then some l else m n) n=some l':=
 h.newAt (nx:=st.next+1) (h.fresh st.next (Nat.le_refl _)) (by omega) (by omega) hb o l hl hr hdr
end Go.Am
namespace Go.Am
open Go.RowKit
variable {P:Program} {E:Env} {st:St} {m:Nm} {w:World} {a:Act}
theorem setObj_obj (st:St) (n:Nat) (o:AObj) (x:Nat):(st.setObj n o).obj x=if n=x then some o else st.obj x:=rfl
theorem setObj_owned {st:St} {n:Nat} {o o':AObj} {m:Nm} (hn:st.obj n=some o) (ho:o.owns=true) (ho':o'.owns=true):(st.setObj n o').owned m=st.owned m:=by
 funext b
 apply propext
 constructor
 ·rintro⟨x,p,l,h1,h2,h3,h4⟩
  rw[setObj_obj]at h1
  split at h1
  ·rename_i e;subst e;cases h1;exact⟨n,o,l,hn,ho,h3,h4⟩
  ·exact⟨x,p,l,h1,h2,h3,h4⟩
 ·rintro⟨x,p,l,h1,h2,h3,h4⟩
  by_cases e:n=x
  ·subst e;exact⟨n,o',l,by simp[setObj_obj],ho',h3,h4⟩
  ·exact⟨x,p,l,by simp[setObj_obj,e,h1],h2,h3,h4⟩
theorem SimF.upd (h:SimF E st m a w) {n:Nat} {o:AObj} {l:Loc} {b:Nat} (hn:st.obj n=some o) (ho:o.owns=true) (hm:m n=some l) (hb:l.own=some b) {w':World}
  (hw:w.grownBy w' (some b)) (o':AObj) (ho':o'.owns=true) (hr:ObjRep m (seen w (st.X m E.Y)) w' l o') (hdr:w.drawn≤w'.drawn:=by first|exact Nat.le_refl _|assumption|(simp;done)):SimF E (st.setObj n o') m a w':=by
 have hown:st.owned m b:=⟨n,o,l,hn,ho,hm,hb⟩
 have hlt:=h.owned_lt hown
 have hX:(st.setObj n o').X m E.Y=st.X m E.Y:=by
  funext x
  show((st.setObj n o').owned m x∨E.Y x)=_
  rw[setObj_owned hn ho ho']
 have hc:∀p v,seen w (st.X m E.Y) p v→seen w' ((st.setObj n o').X m E.Y) p v:=by
  rw[hX]
  refine seen_mono (fun k hk hx=>hw.block k hk ?_) (fun _ _ h=>h)
  intro e
  injection e with e
  subst e
  exact hx (.inl hown)
 exact{
  objs:=by
   intro x p hx
   rw[setObj_obj]at hx
   split at hx
   ·rename_i e
    subst e
    cases hx
    exact⟨l,hm,objRep_mono (fun _ _ h=>h) hc (fun _ _ _=>rfl) hr⟩
   ·rename_i e
    obtain⟨l',hl',hr'⟩:=h.objs x p hx
    refine⟨l',hl',objRep_mono (fun _ _ h=>h) hc (fun k hk hp=>hw.block k (h.owned_lt ⟨x,p,l',hx,hp,hl',hk⟩) ?_) hr'⟩
    intro e'
    injection e' with e'
    subst e'
    exact e (h.apart n x o p l l' k hn hx ho hp hm hl' hb hk)
  apart:=by
   have key:∀x p,(st.setObj n o').obj x=some p→p.owns=true→∃p',st.obj x=some p'∧p'.owns=true:=by
    intro x p hx hp
    rw[setObj_obj]at hx
    split at hx
    ·rename_i e;subst e;exact⟨o,hn,ho⟩
    ·exact⟨p,hx,hp⟩
   intro n1 n2 o1 o2 l1 l2 k h1 h2 h3 h4 h5 h6 h7 h8
   obtain⟨p1,g1,g2⟩:=key n1 o1 h1 h3
   obtain⟨p2,g3,g4⟩:=key n2 o2 h2 h4
   exact h.apart n1 n2 p1 p2 l1 l2 k g1 g3 g2 g4 h5 h6 h7 h8
  foreign:=by rw[setObj_owned hn ho ho'];exact h.foreign
  fresh:=h.fresh
  defers:=fun d hd=>(let ⟨b,e,hx⟩:=h.defers d hd;⟨b,e,hc _ _ hx⟩)
  size:=h.size
  fr:=fun s y hy=>(h.fr s y hy).mono (fun _ _ h=>h) hc
  kept:=h.kept.trans (Z':=fun x=>x=b) ⟨hw.os,hw.tape,hw.output,hdr,hw.size,fun k hk hne=>hw.block k hk (fun e=>hne (by injection e))⟩ (by
   rintro x hx rfl
   rcases h.mine x hown with hz|hz
   ·exact hz
   ·omega)
  mine:=by rw[setObj_owned hn ho ho'];exact h.mine
  mext:=h.mext
  ylt:=h.ylt
  esz:=h.esz
  grd:=h.grd
  dnd:=h.dnd
  dge:=h.dge
  ndf:=h.ndf}
theorem grownBy_setRow (w:World) (g:Nat) (cs:Array Value):w.grownBy (w.setRow g cs) (some g):=
 ⟨rfl,rfl,rfl,by simp,fun k hk hne=>setRow_other w g k _ (fun e=>hne (by rw[e]))⟩
def St.freeze1 (st:St) (n:Nat):St:=
 match st.obj n with
 |some (.row _ k xs)=>st.setObj n (.fz k xs)
 |_=>st
theorem SimF.freeze1 (h:SimF E st m a w) (n:Nat):SimF E (st.freeze1 n) m a w:=by
 unfold St.freeze1
 split
 ·rename_i e k xs hn
  obtain⟨l,hl,A,cp,flat,rfl,hown,hone,hlen,hr⟩:=h.objs n _ hn
  have hsub:∀b,(st.setObj n (.fz k xs)).owned m b→st.owned m b∧∀l',m n=some l'→l'.own≠some b:=by
   rintro b ⟨x,p,l,h1,h2,h3,h4⟩
   rw[setObj_obj]at h1
   split at h1
   ·cases h1;cases h2
   ·rename_i e'
    refine⟨⟨x,p,l,h1,h2,h3,h4⟩,fun l' hl' hb=>?_⟩
    exact e' (h.apart n x _ p l' l b hn h1 rfl h2 hl' h3 hb h4)
  have hc:∀p v,seen w (st.X m E.Y) p v→seen w ((st.setObj n (.fz k xs)).X m E.Y) p v:=
   seen_mono (fun _ _ _=>rfl) (fun b _ hx=>hx.elim (fun hx=>.inl (hsub b hx).1) .inr)
  have hx:IRep (seen w ((st.setObj n (.fz k xs)).X m E.Y)) (.sl k xs) (.slice A xs.length cp):=by
   have hcp:xs.length≤cp∧cp≤maxLen:=by
    rcases hown.2 with⟨hv,h0⟩|⟨g,cap,cur,hv,_,_,h1,h2,_⟩
    ·injection hv with _ _ hv;subst hv;exact⟨by omega,Nat.zero_le _⟩
    ·injection hv with _ _ hv;subst hv;exact⟨h1,h2⟩
   have hfl:flat.length=xs.length*k:=hown.1
   have hbd:∀(i:Nat) (x:List IV) (j:Nat) (y:IV),xs[i]? =some x→x[j]? =some y→i*k+j<flat.length:=by
    intro i x j y hx hy
    have hi:=(List.getElem?_eq_some_iff.1 hx).1
    have hj:=(List.getElem?_eq_some_iff.1 hy).1
    rw[hlen i x hx]at hj
    rw[hfl]
    calc i*k+j<i*k+k:=by omega
     _=(i+1)*k:=by rw[Nat.succ_mul]
     _≤xs.length*k:=Nat.mul_le_mul_right _ hi
   by_cases hz:0<flat.length
   ·obtain⟨b,rfl,hcell⟩:=row_cells hown hz
    refine .sl (fun i j=>flat.getD (i*k+j) Go.undef) ⟨b,0,none⟩ hcp.1 hcp.2 (fun _=>rfl) hlen (fun i x j y h1 h2=>?_) (fun i x j y h1 h2=>?_) (fun i x j y h1 h2=>?_)
    ·have hb:=hbd i x j y h1 h2
     rw[add_at,Nat.zero_add]
     refine⟨.inl ⟨hcell _ _ (by simp[List.getD,List.getElem?_eq_getElem hb]),fun e=>?_⟩,?_⟩
     ·have h1:=hone (flat[i*k+j]) (List.getElem_mem hb)
      simp only[List.getD,List.getElem?_eq_getElem hb,Option.getD_some]at e
      rw[e]at h1;cases h1
     rintro(hx|hx)
     ·exact(hsub b hx).2 _ hl rfl
     ·exact h.foreign b ⟨n,_,_,hn,rfl,hl,rfl⟩ hx
    ·have hb:=hbd i x j y h1 h2
     simp only[List.getD,List.getElem?_eq_getElem hb,Option.getD_some]
     exact hone _ (List.getElem_mem hb)
    ·have hb:=hbd i x j y h1 h2
     exact(hr i x j y _ h1 h2 (by simp[List.getD,List.getElem?_eq_getElem hb])).mono hc
   ·have hA:xs≠[]→A=some (A.getD default):=by
     intro hne
     rcases hown.2 with⟨hv,h0⟩|⟨g,cap,cur,hv,_⟩
     ·exact absurd (List.eq_nil_of_length_eq_zero h0) hne
     ·cases hv;rfl
    exact .sl (fun _ _=>Go.undef) (A.getD default) hcp.1 hcp.2 hA hlen (fun i x j y h1 h2=>absurd (hbd i x j y h1 h2) (by omega)) (fun i x j y h1 h2=>absurd (hbd i x j y h1 h2) (by omega)) (fun i x j y h1 h2=>absurd (hbd i x j y h1 h2) (by omega))
  exact{
   objs:=by
    intro x p hx'
    rw[setObj_obj]at hx'
    split at hx'
    ·rename_i e';subst e';cases hx';exact⟨_,hl,A,cp,rfl,hx⟩
    ·obtain⟨l',hl',hr'⟩:=h.objs x p hx'
     exact⟨l',hl',objRep_mono (fun _ _ h=>h) hc (fun _ _ _=>rfl) hr'⟩
   apart:=by
    intro n1 n2 o1 o2 l1 l2 b h1 h2 h3 h4 h5 h6 h7 h8
    rw[setObj_obj]at h1 h2
    split at h1
    ·cases h1;cases h3
    ·split at h2
     ·cases h2;cases h4
     ·exact h.apart n1 n2 o1 o2 l1 l2 b h1 h2 h3 h4 h5 h6 h7 h8
   foreign:=fun b hb=>h.foreign b (hsub b hb).1
   fresh:=h.fresh
   defers:=fun d hd=>(let ⟨b,e,hx⟩:=h.defers d hd;⟨b,e,hc _ _ hx⟩)
   size:=h.size
   fr:=fun s y hy=>(h.fr s y hy).mono (fun _ _ h=>h) hc
   kept:=h.kept
   mine:=fun b hb=>h.mine b (hsub b hb).1
   mext:=h.mext
   ylt:=h.ylt
   esz:=h.esz
   grd:=h.grd
   dnd:=h.dnd
   dge:=h.dge
   ndf:=h.ndf}
 ·exact h
def St.freeze (st:St):List Nat→St
 |[]=>st
 |n::l=>(st.freeze1 n).freeze l
theorem SimF.freeze (h:SimF E st m a w) (l:List Nat):SimF E (st.freeze l) m a w:=by
 induction l generalizing st with
 |nil=>exact h
 |cons n l ih=>exact ih (h.freeze1 n)
def AV.view1 (st:St):AV→AV
 |.row n=>match st.obj n with
  |some (.fz k xs)=>.im (.sl k xs)
  |_=>.row n
 |.sub n k lo len=>match st.obj n with
  |some (.fz k' xs)=>if k'=k∧lo+len≤xs.length then .im (.sl k ((xs.drop lo).take len))else .sub n k lo len
  |_=>.sub n k lo len
 |a=>a
def AV.view (st:St):AV→AV
 |.agg cs=>.agg (cs.map (AV.view1 st))
 |.tup cs=>.tup (cs.map fun a=>match a with|.agg ds=>.agg (ds.map (AV.view1 st))|a=>a.view1 st)
 |a=>a.view1 st
theorem view1_rep {Y:Nat→Prop} (h:SimO Y st m w) {x:AV} {v:Value} (hx:VRep m (seen w (st.X m Y)) x v):VRep m (seen w (st.X m Y)) (x.view1 st) v:=by
 unfold AV.view1
 split
 ·rename_i n
  split
  ·rename_i k xs hn
   obtain⟨l,hl,A,cp,rfl,hr⟩:=h.objs n _ hn
   cases hx with|row hm=>
   rw[hl]at hm;cases hm
   exact .im hr
  ·exact hx
 ·rename_i n k lo len
  split
  ·rename_i k' xs hn
   split
   ·rename_i hc
    obtain⟨rfl,hle⟩:=hc
    obtain⟨l,hl,A,cp,rfl,hr⟩:=h.objs n _ hn
    cases hx with|@sub _ _ _ _ _ _ _ B hm h1 hB=>
    rw[hl]at hm;cases hm
    cases hr with|@sl _ _ _ _ u ad hcap hmax hA hk hc h1c hrr=>
    have hlen:((xs.drop lo).take len).length=len:=by simp;omega
    have hget:∀(i:Nat) (x:List IV),((xs.drop lo).take len)[i]? =some x→xs[lo+i]? =some x:=by
     intro i x hx
     rw[List.getElem?_take]at hx
     split at hx
     ·rw[List.getElem?_drop]at hx;exact hx
     ·cases hx
    have key:IRep (seen w (st.X m Y)) (.sl k' ((xs.drop lo).take len)) (.slice B ((xs.drop lo).take len).length (cp-lo)):=by
     refine .sl (fun i j=>u (lo+i) j) (ad.add (lo*k')) (by rw[hlen];omega) (by omega) (fun hne=>?_) (fun i x g1=>hk _ x (hget i x g1)) (fun i x j y g1 g2=>?_) (fun i x j y g1 g2=>h1c _ x j y (hget i x g1) g2) (fun i x j y g1 g2=>hrr _ x j y (hget i x g1) g2)
     ·have h3:0<len:=by
       rcases Nat.eq_zero_or_pos len with h4|h4
       ·exact absurd (List.eq_nil_of_length_eq_zero (by omega)) hne
       ·exact h4
      have:=hA (fun e=>by subst e;simp at hle;omega)
      subst this
      rw[hB (by omega)]
      rfl
     ·rw[add_add',show lo*k'+(i*k'+j)=(lo+i)*k'+j by rw[Nat.add_mul];omega]
      exact hc _ x j y (hget i x g1) g2
    rw[hlen]at key
    exact .im key
   ·exact hx
  ·exact hx
 ·exact hx
theorem view_rep {Y:Nat→Prop} (h:SimO Y st m w) {x:AV} {v:Value} (hx:VRep m (seen w (st.X m Y)) x v):VRep m (seen w (st.X m Y)) (x.view st) v:=by
 unfold AV.view
 split
 ·cases hx with|agg hl hr=>
  refine .agg (by simpa using hl) (fun j y u h1 h2=>?_)
  simp at h1
  obtain⟨z,hz,rfl⟩:=h1
  exact view1_rep h (hr j z u hz h2)
 ·cases hx with|tup hl hr=>
  refine .tup (by simpa using hl) (fun j y u h1 h2=>?_)
  simp at h1
  obtain⟨z,hz,rfl⟩:=h1
  have hz':=hr j z u hz h2
  split
  ·cases hz' with|agg hl' hr'=>
   refine .agg (by simpa using hl') (fun j' y' u' h1' h2'=>?_)
   simp at h1'
   obtain⟨z',hz',rfl⟩:=h1'
   exact view1_rep h (hr' j' z' u' hz' h2')
  ·exact view1_rep h hz'
 ·exact view1_rep h hx
theorem SimF.same (h:SimF E st m a w) {st':St} (hfr:∀s,look st'.fr s=look st.fr s) (hob:∀n,st'.obj n=st.obj n) (hn:st.next≤st'.next) (hsz:st'.size=st.size) (hg:st'.grd=none):SimF E st' m a w:=by
 have hown:st'.owned m=st.owned m:=by funext b;simp only[St.owned,hob]
 have hX:st'.X m E.Y=st.X m E.Y:=by funext b;show(st'.owned m b∨E.Y b)=_;rw[hown]
 exact{
  objs:=fun n o hn=>by
   rw[hob]at hn
   have:=h.objs n o hn
   rw[hown]
   exact this
  apart:=fun n n' o o' l l' b h1 h2=>by rw[hob]at h1 h2;exact h.apart n n' o o' l l' b h1 h2
  foreign:=by rw[hown];exact h.foreign
  fresh:=fun n hn'=>h.fresh n (by omega)
  defers:=by rw[hown];exact h.defers
  size:=by rw[hsz];exact h.size
  fr:=fun s y hy=>by rw[hfr]at hy;rw[hown];exact h.fr s y hy
  kept:=h.kept
  mine:=by rw[hown];exact h.mine
  mext:=h.mext
  ylt:=h.ylt
  esz:=hsz.trans h.esz
  grd:=hg
  dnd:=h.dnd
  dge:=h.dge
  ndf:=h.ndf}
end Go.Am
namespace Go.Am
open Go.RowKit
variable {P:Program} {E:Env} {st:St} {m:Nm} {w:World} {a:Act}
def St.stCells (st:St) (addr:AV) (cs:List AV):Option St:=
 match addr with
 |.ptr n off=>match st.obj n with
  |some (.box t old)=>if off+cs.length≤old.length then some (st.setObj n (.box t (old.take off++cs++old.drop (off+cs.length))))else none
  |_=>none
 |_=>none
def aDo (P:Program) (st:St) (o:Oper):Option St:=
 match o.op with
 |.alloc t=>match zcells P t with
  |some zs=>if zs.all Value.oneCell' then some ((st.new (.box t (zs.map fun v=>.im (.sc v)))).put o.dst (.ptr st.next 0))else none
  |none=>none
 |.box t x=>match (st.ev x).cells with
  |some cs=>some ((st.new (.box t cs)).put o.dst (.ptr st.next 0))
  |none=>none
 |.store t x v=>match tsz P t,(st.ev v).cells with
  |some n,some cs=>if cs.length=n then(st.stCells (st.ev x) cs).map fun st'=>st'.put o.dst .undef else none
  |_,_=>none
 |_=>none
theorem SimF.get (h:SimF E st m a w) (t:Nat):VRep m (seen w (st.X m E.Y)) (st.get t) (a.tmps.getD t Go.undef):=get_rep (fun g hg=>by rw[h.grd]at hg;cases hg) h.fr t
theorem wp_of_value {o:Oper} {v:Value} {w':World} {K:Act→World→Prop} {Q:Exit→Act→World→Prop} (h:(execOp a.eval o).run P w=.ok (.value v) w') (hk:K (a.put o.dst v) w'):o.wp P a w K Q:=by
 unfold Oper.wp;rw[h];exact hk
theorem wp_of_skip {o:Oper} {w':World} {K:Act→World→Prop} {Q:Exit→Act→World→Prop} (h:(execOp a.eval o).run P w=.ok .skip w') (hk:K (a.put o.dst Go.undef) w'):o.wp P a w K Q:=by
 unfold Oper.wp;rw[h];exact hk
theorem below_alloc1 (w:World) (o:Obj):Below w.heap.size w (w.alloc o):=(Below.refl _ _).alloc (Nat.le_refl _) o
theorem SimF.newBox (h:SimF E st m a w) (t:TypeId) {cs:List AV} {arr:Array Value} (hsz:arr.size=cs.length) (hone:∀u,u∈arr→u.oneCell'=true)
  (hr:∀(j:Nat) (y:AV) (u:Value),cs[j]? =some y→arr[j]? =some u→VRep m (seen w (st.X m E.Y)) y u) (d:Option Nat):
  ∃m',SimF E ((st.new (.box t cs)).put d (.ptr st.next 0)) m' (a.put d (.pointer (some ⟨w.heap.size,0,none⟩))) (w.alloc (.cells arr t)):=by
 obtain⟨h1,h2⟩:=h.new (below_alloc1 w (.cells arr t)) (.box t cs) (.blk w.heap.size) (fun b hb _=>by cases hb;exact Nat.le_refl _)
  (fun m' c' hm hc=>⟨w.heap.size,arr,rfl,heap_alloc_new w _,hsz,hone,fun j y u g1 g2=>(hr j y u g1 g2).mono hm hc⟩)
 exact⟨_,h1.put d (.ptr (by simp))⟩
theorem aDo_sound {o:Oper} {st':St} {K:Act→World→Prop} {Q:Exit→Act→World→Prop} (h:SimF E st m a w) (hd:aDo P st o=some st')
  (hk:∀m' a' w',SimF E st' m' a' w'→K a' w'):o.wp P a w K Q:=by
 obtain⟨dst,op,ty,pos,after,guard⟩:=o
 have hget:=h.get
 unfold aDo at hd
 split at hd
 ·rename_i t hop
  simp only at hop
  subst hop
  split at hd
  ·rename_i zs hz
   split at hd
   ·rename_i hall
    cases hd
    simp only[zcells,Option.map_eq_some_iff,Option.bind_eq_some_iff]at hz
    obtain⟨z,⟨i,hi,hz⟩,rfl⟩:=hz
    obtain⟨m',hs⟩:=h.newBox t (cs:=z.cells.toList.map fun v=>.im (.sc v)) (arr:=z.cells) (by simp) (fun u hu=>List.all_eq_true.1 hall u (by simpa using hu)) (fun j y u h1 h2=>by
     simp at h1
     obtain⟨x,hx,rfl⟩:=h1
     rw[hx]at h2;cases h2
     exact .im .sc) dst
    refine wp_of_value (v:=.pointer (some ⟨w.heap.size,0,none⟩)) (w':=w.alloc (.cells z.cells t)) ?_ (hk _ _ _ hs)
    simp[execOp,Instr.alloc,zeroValue,typeInfo,hi,hz,newVar,newRow]
   ·cases hd
  ·cases hd
 ·rename_i t x hop
  simp only at hop
  subst hop
  split at hd
  ·rename_i cs hc
   cases hd
   obtain⟨g1,g2,g3⟩:=cells_rep (ev_rep hget x) hc
   obtain⟨m',hs⟩:=h.newBox t g1 g2 g3 dst
   refine wp_of_value (v:=.pointer (some ⟨w.heap.size,0,none⟩)) (w':=w.alloc (.cells (a.eval x).cells t)) ?_ (hk _ _ _ hs)
   simp[execOp,Instr.box,newVar,newRow]
  ·cases hd
 ·rename_i t x v hop
  simp only at hop
  subst hop
  split at hd
  ·rename_i n cs hn hc
   split at hd
   ·rename_i hlen
    simp only[Option.map_eq_some_iff]at hd
    obtain⟨st1,hd,rfl⟩:=hd
    obtain⟨g1,g2,g3⟩:=cells_rep (ev_rep hget v) hc
    have hx:=ev_rep hget x
    generalize hxv:a.eval x=xv at hx
    unfold St.stCells at hd
    split at hd
    ·rename_i nm off hxe
     rw[hxe]at hx
     cases hx with|@ptr _ _ b hm=>
     split at hd
     ·rename_i t' old ho
      split at hd
      ·rename_i hfit
       cases hd
       obtain⟨l,hl,b',arr,rfl,hh,hsz,hone,hr⟩:=h.objs nm _ ho
       rw[hl]at hm;cases hm
       have hst:=run_storeCells_at P b off t' (a.eval v).cells.toList 0 arr w hh (by simp;omega) (by simpa using g2)
       simp only[Nat.add_zero,Array.length_toList]at hst
       have hs:=h.upd (w':=w.setRow b (arr.toList.take off++(a.eval v).cells.toList++arr.toList.drop (off+(a.eval v).cells.size)).toArray) ho rfl hl rfl (grownBy_setRow _ _ _)
        (.box t' (old.take off++cs++old.drop (off+cs.length))) rfl ⟨b,_,rfl,setRow_heap w b arr _ t' _ hh,by simp;omega,?_,?_⟩
       ·refine wp_of_skip (w':=_) ?_ (hk _ _ _ (hs.put dst (v:=Go.undef) .undef))
        simp[execOp,Instr.storeAt,hxv,Instr.sureAddr,storeVar,g1,hlen,run_tsz hn,hst]
       ·intro u hu
        simp only[List.mem_toArray,List.mem_append]at hu
        rcases hu with(hu|hu)|hu
        ·exact hone u (by simpa using List.mem_of_mem_take hu)
        ·exact g2 u (by simpa using hu)
        ·exact hone u (by simpa using List.mem_of_mem_drop hu)
       ·intro j y u h1 h2
        simp only[List.getElem?_toArray]at h2
        rw[List.getElem?_append,List.getElem?_append]at h1 h2
        simp only[List.length_append,List.length_take,Array.length_toList,hsz,g1,Nat.min_eq_left (show off≤old.length by omega)]at h1 h2
        split at h1
        ·rename_i hj
         rw[if_pos hj]at h2
         split at h1
         ·rename_i hj'
          rw[if_pos hj']at h2
          rw[List.getElem?_take,if_pos hj']at h1 h2
          exact hr j y u h1 (by simpa using h2)
         ·rename_i hj'
          rw[if_neg hj']at h2
          exact g3 _ y u h1 (by simpa using h2)
        ·rename_i hj
         rw[if_neg hj]at h2
         rw[List.getElem?_drop]at h1 h2
         exact hr _ y u h1 (by simpa using h2)
      ·cases hd
     ·cases hd
    ·cases hd
   ·cases hd
  ·cases hd
 ·cases hd
end Go.Am
namespace Go.Am
open Go.RowKit
variable {P:Program} {E:Env} {st:St} {m:Nm} {w:World} {a:Act}
def imL:List AV→Option (List IV)
 |[]=>some []
 |.im x::l=>(imL l).map (x::·)
 |_::_=>none
mutual
def AV.rows:AV→List Nat
 |.row n=>[n]
 |.sub n _ _ _=>[n]
 |.cut n _=>[n]
 |.agg cs|.tup cs=>AV.rowsL cs
 |_=>[]
def AV.rowsL:List AV→List Nat
 |[]=>[]
 |a::l=>a.rows++AV.rowsL l
end
def AV.ivs (st:St) (x:AV):Option (List IV):=
 match (x.view st).cells with
 |some cs=>imL cs
 |none=>none
def elems (st:St) (k len:Nat):List (Nat×Operand)→Nat→Option (List (List IV))
 |[],i=>if i=len then some []else none
 |(j,x)::rest,i=>if j=i then match (st.ev x).ivs st with
   |some c=>if c.length=k then(elems st k len rest (i+1)).map (c::·)else none
   |none=>none
  else none
def byt (P:Program) (t:TypeId):Option Nat:=(P.info? t).map (·.bytes)
def rowOf (st:St) (e k:Nat):AV→Option (List (List IV)×Option Nat)
 |.im (.sc (.slice none 0 0))=>some ([],none)
 |.row n=>match st.obj n with
  |some (.row e' k' xs)=>if e'=e∧k'=k then some (xs,some n)else none
  |_=>none
 |_=>none
def srcOf (st:St) (k:Nat) (ban:Option Nat):AV→Option (List (List IV))
 |.im (.sc (.slice none 0 0))=>some []
 |.im (.sc (.slice _ 0 _))=>some []
 |.im (.sl k' ys)=>if k'=k then some ys else none
 |.row n=>if ban=some n then none else match st.obj n with
  |some (.row _ k' ys)=>if k'=k then some ys else none
  |some (.fz k' ys)=>if k'=k then some ys else none
  |_=>none
 |_=>none
def dropO (st:St):Option Nat→St
 |some n=>st.setObj n .gone
 |none=>st
def aEff (P:Program) (st:St) (o:Oper):Option (Bool×St):=
 match o.op with
 |.buildSlice t len parts=>match elt P t with
  |some e=>match tsz P e,zcells P e with
   |some k,some zs=>
    let st1:=st.freeze (parts.toList.flatMap fun p=>(st.ev p.2).rows)
    if zs.length=k∧0<k∧len*k≤16777216 then match elems st1 k len parts.toList 0 with
     |some xs=>some (true,(st1.new (.row e k xs)).put o.dst (.row st1.next))
     |none=>none
    else none
   |_,_=>none
  |none=>none
 |.makeSlice t l c=>match elt P t with
  |some e=>match tsz P e,zcells P e,byt P e,st.ev l,st.ev c with
   |some k,some zs,some by',.im (.sc (.int _ lv)),.im (.sc (.int _ cv))=>
    if zs.length=k∧zs.all Value.oneCell' then
     some (decide (lv=cv∧0≤lv∧by'*lv.toNat≤140737488355328∧lv.toNat≤maxLen),(st.new (.row e k (List.replicate lv.toNat (zs.map .sc)))).put o.dst (.row st.next))
    else none
   |_,_,_,_,_=>none
  |none=>none
 |.store t x v=>match st.ev x with
  |.rptr n k i off=>
   let st1:=st.freeze (st.ev v).rows
   match st1.obj n,tsz P t,(st1.ev v).ivs st1 with
   |some (.row e k2 xs),some sz,some cs=>if k=k2∧cs.length=sz∧off+sz≤k then
     some (decide (i<xs.length),(st1.setObj n (.row e k (xs.modify i fun x=>x.take off++cs++x.drop (off+sz)))).put o.dst .undef)
    else none
   |_,_,_=>none
  |_=>none
 |.call c=>match c.callee,c.args.toList,c.argTypes.toList with
  |.builtin .append,[s,x],[t,t']=>if t=t' then match elt P t with
   |some e=>match tsz P e,zcells P e,byt P e with
    |some k,some zs,some by'=>
     if zs.length=k∧0<k then match rowOf st e k (st.ev s)with
      |some (xs,ban)=>match srcOf st k ban (st.ev x)with
       |some ys=>some (decide ((xs.length+ys.length)*by'≤140737488355328∧xs.length+ys.length≤maxLen),((dropO st ban).new (.row e k (xs++ys))).put o.dst (.row st.next))
       |none=>none
      |none=>none
     else none
    |_,_,_=>none
   |none=>none
   else none
  |_,_,_=>none
 |_=>none
theorem SimF.swap (h:SimF E st m a w) {n:Nat} {o:AObj} {l:Loc} (hn:st.obj n=some o) (ho:o.owns=true) (hm:m n=some l) {w':World} (hw:w.grownBy w' l.own) (o':AObj) (ho':o'.owns=true) (l':Loc)
  (hl':l'.own=l.own∨l'.own=some w.heap.size)
  (hr:∀m' c',(∀p v,seen w (st.X m E.Y) p v→c' p v)→ObjRep m' c' w' l' o') (hdr:w.drawn≤w'.drawn:=by first|exact Nat.le_refl _|assumption|(simp;done)):
  SimF E ((st.setObj n .gone).new o') (fun x=>if x=st.next then some l' else m x) a w':=by
 have hfr:m st.next=none:=h.fresh _ (Nat.le_refl _)
 have hmm:∀x q,m x=some q→(fun x=>if x=st.next then some l' else m x) x=some q:=by
  intro x q hx
  have:x≠st.next:=by rintro rfl;rw[hfr]at hx;cases hx
  simp[this,hx]
 have hnl:n<st.next:=by
  rcases Nat.lt_or_ge n st.next with h1|h1
  ·exact h1
  ·rw[h.fresh n h1]at hm;cases hm
 have hown:∀b,l.own=some b→st.owned m b:=fun b hb=>⟨n,o,l,hn,ho,hm,hb⟩
 have hobj:∀x p,((st.setObj n .gone).new o').obj x=some p→(x=st.next∧p=o')∨(x≠st.next∧(x=n∧p=.gone∨x≠n∧st.obj x=some p)):=by
  intro x p hx
  simp only[St.new,St.obj,look]at hx
  split at hx
  ·rename_i e
   cases hx
   exact .inl ⟨e.symm,rfl⟩
  ·rename_i e
   have h2:(st.setObj n .gone).obj x=some p:=hx
   rw[setObj_obj]at h2
   split at h2
   ·rename_i hx'
    cases h2
    exact .inr ⟨fun h=>e h.symm,.inl ⟨hx'.symm,rfl⟩⟩
   ·rename_i hx'
    exact .inr ⟨fun h=>e h.symm,.inr ⟨fun h=>hx' h.symm,h2⟩⟩
 have hobjO:∀x p,((st.setObj n .gone).new o').obj x=some p→p.owns=true→(x=st.next∧p=o')∨(x≠st.next∧x≠n∧st.obj x=some p):=by
  intro x p hx hp
  rcases hobj x p hx with h1|⟨e1,⟨e2,rfl⟩|h2⟩
  ·exact .inl h1
  ·cases hp
  ·exact .inr ⟨e1,h2⟩
 have hne:∀x p q b,x≠n→st.obj x=some p→p.owns=true→m x=some q→q.own=some b→l.own≠some b:=by
  intro x p q b hx h1 h2 h3 h4 h5
  exact hx (h.apart x n p o q l b h1 hn h2 ho h3 hm h4 h5)
 have hX:∀b,b<w.heap.size→((st.setObj n .gone).new o').X (fun x=>if x=st.next then some l' else m x) E.Y b→st.X m E.Y b:=by
  rintro b hlt (⟨x,p,q,h1,h2,h3,h4⟩|hx)
  ·rcases hobjO x p h1 h2 with⟨rfl,rfl⟩|⟨e1,e2,h5⟩
   ·simp at h3
    subst h3
    rcases hl' with e|e
    ·exact .inl (hown b (by rw[←e];exact h4))
    ·rw[e]at h4;cases h4;omega
   ·simp[e1]at h3
    exact .inl ⟨x,p,q,h5,h2,h3,h4⟩
  ·exact .inr hx
 have hblk:∀b,b<w.heap.size→¬st.X m E.Y b→w'.heap[b]? =w.heap[b]?:=by
  intro b hb hx
  refine hw.block b hb ?_
  intro e
  exact hx (.inl (hown b e.symm))
 have hc:=seen_mono (w:=w) (w':=w') hblk hX
 exact{
  objs:=by
   intro x p hx
   rcases hobj x p hx with⟨rfl,rfl⟩|⟨e1,⟨e2,rfl⟩|⟨e2,h5⟩⟩
   rotate_left
   ·exact⟨l,by subst e2;exact hmm _ _ hm,trivial⟩
   rotate_left
   ·exact⟨l',by simp,hr _ _ hc⟩
   ·obtain⟨q,hq,hrq⟩:=h.objs x p h5
    refine⟨q,by simp[e1,hq],objRep_mono hmm hc (fun b hb hp=>?_) hrq⟩
    refine hw.block b (h.owned_lt ⟨x,p,q,h5,hp,hq,hb⟩) ?_
    intro e
    exact hne x p q b e2 h5 hp hq hb e.symm
  apart:=by
   intro n1 n2 o1 o2 l1 l2 b h1 h2 h3 h4 h5 h6 h7 h8
   have new_old:∀x p q b,x≠st.next→x≠n→st.obj x=some p→p.owns=true→m x=some q→q.own=some b→l'.own=some b→False:=by
    intro x p q b e1 e2 g1 g2 g3 g4 g5
    rcases hl' with e|e
    ·exact hne x p q b e2 g1 g2 g3 g4 (by rw[←e];exact g5)
    ·rw[e]at g5
     cases g5
     have:=h.owned_lt ⟨x,p,q,g1,g2,g3,g4⟩
     omega
   rcases hobjO n1 o1 h1 h3 with⟨rfl,rfl⟩|⟨e1,e2,g1⟩<;>rcases hobjO n2 o2 h2 h4 with⟨rfl,rfl⟩|⟨e3,e4,g2⟩
   ·rfl
   ·simp at h5;subst h5
    simp[e3]at h6
    exact(new_old n2 o2 l2 b e3 e4 g2 h4 h6 h8 h7).elim
   ·simp at h6;subst h6
    simp[e1]at h5
    exact(new_old n1 o1 l1 b e1 e2 g1 h3 h5 h7 h8).elim
   ·simp[e1]at h5
    simp[e3]at h6
    exact h.apart n1 n2 o1 o2 l1 l2 b g1 g2 h3 h4 h5 h6 h7 h8
  foreign:=by
   rintro b ⟨x,p,q,h1,h2,h3,h4⟩ hy
   rcases hobjO x p h1 h2 with⟨rfl,rfl⟩|⟨e1,e2,h5⟩
   ·simp at h3
    subst h3
    rcases hl' with e|e
    ·exact h.foreign b (hown b (by rw[←e];exact h4)) hy
    ·rw[e]at h4;cases h4
     have:=h.ylt _ hy
     have:=h.kept.size
     omega
   ·simp[e1]at h3
    exact h.foreign b ⟨x,p,q,h5,h2,h3,h4⟩ hy
  fresh:=by
   intro x hx
   simp only[St.new,St.setObj]at hx
   have:x≠st.next:=by omega
   simp only[this,if_false]
   exact h.fresh x (by omega)
  defers:=fun d hd=>(let ⟨b,e,hx⟩:=h.defers d hd;⟨b,e,hc _ _ hx⟩)
  size:=h.size
  fr:=fun s y hy=>(h.fr s y hy).mono hmm hc
  kept:=h.kept.trans (Z':=fun x=>l.own=some x) ⟨hw.os,hw.tape,hw.output,hdr,hw.size,fun k hk hne=>hw.block k hk (fun e=>hne e.symm)⟩ (by
   rintro x hx hl
   rcases h.mine x (hown x hl)with hz|hz
   ·exact hz
   ·omega)
  mine:=by
   rintro b ⟨x,p,q,h1,h2,h3,h4⟩
   rcases hobjO x p h1 h2 with⟨rfl,rfl⟩|⟨e1,e2,h5⟩
   ·simp at h3
    subst h3
    rcases hl' with e|e
    ·exact h.mine b (hown b (by rw[←e];exact h4))
    ·rw[e]at h4;cases h4
     right
     exact h.kept.size
   ·simp[e1]at h3
    exact h.mine b ⟨x,p,q,h5,h2,h3,h4⟩
  mext:=fun x q hx=>hmm x q (h.mext x q hx)
  ylt:=h.ylt
  esz:=h.esz
  grd:=h.grd
  dnd:=h.dnd
  dge:=h.dge
  ndf:=h.ndf}
theorem imL_get:∀(l:List AV) (xs:List IV),imL l=some xs→l=xs.map .im
 |[],xs,h=>by cases h;rfl
 |.im x::l,xs,h=>by
  simp only[imL,Option.map_eq_some_iff]at h
  obtain⟨ys,hy,rfl⟩:=h
  rw[imL_get l ys hy];rfl
 |.eptr _::_,xs,h=>by cases h
 |.rptr _ _ _ _::_,xs,h=>by cases h
 |.ptr _ _::_,xs,h=>by cases h
 |.row _::_,xs,h=>by cases h
 |.agg _::_,xs,h=>by cases h
 |.tup _::_,xs,h=>by cases h
 |.fn _ _::_,xs,h=>by cases h
 |.map _::_,xs,h=>by cases h
 |.yld _::_,xs,h=>by cases h
 |.sub _ _ _ _::_,xs,h=>by cases h
 |.cut _ _::_,xs,h=>by cases h
 |.cond _ _::_,xs,h=>by cases h
 |.undef::_,xs,h=>by cases h
theorem ivs_rep {Y:Nat→Prop} (h:SimO Y st m w) {x:AV} {v:Value} (hx:VRep m (seen w (st.X m Y)) x v) {cs:List IV} (hc:x.ivs st=some cs):
  v.cells.size=cs.length∧(∀u,u∈v.cells→u.oneCell'=true)∧∀(j:Nat) (y:IV) (u:Value),cs[j]? =some y→v.cells[j]? =some u→IRep (seen w (st.X m Y)) y u:=by
 unfold AV.ivs at hc
 split at hc
 ·rename_i ds hd
  have:=imL_get _ _ hc
  subst this
  obtain⟨g1,g2,g3⟩:=cells_rep (view_rep h hx) hd
  refine⟨by simpa using g1,g2,fun j y u h1 h2=>?_⟩
  have:=g3 j (.im y) u (by simp[h1]) h2
  cases this with|im h=>exact h
 ·cases hc
end Go.Am
namespace Go.Am
open Go.RowKit
variable {P:Program} {E:Env} {st:St} {m:Nm} {w:World} {a:Act}
theorem fill_seq {k len:Nat}:∀(l:List (Nat×Value)) (i:Nat) (us:Array Value),us.size=len*k→(∀(j:Nat) (p:Nat×Value),l[j]? =some p→p.1=i+j∧p.2.cells.size=k)→i+l.length=len→
  ∃us',Instr.fill (fun i=>some (i*k,k)) us l=some us'∧us'.size=len*k∧∀j,j<len*k→us'[j]? =if j<i*k then us[j]? else(l.flatMap (·.2.cells.toList))[j-i*k]?
 |[],i,us,hs,hp,hl=>by
  refine⟨us,rfl,hs,fun j hj=>?_⟩
  simp at hl
  subst hl
  rw[if_pos hj]
 |(i,v)::l,i0,us,hs,hp,hl=>by
  obtain⟨rfl,hv⟩:=hp 0 _ rfl
  simp only[Nat.add_zero]at hv hl⊢
  have hile:i*k+k≤len*k:=by rw[←Nat.succ_mul];exact Nat.mul_le_mul_right _ (by simp at hl;omega)
  obtain⟨f1,f2⟩:=fold_set (i*k) v.cells.toList 0 us
  have hfold:(v.cells.zipIdx.foldl (fun cs (p:Value×Nat)=>cs.setIfInBounds (i*k+p.2) p.1) us)=(v.cells.toList.zipIdx 0).foldl (fun cs (p:Value×Nat)=>cs.setIfInBounds (i*k+p.2) p.1) us:=by
   rw[←Array.foldl_toList,Array.toList_zipIdx]
  obtain⟨us',r1,r2,r3⟩:=fill_seq l (i+1) ((v.cells.toList.zipIdx 0).foldl (fun cs (p:Value×Nat)=>cs.setIfInBounds (i*k+p.2) p.1) us) (by rw[f1,hs]) (fun j p hj=>by
   have:=hp (j+1) p (by simpa using hj)
   exact⟨by omega,this.2⟩) (by simp at hl;omega)
  refine⟨us',?_,r2,fun j hj=>?_⟩
  ·simp only[Instr.fill]
   rw[if_neg (by simp;omega)]
   rw[←hfold]at r1
   exact r1
  ·rw[r3 j hj,Nat.succ_mul]
   simp only[List.flatMap_cons]
   by_cases h1:j<i*k
   ·rw[if_pos (by omega),if_pos h1,f2 j (by omega)]
    simp only[Nat.add_zero,Array.length_toList,hv]
    rw[if_neg (by omega)]
   ·rw[if_neg h1]
    by_cases h2:j<i*k+k
    ·rw[if_pos h2,f2 j (by omega)]
     simp only[Nat.add_zero,Array.length_toList,hv]
     rw[if_pos (by omega),List.getElem?_append_left (by simp;omega)]
    ·rw[if_neg h2,List.getElem?_append_right (by simp;omega)]
     simp only[Array.length_toList,hv]
     congr 1
     omega
theorem elems_rep {Y:Nat→Prop} (h:SimO Y st m w) {ρ:Operand→Value} (hev:∀x,VRep m (seen w (st.X m Y)) (st.ev x) (ρ x)) {k len:Nat}:∀(l:List (Nat×Operand)) (i:Nat) (xs:List (List IV)),elems st k len l i=some xs→
  i+l.length=len∧(∀(j:Nat) (p:Nat×Operand),l[j]? =some p→p.1=i+j∧(ρ p.2).cells.size=k)∧xs.length=l.length∧(∀(j:Nat) (x:List IV),xs[j]? =some x→x.length=k)∧
  (∀u∈(l.flatMap fun p=>(ρ p.2).cells.toList),u.oneCell'=true)∧
  ∀(i:Nat) (x:List IV) (j:Nat) (y:IV) (u:Value),xs[i]? =some x→x[j]? =some y→(l.flatMap fun p=>(ρ p.2).cells.toList)[i*k+j]? =some u→IRep (seen w (st.X m Y)) y u
 |[],i,xs,hx=>by
  unfold elems at hx
  split at hx
  ·cases hx;subst_vars;simp
  ·cases hx
 |(i',x)::l,i,xs,hx=>by
  unfold elems at hx
  split at hx
  ·rename_i e
   subst e
   split at hx
   ·rename_i c hc
    split at hx
    ·rename_i hk
     simp only[Option.map_eq_some_iff]at hx
     obtain⟨ys,hy,rfl⟩:=hx
     obtain⟨g1,g2,g3⟩:=ivs_rep h (hev x) hc
     obtain⟨r1,r2,r3,r4,r5,r6⟩:=elems_rep h hev l (i'+1) ys hy
     refine⟨by simp;omega,fun j p hj=>?_,by simp[r3],fun j z hj=>?_,fun u hu=>?_,fun i z j y u h1 h2 h3=>?_⟩
     ·cases j with
      |zero=>simp at hj;subst hj;exact⟨rfl,by rw[g1,hk]⟩
      |succ j=>
       have:=r2 j p (by simpa using hj)
       exact⟨by omega,this.2⟩
     ·cases j with
      |zero=>simp at hj;subst hj;exact hk
      |succ j=>exact r4 j z (by simpa using hj)
     ·simp only[List.flatMap_cons,List.mem_append]at hu
      rcases hu with hu|hu
      ·exact g2 u (by simpa using hu)
      ·exact r5 u hu
     ·simp only[List.flatMap_cons]at h3
      cases i with
      |zero=>
       simp at h1;subst h1
       have hj:j<k:=by have:=(List.getElem?_eq_some_iff.1 h2).1;omega
       rw[Nat.zero_mul,Nat.zero_add,List.getElem?_append_left (by simp;omega)]at h3
       exact g3 j y u h2 (by simpa using h3)
      |succ i=>
       have h1:ys[i]? =some z:=by simpa using h1
       rw[List.getElem?_append_right (by simp[Nat.succ_mul];omega)]at h3
       refine r6 i z j y u h1 h2 ?_
       rw[←h3]
       congr 1
       simp only[Array.length_toList,g1,hk,Nat.succ_mul]
       omega
    ·cases hx
   ·cases hx
  ·cases hx
theorem byt_of {t:TypeId} {n:Nat} (h:byt P t=some n):∃i,P.info? t=some i∧i.bytes=n:=by
 simpa [byt]using h
theorem zcells_of {t:TypeId} {zs:List Value} (h:zcells P t=some zs):∃i z,P.info? t=some i∧i.zero=some z∧z.cells.toList=zs:=by
 simp only[zcells,Option.map_eq_some_iff,Option.bind_eq_some_iff]at h
 obtain⟨z,⟨i,hi,hz⟩,he⟩:=h
 exact⟨i,z,hi,hz,he⟩
theorem tsz_of {t:TypeId} {n:Nat} (h:tsz P t=some n):∃i,P.info? t=some i∧i.size=n:=by
 simpa [tsz]using h
theorem below_grown {w w':World} (h:w.grownBy w' none):Below w.heap.size w w':=⟨h.os,h.tape,h.output,h.size,fun k hk=>h.block k hk (by simp)⟩
theorem SimF.newRow (h:SimF E st m a w) {e:TypeId} {k:Nat} {xs:List (List IV)} {w':World} {cap:Nat} {flat:List Value} (hw:w.grownBy w' none) (hown:w'.ownsRow 0 e k (.slice (some ⟨w.heap.size,0,none⟩) xs.length cap) xs.length flat)
  (hone:∀u,u∈flat→u.oneCell'=true) (hlen:∀(i:Nat) (x:List IV),xs[i]? =some x→x.length=k)
  (hr:∀c',(∀p v,seen w (st.X m E.Y) p v→c' p v)→∀(i:Nat) (x:List IV) (j:Nat) (y:IV) (u:Value),xs[i]? =some x→x[j]? =some y→flat[i*k+j]? =some u→IRep c' y u) (d:Option Nat) (hdr:w.drawn≤w'.drawn:=by first|exact Nat.le_refl _|assumption|(simp;done)):
  ∃m',SimF E ((st.new (.row e k xs)).put d (.row st.next)) m' (a.put d (.slice (some ⟨w.heap.size,0,none⟩) xs.length cap)) w':=by
 obtain⟨h1,h2⟩:=h.new (below_grown hw) (.row e k xs) (.hdr (some ⟨w.heap.size,0,none⟩) xs.length cap) (fun b hb _=>by cases hb;exact Nat.le_refl _)
  (fun m' c' hm hc=>⟨_,_,flat,rfl,hown,hone,hlen,hr c' hc⟩)
 exact⟨_,h1.put d (.row (by simp))⟩
end Go.Am
namespace Go.Am
open Go.RowKit
variable {P:Program} {E:Env} {st:St} {m:Nm} {w:World} {a:Act}
theorem range_get {n j p:Nat} (h:(List.range n)[j]? =some p):j<n∧p=j:=by
 obtain⟨h1,h2⟩:=List.getElem?_eq_some_iff.1 h
 simp at h1 h2
 exact⟨h1,h2.symm⟩
theorem run_append_none {t ty e:TypeId} {size:Nat} (ht:P.underlying t=some (.slice e)) (hs:tsz P e=some size) (b:Option Addr) (n c:Nat) (hc:n≤c) (A:Option Addr) (c':Nat) (w:World):
  (Builtin.append_ #[t,t] ty #[.slice b n c,.slice A 0 c']).run P w=.ok (.slice b n c) w:=by
 cases A<;>cases b<;>simp[Builtin.append_,run_underlying ht,run_tsz hs,Builtin.lenOf,Builtin.firstCells,hc,loadCells,loadCellsFrom,storeCells]
theorem srcOf_cells {Y:Nat→Prop} (h:SimO Y st m w) {k:Nat} {ban:Option Nat} {x:AV} {v:Value} (hx:VRep m (seen w (st.X m Y)) x v) {ys:List (List IV)} (hk:0<k) (hs:srcOf st k ban x=some ys):
  ∃(A:Option Addr) (c:Nat) (news:List Value),v=.slice A ys.length c∧(ys≠[]→∃ad,A=some ad∧(∀j u,news[j]? =some u→w.cell? (ad.add j)=some u))∧news.length=ys.length*k∧(∀u∈news,u.oneCell'=true)∧
   (∀(i:Nat) (x:List IV),ys[i]? =some x→x.length=k)∧
   ∀(i:Nat) (x:List IV) (j:Nat) (y:IV) (u:Value),ys[i]? =some x→x[j]? =some y→news[i*k+j]? =some u→IRep (seen w (st.X m Y)) y u:=by
 have slc:∀(A:Option Addr) (cp:Nat),IRep (seen w (st.X m Y)) (.sl k ys) (.slice A ys.length cp)→v=.slice A ys.length cp→
   ∃(A:Option Addr) (c:Nat) (news:List Value),v=.slice A ys.length c∧(ys≠[]→∃ad,A=some ad∧(∀j u,news[j]? =some u→w.cell? (ad.add j)=some u))∧news.length=ys.length*k∧(∀u∈news,u.oneCell'=true)∧
   (∀(i:Nat) (x:List IV),ys[i]? =some x→x.length=k)∧
   ∀(i:Nat) (x:List IV) (j:Nat) (y:IV) (u:Value),ys[i]? =some x→x[j]? =some y→news[i*k+j]? =some u→IRep (seen w (st.X m Y)) y u:=by
  intro A cp hi hv
  cases hi with|@sl _ _ _ _ u ad hcap hmax hA hk' hc h1c hr=>
  have hget:∀p,p<ys.length*k→∃x y,ys[p / k]? =some x∧x[p % k]? =some y:=by
   intro p hp
   have h1:p / k<ys.length:=(Nat.div_lt_iff_lt_mul hk).2 hp
   have h2:p % k<k:=Nat.mod_lt _ hk
   have hx:=List.getElem?_eq_getElem h1
   have hl:=hk' _ _ hx
   exact⟨_,_,hx,List.getElem?_eq_getElem (by omega)⟩
  refine⟨A,cp,(List.range (ys.length*k)).map fun p=>u (p / k) (p % k),hv,fun hne=>⟨ad,hA hne,fun j z hz=>?_⟩,by simp,fun z hz=>?_,hk',fun i x j y z g1 g2 g3=>?_⟩
  ·simp only[List.getElem?_map,Option.map_eq_some_iff]at hz
   obtain⟨p,hp,rfl⟩:=hz
   obtain⟨hp,rfl⟩:=range_get hp
   obtain⟨x,y,g1,g2⟩:=hget p hp
   have:=(hc _ x _ y g1 g2).cell (h1c _ x _ y g1 g2)
   rw[Nat.mul_comm,Nat.div_add_mod]at this
   exact this
  ·simp only[List.mem_map,List.mem_range]at hz
   obtain⟨p,hp,rfl⟩:=hz
   obtain⟨x,y,g1,g2⟩:=hget p hp
   exact h1c _ x _ y g1 g2
  ·have hj:j<k:=by have:=(List.getElem?_eq_some_iff.1 g2).1;rw[hk' i x g1]at this;exact this
   simp only[List.getElem?_map,Option.map_eq_some_iff]at g3
   obtain⟨p,hp,rfl⟩:=g3
   obtain⟨hp,rfl⟩:=range_get hp
   have e1:(i*k+j) / k=i:=by rw[Nat.mul_comm,Nat.mul_add_div hk,Nat.div_eq_of_lt hj,Nat.add_zero]
   have e2:(i*k+j) % k=j:=by rw[Nat.mul_comm,Nat.mul_add_mod,Nat.mod_eq_of_lt hj]
   rw[e1,e2]
   exact hr i x j y g1 g2
 unfold srcOf at hs
 split at hs
 ·cases hs
  exact⟨none,0,[],hx.sc_inv,fun h=>absurd rfl h,by simp,by simp,by simp,by simp⟩
 ·rename_i A0 c0 _
  cases hs
  exact⟨A0,c0,[],hx.sc_inv,fun h=>absurd rfl h,by simp,by simp,by simp,by simp⟩
 ·rename_i k' zs
  split at hs
  ·rename_i e
   subst e
   cases hs
   cases hx with|im hx=>
   cases hx with|@sl _ _ A cap u ad hcap hmax hA hk' hc h1c hr=>
   exact slc A cap (.sl u ad hcap hmax hA hk' hc h1c hr) rfl
  ·cases hs
 ·rename_i n
  split at hs
  ·cases hs
  ·split at hs
   ·rename_i e k' zs ho
    split at hs
    ·rename_i ek
     subst ek
     cases hs
     obtain⟨l,hl,A,cp,flat,rfl,hown,hone,hlen,hr⟩:=h.objs n _ ho
     cases hx with|row hm=>
     rw[hl]at hm;cases hm
     refine⟨A,cp,flat,rfl,fun hne=>?_,hown.1,hone,hlen,hr⟩
     have:0<flat.length:=by
      rw[hown.1]
      exact Nat.mul_pos (List.length_pos_iff.2 hne) hk
     obtain⟨b,rfl,hcell⟩:=row_cells hown this
     exact⟨_,rfl,fun j u hu=>by rw[add_at,Nat.zero_add];exact hcell j u hu⟩
    ·cases hs
   ·rename_i k' zs ho
    split at hs
    ·rename_i ek
     subst ek
     cases hs
     obtain⟨l,hl,A,cp,rfl,hr⟩:=h.objs n _ ho
     cases hx with|row hm=>
     rw[hl]at hm;cases hm
     exact slc A cp hr rfl
    ·cases hs
   ·cases hs
 ·cases hs
theorem join_get {k:Nat} {xs ys:List (List IV)} {f1 f2:List Value} {c:Addr→Value→Prop} (l1:f1.length=xs.length*k) (hk1:∀(i:Nat) (x:List IV),xs[i]? =some x→x.length=k)
  (r1:∀(i:Nat) (x:List IV) (j:Nat) (y:IV) (u:Value),xs[i]? =some x→x[j]? =some y→f1[i*k+j]? =some u→IRep c y u)
  (r2:∀(i:Nat) (x:List IV) (j:Nat) (y:IV) (u:Value),ys[i]? =some x→x[j]? =some y→f2[i*k+j]? =some u→IRep c y u):
  ∀(i:Nat) (x:List IV) (j:Nat) (y:IV) (u:Value),(xs++ys)[i]? =some x→x[j]? =some y→(f1++f2)[i*k+j]? =some u→IRep c y u:=by
 intro i x j y u h1 h2 h3
 rw[List.getElem?_append]at h1
 split at h1
 ·rename_i hi
  have hj:=(List.getElem?_eq_some_iff.1 h2).1
  rw[hk1 i x h1]at hj
  have:i*k+j<f1.length:=by
   rw[l1]
   calc i*k+j<i*k+k:=by omega
    _=(i+1)*k:=by rw[Nat.succ_mul]
    _≤xs.length*k:=Nat.mul_le_mul_right _ hi
  rw[List.getElem?_append_left this]at h3
  exact r1 i x j y u h1 h2 h3
 ·rename_i hi
  have hle:xs.length*k≤i*k:=Nat.mul_le_mul_right _ (by omega)
  rw[List.getElem?_append_right (by omega),l1]at h3
  refine r2 _ x j y u h1 h2 ?_
  rw[←h3,Nat.sub_mul]
  congr 1
  omega
theorem own_form {w:World} {e:TypeId} {k n:Nat} {v:Value} {flat:List Value} (h:w.ownsRow 0 e k v n flat):∃A c,v=.slice A n c∧n≤c∧v.ownBlock=A.map (·.block):=by
 rcases h.2 with⟨rfl,rfl⟩|⟨g,cap,cur,rfl,_,_,h1,_⟩
 ·exact⟨none,0,rfl,Nat.le_refl _,rfl⟩
 ·exact⟨_,cap,rfl,h1,rfl⟩
theorem aEff_sound {o:Oper} {s:Bool} {st':St} {K:Act→World→Prop} {Q:Exit→Act→World→Prop} (h:SimF E st m a w) (hd:aEff P st o=some (s,st')) (hs:s=true)
  (hk:∀m' a' w',SimF E st' m' a' w'→K a' w'):o.wp P a w K Q:=by
 obtain⟨dst,op,ty,pos,after,guard⟩:=o
 unfold aEff at hd
 split at hd
 ·rename_i t len parts hop
  simp only at hop
  subst hop
  split at hd
  ·rename_i e he
   split at hd
   ·rename_i k zs hk0 hz
    simp only at hd
    split at hd
    ·rename_i hc
     obtain⟨hzl,hk1,hbig⟩:=hc
     have hz1:=h.freeze (parts.toList.flatMap fun p=>(st.ev p.2).rows)
     generalize st.freeze (parts.toList.flatMap fun p=>(st.ev p.2).rows)=st1 at hd hz1
     split at hd
     ·rename_i xs hx
      cases hd
      obtain⟨r1,r2,r3,r4,r5,r6⟩:=elems_rep hz1.toSimO (ρ:=a.eval) (fun x=>ev_rep hz1.get x) parts.toList 0 xs hx
      obtain⟨i,z,hi,hzz,hzc⟩:=zcells_of hz
      have hsz:z.cells.size=k:=by rw[←hzl,←hzc];simp
      obtain⟨us,f1,f2,f3⟩:=fill_seq (k:=k) (len:=len) (parts.toList.map fun p=>(p.1,a.eval p.2)) 0 ((Array.range (len*k)).map (z.cells[· % z.cells.size]!)) (by simp) (fun j p hj=>by
       simp only[List.getElem?_map,Option.map_eq_some_iff]at hj
       obtain⟨q,hq,rfl⟩:=hj
       exact r2 j q hq) (by simpa using r1)
      have hflat:us.toList=parts.toList.flatMap fun p=>(a.eval p.2).cells.toList:=by
       have hlenf:(parts.toList.flatMap fun p=>(a.eval p.2).cells.toList).length=len*k:=by
        rw[List.length_flatMap]
        have:(parts.toList.map fun p=>(a.eval p.2).cells.toList.length)=List.replicate parts.toList.length k:=by
         rw[List.eq_replicate_iff]
         refine⟨by simp,fun b hb=>?_⟩
         rw[List.mem_map]at hb
         obtain⟨p,hp,rfl⟩:=hb
         obtain⟨j,hj,rfl⟩:=List.mem_iff_getElem.1 hp
         simpa using(r2 j _ (List.getElem?_eq_getElem hj)).2
        rw[this,List.sum_replicate_nat,←r1,Nat.zero_add]
       apply List.ext_getElem?
       intro j
       by_cases hj:j<len*k
       ·have:=f3 j hj
        rw[Nat.zero_mul,if_neg (by omega),Nat.sub_zero,List.flatMap_map]at this
        simpa using this
       ·rw[List.getElem?_eq_none (by simp;omega),List.getElem?_eq_none (by omega)]
      have hml:len≤maxLen:=by
       have:len≤len*k:=Nat.le_mul_of_pos_right _ hk1
       unfold maxLen
       omega
      have hown:=World.ownsRow_lit (base:=0) (e:=e) (size:=k) w us len (Nat.zero_le _) hml f2
      have hxl:xs.length=len:=by omega
      obtain⟨m',hs'⟩:=hz1.newRow (e:=e) (k:=k) (xs:=xs) (cap:=len) (World.grownBy_alloc w (.cells us e) none) (by rw[hxl];exact hown) (by rw[hflat];exact r5) r4 (fun c' hc' i x j y u g1 g2 g3=>(r6 i x j y u g1 g2 (by rw[←hflat];exact g3)).mono hc') dst
      refine wp_of_value ?_ (hk _ _ _ hs')
      rw[hxl]
      have hu:=elt_under he
      have hne:¬len*k>2 ^ 24:=by omega
      simp only[execOp,Instr.buildSlice,Sem.run_bind,run_underlying hu,Result.andThen_ok,run_tsz hk0,if_neg hne,Sem.run_pure]
      by_cases h0:len*k=0
      ·have hl0:len=0:=by
        rcases Nat.mul_eq_zero.1 h0 with e|e
        ·exact e
        ·omega
       subst hl0
       have hr0:∀(f:Nat→Value),Array.map f (Array.range 0)=#[]:=by
        intro f
        apply Array.eq_empty_of_size_eq_zero
        simp
       simp only[Nat.zero_mul,hr0]at f1
       simp[hr0,f1,newRow]
      ·simp[h0,zeroValue,typeInfo,hi,hzz,f1,newRow]
     ·cases hd
    ·cases hd
   ·cases hd
  ·cases hd
 ·rename_i t l c hop
  simp only at hop
  subst hop
  split at hd
  ·rename_i e he
   split at hd
   ·rename_i k zs by' k1 lv k2 cv hk0 hz hb hle hce
    split at hd
    ·rename_i hc
     obtain⟨hzl,hone⟩:=hc
     cases hd
     obtain⟨rfl,h0,hby,hml⟩:=of_decide_eq_true hs
     have hlv:=ev_rep h.get l
     have hcv:=ev_rep h.get c
     rw[hle]at hlv;rw[hce]at hcv
     have hlv:=hlv.sc_inv
     have hcv:=hcv.sc_inv
     obtain⟨i,z,hi,hzz,hzc⟩:=zcells_of hz
     obtain⟨i',hi',hbi⟩:=byt_of hb
     rw[hi]at hi';cases hi'
     obtain⟨i',hi',hsi⟩:=tsz_of hk0
     rw[hi]at hi';cases hi'
     have hln:lv=(lv.toNat:Int):=by omega
     obtain⟨w',hr,hown,hg⟩:=run_make_full (P:=P) w 0 t e i z k (elt_under he) hi hzz hsi k1 k2 lv.toNat (by rw[hbi];omega) hml (Nat.zero_le _)
     have hdw:=sem_drawn _ _ _ _ hr
     rw[←hln]at hr
     have hsz:z.cells.size=k:=by rw[←hzl,←hzc];simp
     have hrl:(List.replicate lv.toNat (zs.map IV.sc)).length=lv.toNat:=by simp
     obtain⟨m',hs'⟩:=h.newRow (e:=e) (k:=k) (xs:=List.replicate lv.toNat (zs.map IV.sc)) (cap:=lv.toNat) hg (by rw[hrl];exact hown) (fun u hu=>by
      simp only[madeCells,Array.toList_map,List.mem_map]at hu
      obtain⟨j,hj,rfl⟩:=hu
      simp at hj
      have hkp:0<k:=by
       rcases Nat.eq_zero_or_pos k with e|e
       ·subst e;simp at hj
       ·exact e
      have hlt:j % z.cells.size<z.cells.size:=Nat.mod_lt _ (by omega)
      rw[getElem!_pos z.cells (j % z.cells.size) hlt]
      refine List.all_eq_true.1 hone _ ?_
      rw[←hzc];simp) (fun i x hx=>by
      rw[List.getElem?_replicate]at hx
      split at hx
      ·cases hx;simp[hzl]
      ·cases hx) (fun c' hc' i x j y u g1 g2 g3=>by
      rw[List.getElem?_replicate]at g1
      split at g1
      ·cases g1
       simp only[List.getElem?_map,Option.map_eq_some_iff]at g2
       obtain⟨v,hv,rfl⟩:=g2
       have hj:j<k:=by have:=(List.getElem?_eq_some_iff.1 hv).1;omega
       simp only[madeCells,Array.toList_map,List.getElem?_map,Option.map_eq_some_iff]at g3
       obtain⟨p,hp,rfl⟩:=g3
       have hp':p=i*k+j:=by
        rw[Array.toList_range]at hp
        exact(range_get hp).2
       subst hp'
       have e2:(i*k+j) % k=j:=by rw[Nat.mul_comm,Nat.mul_add_mod,Nat.mod_eq_of_lt hj]
       rw[hsz,e2]
       have hlt:j<z.cells.size:=by omega
       rw[getElem!_pos z.cells j hlt]
       rw[←hzc]at hv
       have:z.cells[j]=v:=by
        have h1:z.cells.toList[j]? =some z.cells[j]:=by simp[hlt]
        rw[h1]at hv;cases hv;rfl
       rw[this]
       exact .sc
      ·cases g1) dst
     refine wp_of_value ?_ (hk _ _ _ hs')
     rw[hrl]
     simp[execOp,hlv,hcv,hr]
    ·cases hd
   ·cases hd
  ·cases hd
 ·rename_i t x v hop
  simp only at hop
  subst hop
  split at hd
  ·rename_i n k i off hxe
   simp only at hd
   have hz1:=h.freeze (st.ev v).rows
   have hev:∀x,(st.freeze (st.ev v).rows).ev x=st.ev x:=by
    intro x
    generalize (st.ev v).rows=l
    clear hz1 hd hxe h
    induction l generalizing st with
    |nil=>rfl
    |cons n l ih=>
     show((st.freeze1 n).freeze l).ev x=_
     rw[ih]
     unfold St.freeze1
     split<;>cases x<;>rfl
   have hx:=ev_rep hz1.get x
   rw[hev,hxe]at hx
   generalize st.freeze (st.ev v).rows=st1 at hd hz1 hx
   split at hd
   ·rename_i e k2 xs sz cs ho hsz hcs
    split at hd
    ·rename_i hc
     obtain⟨rfl,hcl,hfit⟩:=hc
     cases hd
     have hi:=of_decide_eq_true hs
     obtain⟨g1,g2,g3⟩:=ivs_rep hz1.toSimO (ev_rep hz1.get v) hcs
     generalize hxv:a.eval x=xv at hx
     cases hx with|@rptr _ _ _ _ b l cp hm=>
     obtain⟨l0,hl,A,cp',flat,rfl,hown,hone,hlen,hr⟩:=hz1.objs n _ ho
     rw[hl]at hm;cases hm
     rcases hown.2 with⟨hv,_⟩|⟨g,cap,cur,hv,hbg,hh,hnc,hcm,hcs',htake⟩
     ·cases hv
     cases hv
     have hxi:xs[i]? =some xs[i]:=List.getElem?_eq_getElem hi
     have hile:i*k+k≤xs.length*k:=by rw[←Nat.succ_mul];exact Nat.mul_le_mul_right _ hi
     have hcapk:xs.length*k≤cp*k:=Nat.mul_le_mul_right _ hnc
     have hst:=run_storeCells_at P b (i*k+off) e (a.eval v).cells.toList 0 cur w hh (by simp;omega) (by simpa using g2)
     simp only[Nat.add_zero,Array.length_toList]at hst
     have hs1:=hz1.upd (w':=w.setRow b (cur.toList.take (i*k+off)++(a.eval v).cells.toList++cur.toList.drop (i*k+off+(a.eval v).cells.size)).toArray) ho rfl hl rfl (grownBy_setRow _ _ _)
      (.row e k (xs.modify i fun x=>x.take off++cs++x.drop (off+sz))) rfl ⟨some ⟨b,0,none⟩,cp,flat.take (i*k+off)++(a.eval v).cells.toList++flat.drop (i*k+off+(a.eval v).cells.size),by simp,?_,?_,?_,?_⟩
     ·refine wp_of_skip (w':=_) ?_ (hk _ _ _ (hs1.put dst (v:=Go.undef) .undef))
      simp[execOp,Instr.storeAt,hxv,Instr.sureAddr,storeVar,g1,hcl,run_tsz hsz,hst]
     ·have hfl:flat.length=xs.length*k:=hown.1
      refine⟨by simp[hfl,g1];omega,.inr ⟨b,cp,_,by simp,Nat.zero_le _,setRow_heap w b cur _ e _ hh,by simpa using hnc,hcm,by simp;omega,?_⟩⟩
      simp only[List.length_modify,List.toList_toArray]
      rw[←htake]
      apply List.ext_getElem?
      intro j
      by_cases hj:j<xs.length*k
      ·rw[List.getElem?_take,if_pos hj,List.getElem?_append,List.getElem?_append,List.getElem?_append,List.getElem?_append]
       simp only[List.length_append,List.length_take,Array.length_toList,Nat.min_eq_left (show i*k+off≤cur.size by omega),Nat.min_eq_left (show xs.length*k≤cur.size by omega),Nat.min_eq_left (show i*k+off≤xs.length*k by omega)]
       split
       ·split
        ·rw[List.getElem?_take,List.getElem?_take,List.getElem?_take]
         rename_i h1 h2
         rw[if_pos h2,if_pos h2,if_pos hj]
        ·rfl
       ·rw[List.getElem?_drop,List.getElem?_drop,List.getElem?_take]
        rename_i h1
        rw[if_pos (by omega)]
      ·rw[List.getElem?_eq_none (by simp;omega),List.getElem?_eq_none (by simp;omega)]
     ·intro u hu
      simp only[List.mem_append]at hu
      rcases hu with(hu|hu)|hu
      ·exact hone u (List.mem_of_mem_take hu)
      ·exact g2 u (by simpa using hu)
      ·exact hone u (List.mem_of_mem_drop hu)
     ·intro j x' hx'
      rw[List.getElem?_modify]at hx'
      by_cases e:i=j
      ·subst e
       simp[hxi]at hx'
       subst hx'
       have:=hlen i _ hxi
       simp[this];omega
      ·simp[e]at hx'
       exact hlen j x' hx'
     ·intro j x' q y u h1 h2 h3
      have hfl:flat.length=xs.length*k:=hown.1
      rw[List.getElem?_modify]at h1
      have hq:q<k:=by
       have:=(List.getElem?_eq_some_iff.1 h2).1
       by_cases e:i=j
       ·subst e
        simp[hxi]at h1
        subst h1
        have hl':=hlen i _ hxi
        simp[hl']at this
        omega
       ·simp[e]at h1
        rw[hlen j x' h1]at this
        exact this
      have hjlt:j<xs.length:=by
       by_cases e:i=j
       ·omega
       ·simp[e]at h1
        exact(List.getElem?_eq_some_iff.1 h1).1
      have hjk:j*k+k≤xs.length*k:=by rw[←Nat.succ_mul];exact Nat.mul_le_mul_right _ hjlt
      rw[List.getElem?_append,List.getElem?_append]at h3
      simp only[List.length_append,List.length_take,Array.length_toList,Nat.min_eq_left (show i*k+off≤flat.length by omega),g1,hcl]at h3
      by_cases e:i=j
      ·subst e
       simp[hxi]at h1
       subst h1
       have hl':=hlen i _ hxi
       rw[←List.append_assoc,List.getElem?_append,List.getElem?_append]at h2
       simp only[List.length_append,List.length_take,hl',Nat.min_eq_left (show off≤k by omega),hcl]at h2
       by_cases c1:q<off
       ·rw[if_pos (by omega),if_pos (by omega),List.getElem?_take,if_pos (by omega)]at h3
        rw[if_pos (by omega),if_pos c1,List.getElem?_take,if_pos c1]at h2
        exact hr i _ q y u hxi h2 h3
       ·by_cases c2:q<off+sz
        ·rw[if_pos (by omega),if_neg (by omega)]at h3
         rw[if_pos c2,if_neg c1]at h2
         refine g3 _ y u h2 ?_
         rw[show i*k+q-(i*k+off)=q-off by omega]at h3
         simpa using h3
        ·rw[if_neg (by omega),List.getElem?_drop]at h3
         rw[if_neg c2,List.getElem?_drop]at h2
         refine hr i _ q y u hxi ?_ ?_
         ·rw[←h2];congr 1;omega
         ·rw[←h3];congr 1;omega
      ·simp[e]at h1
       rcases Nat.lt_or_gt_of_ne e with hlt|hgt
       ·have:i*k+k≤j*k:=by rw[←Nat.succ_mul];exact Nat.mul_le_mul_right _ hlt
        rw[if_neg (by omega),List.getElem?_drop]at h3
        refine hr j x' q y u h1 h2 ?_
        rw[←h3];congr 1;omega
       ·have:j*k+k≤i*k:=by rw[←Nat.succ_mul];exact Nat.mul_le_mul_right _ hgt
        rw[if_pos (by omega),if_pos (by omega),List.getElem?_take,if_pos (by omega)]at h3
        exact hr j x' q y u h1 h2 h3
    ·cases hd
   ·cases hd
  ·cases hd
 ·rename_i c hop
  simp only at hop
  subst hop
  split at hd
  ·rename_i s0 x t t' hcal hargs htys
   split at hd
   ·rename_i ett
    subst ett
    split at hd
    ·rename_i e he
     split at hd
     ·rename_i k zs by' hk0 hz hb
      split at hd
      ·rename_i hc
       obtain⟨hzl,hk1⟩:=hc
       split at hd
       ·rename_i xs ban hrow
        split at hd
        ·rename_i ys hsrc
         cases hd
         obtain⟨hby,hml⟩:=of_decide_eq_true hs
         obtain⟨i,z,hi,hzz,hzc⟩:=zcells_of hz
         obtain⟨i',hi',hbi⟩:=byt_of hb
         rw[hi]at hi';cases hi'
         obtain⟨i',hi',hsi⟩:=tsz_of hk0
         rw[hi]at hi';cases hi'
         have hsz:z.cells.size=k:=by rw[←hzl,←hzc];simp
         have hsv:=ev_rep h.get s0
         have hxv:=ev_rep h.get x
         obtain⟨A,cx,news,hve,hadr,hnl,hone2,hlen2,hr2⟩:=srcOf_cells h.toSimO hxv hk1 hsrc
         have run:∀(v:Value) (flat:List Value),a.eval s0=v→w.ownsRow 0 e k v xs.length flat→(∃A' n' c',v=.slice A' n' c'∧n'≤c')→∃v' w',(Builtin.append_ #[t,t] ty #[v,a.eval x]).run P w=.ok v' w'∧w'.ownsRow 0 e k v' (xs.length+ys.length) (flat++news)∧w.grownBy w' v.ownBlock∧(v'.ownBlock=v.ownBlock∨v'.ownBlock=some w.heap.size):=by
          intro v flat hv hown hform
          by_cases hys:ys=[]
          ·subst hys
           have hnn:news=[]:=List.eq_nil_of_length_eq_zero (by simpa using hnl)
           subst hnn
           obtain⟨A',n',c',rfl,hle⟩:=hform
           refine⟨_,w,?_,by simpa using hown,⟨rfl,rfl,rfl,Nat.le_refl _,fun _ _ _=>rfl⟩,.inl rfl⟩
           rw[hve]
           exact run_append_none (elt_under he) hk0 A' n' c' hle A cx w
          ·obtain⟨ad,rfl,hcell⟩:=hadr hys
           rw[hve]
           obtain⟨v',w',q1,q2,q3,_,q5⟩:=run_append_own_at (P:=P) w 0 t ty e i z k by' (elt_under he) hi hzz hsi hbi hsz hk1 v xs.length flat hown ad ys.length cx news hnl hcell hone2 hml hby (Nat.zero_le _)
           exact⟨v',w',q1,q2,q3,q5⟩
         have exec:∀v' w',(Builtin.append_ #[t,t] ty #[a.eval s0,a.eval x]).run P w=.ok v' w'→(execOp a.eval ⟨dst,.call c,ty,pos,after,guard⟩).run P w=.ok (.value v') w':=by
          intro v' w' hrun
          obtain⟨cal,args,tys⟩:=c
          simp only at hcal hargs htys
          subst hcal
          have h1:args=#[s0,x]:=by rw[←Array.toList_inj];exact hargs
          have h2:tys=#[t,t]:=by rw[←Array.toList_inj];exact htys
          subst h1 h2
          simp[execOp,resolve,invoke,builtin,hrun]
         have hrep:∀(flat:List Value) (c':Addr→Value→Prop),flat.length=xs.length*k→(∀(i:Nat) (x:List IV),xs[i]? =some x→x.length=k)→
           (∀(i:Nat) (x:List IV) (j:Nat) (y:IV) (u:Value),xs[i]? =some x→x[j]? =some y→flat[i*k+j]? =some u→IRep (seen w (st.X m E.Y)) y u)→(∀p v,seen w (st.X m E.Y) p v→c' p v)→
           ∀(i:Nat) (x:List IV) (j:Nat) (y:IV) (u:Value),(xs++ys)[i]? =some x→x[j]? =some y→(flat++news)[i*k+j]? =some u→IRep c' y u:=by
          intro flat c' hfl hkx hrx hc' i x j y u g1 g2 g3
          exact(join_get hfl hkx hrx hr2 i x j y u g1 g2 g3).mono hc'
         have hlenx:∀{f:List (List IV)},(∀(i:Nat) (x:List IV),f[i]? =some x→x.length=k)→∀(i:Nat) (x:List IV),(f++ys)[i]? =some x→x.length=k:=by
          intro f hf i x hx
          rw[List.getElem?_append]at hx
          split at hx
          ·exact hf i x hx
          ·exact hlen2 _ x hx
         unfold rowOf at hrow
         split at hrow
         ·rename_i hse
          cases hrow
          rw[hse]at hsv
          have hsv:=hsv.sc_inv
          obtain⟨v',w',q1,q2,q3,q4⟩:=run _ [] hsv (World.ownsRow_nil w 0 e k) ⟨none,0,0,rfl,Nat.le_refl _⟩
          have hdw:=sem_drawn _ _ _ _ q1
          rw[←hsv]at q1
          obtain⟨A',c',rfl,hle',hob⟩:=own_form q2
          have hlo:∀(A:Option Addr) (n c:Nat),Value.ownBlock (.slice A n c)=A.map (·.block):=by intro A n c;cases A<;>rfl
          rw[hlo,hlo]at q4
          simp only[List.length_nil,Nat.zero_add,List.nil_append]at q2 hlenx⊢
          obtain⟨h1,h2⟩:=h.new (below_grown q3) (.row e k ys) (.hdr A' ys.length c') (fun b hb _=>by
           have hb':A'.map (·.block)=some b:=hb
           rcases q4 with q4|q4
           ·rw[q4]at hb';cases hb'
           ·rw[q4]at hb';cases hb';exact Nat.le_refl _)
           (fun m' c'' hm hc=>⟨A',c',news,rfl,q2,hone2,hlen2,fun i x j y u g1 g2 g3=>(hr2 i x j y u g1 g2 g3).mono hc⟩)
          refine wp_of_value (exec _ _ q1) (hk _ _ _ (h1.put dst ?_))
          have e0:([]:List (List IV)).length+ys.length=ys.length:=by simp
          rw[e0]
          exact .row (by simp)
         ·rename_i n hse
          split at hrow
          ·rename_i e' k' xs' ho
           split at hrow
           ·rename_i hek
            obtain⟨rfl,rfl⟩:=hek
            cases hrow
            rw[hse]at hsv
            obtain⟨l,hl,A,cp,flat,rfl,hown,hone,hlen,hr⟩:=h.objs n _ ho
            generalize hsvv:a.eval s0=sv at hsv
            cases hsv with|row hm=>
            rw[hl]at hm;cases hm
            obtain⟨A0,c0,hv0,hle0,_⟩:=own_form hown
            obtain⟨v',w',q1,q2,q3,q4⟩:=run _ flat hsvv hown ⟨A0,_,c0,hv0,hle0⟩
            have hdw:=sem_drawn _ _ _ _ q1
            rw[←hsvv]at q1
            obtain⟨A',c',rfl,hle',hob⟩:=own_form q2
            have hlo:∀(A:Option Addr) (n c:Nat),Value.ownBlock (.slice A n c)=A.map (·.block):=by intro A n c;cases A<;>rfl
            rw[hlo]at q3
            rw[hlo,hlo]at q4
            have el:(xs++ys).length=xs.length+ys.length:=by simp
            have h1:=h.swap ho rfl hl q3 (.row e' k' (xs++ys)) rfl (.hdr A' (xs++ys).length c') q4
             (fun m' c'' hc=>⟨A',c',flat++news,rfl,by rw[el];exact q2,fun u hu=>by
              rcases List.mem_append.1 hu with hu|hu
              ·exact hone u hu
              ·exact hone2 u hu,hlenx hlen,hrep flat c'' hown.1 hlen hr hc⟩)
            refine wp_of_value (exec _ _ q1) (hk _ _ _ (h1.put dst ?_))
            rw[←el]
            exact .row (by simp)
           ·cases hrow
          ·cases hrow
         ·cases hrow
        ·cases hd
       ·cases hd
      ·cases hd
     ·cases hd
    ·cases hd
   ·cases hd
  ·cases hd
 ·cases hd
end Go.Am
namespace Go.Am
open Go.RowKit
open Go.ChangeMaps (setBlock)
variable {P:Program} {E:Env} {st:St} {m:Nm} {w:World} {a:Act}
def dstOf (st:St):AV→Option (Nat×Nat×Nat×Nat)
 |.sub n k lo len=>some (n,k,lo,len)
 |.row n=>match st.obj n with
  |some (.row _ k xs)=>some (n,k,0,xs.length)
  |_=>none
 |_=>none
def aMp (P:Program) (st:St) (o:Oper):Option (Bool×St):=
 match o.op with
 |.makeMap t h=>match mpOf P t,(match h with|none=>some (AV.im (.sc (.int .i64 0)))|some x=>some (st.ev x))with
  |some (q,_),some (.im (.sc (.int _ _)))=>some (true,(st.new (.mp q [])).put o.dst (.map st.next))
  |_,_=>none
 |.mapUpdate t x i v=>match mpOf P t,st.ev i,st.ev x with
  |some (q,_),.im (.sc (.int q' key)),.map n=>if q=q' then match st.obj n with
    |some (.mp q2 xs)=>if q2=q then some (true,(st.setObj n (.mp q (mput xs key (st.ev v)))).put o.dst .undef)else none
    |_=>none
   else none
  |_,_,_=>none
 |.range t x=>match mpOf P t,st.ev x with
  |some (q,_),.map n=>match st.obj n with
   |some (.mp q2 xs)=>if q2=q then some (true,(st.new (.it n xs.length [])).put o.dst (.ptr st.next 0))else none
   |_=>none
  |_,_=>none
 |.slice t x none (some h) none=>match st.ev x with
  |.row n=>match st.obj n,elt P t,st.ev h with
   |some (.row e k xs),some e',.im (.sc (.int _ hv))=>if tsz P e'=some k then
     some (decide (0≤hv∧hv≤xs.length),((st.setObj n .gone).new (.row e k (xs.take hv.toNat))).put o.dst (.row st.next))else none
   |_,_,_=>none
  |_=>none
 |.call c=>match c.callee,c.args.toList,c.argTypes.toList with
  |.builtin .append,[s,x],[t,t']=>match st.ev s,st.ev x,elt P t,tint P t' with
   |.im (.sc (.slice none 0 0)),.im (.sc (.int kk n)),some e,some _=>match tsz P e,zcells P e,byt P e with
    |some k,some zs,some by'=>if zs.length=k∧0<k∧zs.all Value.oneCell'=true then
      some (decide (0<n∧n.toNat≤maxLen∧n.toNat*by'≤140737488355328),(st.new (.row e k (List.replicate n.toNat (zs.map .sc)))).put o.dst (.row st.next))else none
    |_,_,_=>none
   |_,_,_,_=>none
  |.builtin .copy,[d,s],[t,t']=>match dstOf st (st.ev d),elt P t,rowAt st (st.ev s)with
   |some (n,k,lo,len),some e',some (k2,ys)=>match st.obj n with
    |some (.row e k1 xs)=>if k1=k∧tsz P e'=some k∧(k2=k∨ys=[])∧lo+len≤xs.length∧0<k then
      some (true,(st.setObj n (.row e k (xs.take lo++ys.take (min ys.length len)++xs.drop (lo+min ys.length len)))).put o.dst (.int .i64 (min ys.length len:Nat)))else none
    |_=>none
   |_,_,_=>none
  |_,_,_=>none
 |_=>none
def NextK (st:St) (o:Oper) (x:Operand) (k:St→Prop):Prop:=
 ∃r n since seen q xs,st.ev x=.ptr r 0∧st.obj r=some (.it n since seen)∧st.obj n=some (.mp q xs)∧since=xs.length∧
  (∀(i:Nat) (e:Int×AV),xs[i]? =some e→i∉seen→k ((st.setObj r (.it n since (seen++[i]))).put o.dst (.tup [.bool true,.im (.sc (.int q e.1)),e.2])))∧
  ((∀i,i<xs.length→i∈seen)→k (st.put o.dst (.tup [.bool false])))
theorem grownBy_setBlock (w:World) (b:Nat) (o:Obj):w.grownBy (setBlock w b o) (some b):=
 ⟨rfl,rfl,rfl,by simp[setBlock],fun k hk hne=>by
  show(w.heap.setIfInBounds b o)[k]? =_
  exact Array.getElem?_setIfInBounds_ne (fun e=>hne (by rw[e]))⟩
theorem heap_setBlock (w:World) (b:Nat) (o:Obj) (h:b<w.heap.size):(setBlock w b o).heap[b]? =some o:=by
 show(w.heap.setIfInBounds b o)[b]? =_
 simp[h]
theorem aMp_sound {o:Oper} {s:Bool} {st':St} {K:Act→World→Prop} {Q:Exit→Act→World→Prop} (h:SimF E st m a w) (hd:aMp P st o=some (s,st')) (hs:s=true)
  (hk:∀m' a' w',SimF E st' m' a' w'→K a' w'):o.wp P a w K Q:=by
 obtain⟨dst,op,ty,pos,after,guard⟩:=o
 have hget:=h.get
 unfold aMp at hd
 split at hd
 ·rename_i t hint hop
  simp only at hop
  subst hop
  split at hd
  ·rename_i q e ki n hq hh
   cases hd
   obtain⟨kt,hu,_⟩:=mpOf_under hq
   obtain⟨h1,h2⟩:=h.new (below_alloc1 w (.map #[] 0)) (.mp q []) (.blk w.heap.size) (fun b hb _=>by cases hb;exact Nat.le_refl _)
    (fun m' c' hm hc=>⟨w.heap.size,#[],rfl,heap_alloc_new w _,rfl,fun i x e h1=>by simp at h1⟩)
   refine wp_of_value (v:=.map (some w.heap.size)) (w':=w.alloc (.map #[] 0)) ?_ (hk _ _ _ (h1.put dst (.map (by simp))))
   cases hint with
   |none=>simp[execOp,Instr.makeMap]
   |some x=>
    simp only[Option.some.injEq]at hh
    have hx:=ev_rep hget x
    rw[hh]at hx
    simp[execOp,Instr.makeMap,hx.sc_inv,run_underlying hu,asInt,asIntOf]
  ·cases hd
 ·rename_i t x i v hop
  simp only at hop
  subst hop
  split at hd
  ·rename_i q e q' key n hq hie hxe
   split at hd
   ·rename_i hqq
    subst hqq
    split at hd
    ·rename_i q2 xs ho
     split at hd
     ·rename_i hqq
      subst hqq
      cases hd
      obtain⟨kt,hu,hku⟩:=mpOf_under hq
      have hi:=ev_rep hget i
      rw[hie]at hi
      have hiv:=hi.sc_inv
      have hx:=ev_rep hget x
      rw[hxe]at hx
      generalize hxv:a.eval x=xv at hx
      cases hx with|@map _ bm hm=>
      obtain⟨l,hl,b,es,rfl,hh,hsz,hr⟩:=h.objs n _ ho
      rw[hl]at hm;cases hm
      have hf:=findKey_run (P:=P) (key:=key) hku hsz (fun j x e h1 h2=>(hr j x e h1 h2).2.1) w
      have hbl:bm<w.heap.size:=(Array.getElem?_eq_some_iff.1 hh).1
      have hv:=ev_rep hget v
      cases hmi:midx xs key with
      |none=>
       rw[hmi]at hf
       have hmp:mput xs key (st.ev v)=xs++[(key,st.ev v)]:=by simp[mput,hmi]
       have hs:=h.upd (w':=setBlock w bm (.map (es.push {key:=.int q2 key,val:=a.eval v,born:=xs.length}) (xs.length+1))) ho rfl hl rfl (grownBy_setBlock _ _ _) (.mp q2 (mput xs key (st.ev v))) rfl
        ⟨bm,es.push {key:=.int q2 key,val:=a.eval v,born:=xs.length},rfl,by rw[heap_setBlock w bm _ hbl,hmp];simp,by rw[hmp];simp[hsz],by
         rw[hmp]
         intro j y e' h1 h2
         rw[List.getElem?_append]at h1
         split at h1
         ·rename_i hj
          rw[Array.getElem?_push,if_neg (by omega)]at h2
          exact hr j y e' h1 h2
         ·rename_i hj
          have hj':j=xs.length:=by
           have:=(List.getElem?_eq_some_iff.1 h1).1
           simp at this;omega
          subst hj'
          simp at h1
          rw[Array.getElem?_push,if_pos (by omega)]at h2
          cases h1;cases h2
          exact⟨rfl,rfl,hv⟩⟩
       refine wp_of_skip (w':=_) ?_ (hk _ _ _ (hs.put dst (v:=Go.undef) .undef))
       simp[execOp,Instr.mapUpdate,run_underlying hu,hxv,hiv,getObj,setObj,Sem.run,hh,checkKey_run hku,hf,setBlock]
      |some j=>
       rw[hmi]at hf
       have hj:=midx_lt xs key j hmi
       obtain⟨y,hy⟩:∃y,xs[j]? =some y:=⟨xs[j],List.getElem?_eq_getElem hj⟩
       obtain⟨e',he'⟩:∃e',es[j]? =some e':=⟨es[j],Array.getElem?_eq_getElem (by omega)⟩
       have hke:e'.key=.int q2 key:=by rw[(hr j y e' hy he').2.1,midx_key xs key j y hmi hy]
       have hmp:mput xs key (st.ev v)=xs.modify j fun x=>(x.1,st.ev v):=by simp[mput,hmi]
       have hs:=h.upd (w':=setBlock w bm (.map (es.modify j fun e=>{e with key:=.int q2 key,val:=a.eval v}) xs.length)) ho rfl hl rfl (grownBy_setBlock _ _ _) (.mp q2 (mput xs key (st.ev v))) rfl
        ⟨bm,es.modify j fun e=>{e with key:=.int q2 key,val:=a.eval v},rfl,by rw[heap_setBlock w bm _ hbl,hmp];simp,by rw[hmp];simp[hsz],by
         rw[hmp]
         intro i y' e2 h1 h2
         rw[List.getElem?_modify]at h1
         rw[Array.getElem?_modify]at h2
         by_cases hij:j=i
         ·subst hij
          rw[hy]at h1
          rw[he']at h2
          simp at h1 h2
          subst h1 h2
          obtain⟨g1,g2,g3⟩:=hr j y e' hy he'
          exact⟨g1,by rw[←hke,g2],hv⟩
         ·simp[hij]at h1 h2
          exact hr i y' e2 h1 h2⟩
       refine wp_of_skip (w':=_) ?_ (hk _ _ _ (hs.put dst (v:=Go.undef) .undef))
       simp[execOp,Instr.mapUpdate,run_underlying hu,hxv,hiv,getObj,setObj,Sem.run,hh,checkKey_run hku,hf,he',hke,keyStays_run,setBlock]
     ·cases hd
    ·cases hd
   ·cases hd
  ·cases hd
 ·rename_i t x hop
  simp only at hop
  subst hop
  split at hd
  ·rename_i q e n hq hxe
   split at hd
   ·rename_i q2 xs ho
    split at hd
    ·rename_i hqq
     subst hqq
     cases hd
     obtain⟨kt,hu,hku⟩:=mpOf_under hq
     have hx:=ev_rep hget x
     rw[hxe]at hx
     generalize hxv:a.eval x=xv at hx
     cases hx with|@map _ bm hm=>
     obtain⟨l,hl,b,es,rfl,hh,hsz,hr⟩:=h.objs n _ ho
     rw[hl]at hm;cases hm
     obtain⟨h1,h2⟩:=h.new (below_alloc1 w (.mapIter (some bm) xs.length #[] xs.length)) (.it n xs.length []) (.blk w.heap.size) (fun b hb _=>by cases hb;exact Nat.le_refl _)
      (fun m' c' hm hc=>⟨w.heap.size,bm,rfl,hm _ _ hl,heap_alloc_new w _⟩)
     refine wp_of_value (v:=.pointer (some ⟨w.heap.size,0,none⟩)) (w':=w.alloc (.mapIter (some bm) xs.length #[] xs.length)) ?_ (hk _ _ _ (h1.put dst (.ptr (by simp))))
     have hg:(getObj bm).run P w=.ok (.map es xs.length) w:=by simp[getObj,Sem.run,hh]
     simp[execOp,Instr.range,run_underlying hu,hxv,hg]
    ·cases hd
   ·cases hd
  ·cases hd
 ·rename_i t x hx0 hop
  simp only at hop
  subst hop
  split at hd
  ·rename_i n hxe
   split at hd
   ·rename_i e k xs e' kh hv ho he hhe
    split at hd
    ·rename_i hsz
     cases hd
     obtain⟨h0,h1⟩:=of_decide_eq_true hs
     have hx:=ev_rep hget x
     rw[hxe]at hx
     have hh:=ev_rep hget hx0
     rw[hhe]at hh
     have hhv:=hh.sc_inv
     generalize hxv:a.eval x=xv at hx
     obtain⟨l,hl,A,cp,flat,rfl,hown,hone,hlen,hr⟩:=h.objs n _ ho
     cases hx with|row hm=>
     rw[hl]at hm;cases hm
     have hml:(xs.take hv.toNat).length=hv.toNat:=by simp;omega
     have hfl:flat.length=xs.length*k:=hown.1
     have hle:hv.toNat*k≤xs.length*k:=Nat.mul_le_mul_right _ (by omega)
     have hown':w.ownsRow 0 e k (.slice A hv.toNat cp) hv.toNat (flat.take (hv.toNat*k)):=by
      refine⟨by simp;omega,?_⟩
      rcases hown.2 with⟨hv',hz⟩|⟨g,cap,cur,hv',hbg,hh',hnc,hcm,hcs,htake⟩
      ·have:hv.toNat=0:=by omega
       injection hv' with e1 e2 e3
       left
       rw[e1,e3,this]
       exact⟨rfl,rfl⟩
      ·injection hv' with e1 e2 e3
       right
       refine⟨g,cap,cur,by rw[e1,e3],hbg,hh',by omega,hcm,hcs,?_⟩
       rw[←htake,List.take_take,Nat.min_eq_left hle]
     have h2:=h.swap ho rfl hl (w':=w) ⟨rfl,rfl,rfl,Nat.le_refl _,fun _ _ _=>rfl⟩ (.row e k (xs.take hv.toNat)) rfl (.hdr A (xs.take hv.toNat).length cp) (.inl rfl)
      (fun m' c' hc=>⟨A,cp,flat.take (hv.toNat*k),rfl,by rw[hml];exact hown',fun u hu=>hone u (List.mem_of_mem_take hu),(fun i x hx=>by
       rw[List.getElem?_take]at hx
       split at hx
       ·exact hlen i x hx
       ·cases hx),fun i x j y u g1 g2 g3=>by
       rw[List.getElem?_take]at g1 g3
       split at g1
       ·split at g3
        ·exact(hr i x j y u g1 g2 g3).mono hc
        ·cases g3
       ·cases g1⟩)
     refine wp_of_value (v:=.slice A hv.toNat cp) (w':=w) ?_ (hk _ _ _ (h2.put dst ?_))
     ·have hcp:xs.length≤cp:=by
       rcases hown.2 with⟨hv',hz⟩|⟨g,cap,cur,hv',_,_,hnc,_⟩
       ·injection hv' with _ _ e3;omega
       ·injection hv' with _ _ e3;omega
      have hvc:hv≤(cp:Int):=by omega
      have hA:(if cp=0 then A else A.map fun a=>a.add 0)=A:=by
       split
       ·rfl
       ·cases A with
        |none=>rfl
        |some ad=>simp[Addr.add]
      simp[execOp,Instr.sliceAt,Instr.slice,run_underlying (elt_under he),hxv,Instr.sliceBounds,Instr.sliceBound,hhv,asIntOf,h0,hvc,run_tsz hsz,hA]
     ·have:=hml
      rw[←hml]
      exact .row (by simp)
    ·cases hd
   ·cases hd
  ·cases hd
 ·rename_i c hop
  simp only at hop
  subst hop
  split at hd
  ·rename_i s0 x t t' hcal hargs htys
   split at hd
   ·rename_i kk n e kt hse hxe he hte
    split at hd
    ·rename_i k zs by' hk0 hz hb
     split at hd
     ·rename_i hc
      obtain⟨hzl,hk1,hzone⟩:=hc
      cases hd
      obtain⟨hn0,hml,hby⟩:=of_decide_eq_true hs
      obtain⟨i,z,hi,hzz,hzc⟩:=zcells_of hz
      obtain⟨i',hi',hbi⟩:=byt_of hb
      rw[hi]at hi';cases hi'
      obtain⟨i',hi',hsi⟩:=tsz_of hk0
      rw[hi]at hi';cases hi'
      have hsz:z.cells.size=k:=by rw[←hzl,←hzc];simp
      have hsv:=ev_rep hget s0
      have hxv:=ev_rep hget x
      rw[hse]at hsv;rw[hxe]at hxv
      have hsv:=hsv.sc_inv
      have hxv:=hxv.sc_inv
      have hnn:n=(n.toNat:Int):=by omega
      have hml':n.toNat≤9223372036854775807:=by simpa [maxLen]using hml
      have hrun:=Lib.run_append_nil_zeros (P:=P) w t t' ty e i z kk kt (elt_under he) (tint_under hte) hi hzz n.toNat (by omega) (by omega) (by omega) (by rw[hbi];omega)
      rw[←hnn]at hrun
      have hge:=grownCap_ge w n.toNat 0 e
      have hcm:=grownCap_le_maxLen w n.toNat 0 e hml
      have hrl:(List.replicate n.toNat (zs.map IV.sc)).length=n.toNat:=by simp
      have hown:(w.drew.alloc (.cells (Builtin.zeroCells z.cells n.toNat++Builtin.zeroCells z.cells (grownCap w n.toNat 0 e-n.toNat)) e)).ownsRow 0 e k (.slice (some ⟨w.heap.size,0,none⟩) n.toNat (grownCap w n.toNat 0 e)) n.toNat (Builtin.zeroCells z.cells n.toNat).toList:=by
       refine⟨by simp[size_zeroCells,hsz],.inr ⟨w.heap.size,_,_,rfl,Nat.zero_le _,heap_alloc_new w.drew _,hge,hcm,?_,?_⟩⟩
       ·simp only[Array.size_append,size_zeroCells,hsz,←Nat.add_mul]
        congr 1
        omega
       ·have:n.toNat*k=(Builtin.zeroCells z.cells n.toNat).toList.length:=by simp[size_zeroCells,hsz]
        rw[this,Array.toList_append]
        exact List.take_left
      have hgrow:w.grownBy (w.drew.alloc (.cells (Builtin.zeroCells z.cells n.toNat++Builtin.zeroCells z.cells (grownCap w n.toNat 0 e-n.toNat)) e)) none:=⟨rfl,rfl,rfl,by simp,fun k hk _=>Below.heap_alloc w.drew _ k hk⟩
      have hzget:∀(p:Nat) (u:Value),(Builtin.zeroCells z.cells n.toNat).toList[p]? =some u→u=z.cells[p % k]!∧p % k<z.cells.size:=by
       intro p u hu
       simp only[Builtin.zeroCells,Array.toList_map,List.getElem?_map,Option.map_eq_some_iff]at hu
       obtain⟨q,hq,rfl⟩:=hu
       rw[Array.toList_range]at hq
       obtain⟨_,rfl⟩:=range_get hq
       rw[hsz]
       exact⟨rfl,Nat.mod_lt _ hk1⟩
      obtain⟨m',hs'⟩:=h.newRow (e:=e) (k:=k) (xs:=List.replicate n.toNat (zs.map IV.sc)) (cap:=grownCap w n.toNat 0 e) hgrow (by rw[hrl];exact hown) (fun u hu=>by
       obtain⟨p,hp,hpe⟩:=List.mem_iff_getElem.1 hu
       obtain⟨rfl,hlt⟩:=hzget p u (by rw[List.getElem?_eq_getElem hp,hpe])
       rw[getElem!_pos z.cells _ hlt]
       refine List.all_eq_true.1 hzone _ ?_
       rw[←hzc];simp) (fun i x hx=>by
       rw[List.getElem?_replicate]at hx
       split at hx
       ·cases hx;simp[hzl]
       ·cases hx) (fun c' hc' i x j y u g1 g2 g3=>by
       rw[List.getElem?_replicate]at g1
       split at g1
       ·cases g1
        simp only[List.getElem?_map,Option.map_eq_some_iff]at g2
        obtain⟨v,hv,rfl⟩:=g2
        have hj:j<k:=by have:=(List.getElem?_eq_some_iff.1 hv).1;omega
        obtain⟨rfl,hlt⟩:=hzget _ u g3
        have e2:(i*k+j) % k=j:=by rw[Nat.mul_comm,Nat.mul_add_mod,Nat.mod_eq_of_lt hj]
        rw[e2]at hlt⊢
        rw[getElem!_pos z.cells _ hlt]
        rw[←hzc]at hv
        have:v=z.cells[j]:=by
         have h1:=(List.getElem?_eq_some_iff.1 hv).2
         simpa using h1.symm
        rw[this]
        exact .sc
       ·cases g1) dst
      rw[hrl]at hs'
      refine wp_of_value (v:=.slice (some ⟨w.heap.size,0,none⟩) n.toNat (grownCap w n.toNat 0 e)) (w':=_) ?_ (hk _ _ _ hs')
      obtain⟨cal,args,tys⟩:=c
      simp only at hcal hargs htys
      subst hcal
      have h1:args=#[s0,x]:=by rw[←Array.toList_inj];exact hargs
      have h2:tys=#[t,t']:=by rw[←Array.toList_inj];exact htys
      subst h1 h2
      simp[execOp,resolve,invoke,builtin,hsv,hxv,hrun]
     ·cases hd
    ·cases hd
   ·cases hd
  ·rename_i d s0 t t' hcal hargs htys
   split at hd
   ·rename_i n k lo len e' k2 ys hde he hse
    split at hd
    ·rename_i e k1 xs ho
     split at hd
     ·rename_i hc
      obtain⟨rfl,htk,hk2,hfit,hkp1⟩:=hc
      cases hd
      obtain⟨l,hl,A,cp,flat,rfl,hown,hone,hlen,hr⟩:=h.objs n _ ho
      have hdv:=ev_rep hget d
      have hsv:=ev_rep hget s0
      obtain⟨A2,c2,hse2,hkl,hcells⟩:=rowAt_sound h.toSimO hsv hse
      have hcp:xs.length≤cp:=by
       rcases hown.2 with⟨hv',hz⟩|⟨g,cap,cur,hv',_,_,hnc,_⟩
       ·injection hv' with _ _ e3;omega
       ·injection hv' with _ _ e3;omega
      obtain⟨cD,BD,hBD,hD⟩:∃cD BD,(lo<cp→BD=A.map (·.add (lo*k1)))∧a.eval d=.slice BD len cD:=by
       unfold dstOf at hde
       split at hde
       ·rename_i hde'
        cases hde
        rw[hde']at hdv
        generalize a.eval d=dv at hdv
        cases hdv with|sub hm _ hB=>
        rw[hl]at hm;cases hm
        exact⟨_,_,hB,rfl⟩
       ·rename_i n' hde'
        split at hde
        ·rename_i ho'
         cases hde
         rw[ho]at ho';cases ho'
         rw[hde']at hdv
         generalize a.eval d=dv at hdv
         cases hdv with|row hm=>
         rw[hl]at hm;cases hm
         have e0:A=A.map fun a=>a.add (0*k1):=by
          cases A with
          |none=>rfl
          |some ad=>simp[Addr.add]
         exact⟨cp,A,fun _=>e0,rfl⟩
        ·cases hde
       ·cases hde
      obtain⟨M,hM⟩:∃M,M=min ys.length len:=⟨_,rfl⟩
      rw[←hM]at hk
      have hMl:M≤ys.length∧M≤len:=by omega
      obtain⟨news,hnl,hload,hnone,hnrep⟩:∃news:List Value,news.length=M*k1∧(Builtin.firstCells k1 M (.slice A2 ys.length c2)).run P w=.ok news.toArray w∧(∀u∈news,u.oneCell'=true)∧
        (∀(i:Nat) (x:List IV) (j:Nat) (y:IV) (u:Value),(ys.take M)[i]? =some x→x[j]? =some y→news[i*k1+j]? =some u→IRep (seen w (st.X m E.Y)) y u):=by
       by_cases hys:ys=[]
       ·subst hys
        have:M=0:=by simp at hM;omega
        subst this
        refine⟨[],by simp,?_,by simp,by simp⟩
        cases A2<;>simp[Builtin.firstCells,loadCells,loadCellsFrom]
       ·have hk2:k2=k1:=hk2.resolve_right hys
        subst hk2
        obtain⟨ad,u,rfl,hc⟩:=hcells hys
        have hat:∀p,p<M*k2→∃x y,ys[p / k2]? =some x∧x[p % k2]? =some y:=by
         intro p hp
         have hkp:0<k2:=by
          rcases Nat.eq_zero_or_pos k2 with e|e
          ·subst e;simp at hp
          ·exact e
         have h1:p / k2<M:=(Nat.div_lt_iff_lt_mul hkp).2 hp
         have h2:p % k2<k2:=Nat.mod_lt _ hkp
         have hx:=List.getElem?_eq_getElem (show p / k2<ys.length by omega)
         have hl:=hkl _ _ hx
         exact⟨_,_,hx,List.getElem?_eq_getElem (by omega)⟩
        refine⟨(List.range (M*k2)).map fun p=>u (p / k2) (p % k2),by simp,?_,?_,?_⟩
        ·have hcl:∀p,p<M*k2→w.cell? (ad.add p)=some (u (p / k2) (p % k2)):=by
          intro p hp
          obtain⟨x,y,h1,h2⟩:=hat p hp
          have:=(hc _ x _ y h1 h2).1
          rw[Nat.mul_comm,Nat.div_add_mod]at this
          exact this
         simp only[Builtin.firstCells]
         rw[run_loadCells w ad (M*k2) (fun p=>u (p / k2) (p % k2)) hcl]
        ·intro z hz
         simp only[List.mem_map,List.mem_range]at hz
         obtain⟨p,hp,rfl⟩:=hz
         obtain⟨x,y,h1,h2⟩:=hat p hp
         exact(hc _ x _ y h1 h2).2.2.1
        ·intro i x j y z g1 g2 g3
         rw[List.getElem?_take]at g1
         split at g1
         ·rename_i hiM
          have hxl:=hkl i x g1
          have hj:j<k2:=by have:=(List.getElem?_eq_some_iff.1 g2).1;omega
          have hk2:0<k2:=by omega
          simp only[List.getElem?_map,Option.map_eq_some_iff]at g3
          obtain⟨p,hp,rfl⟩:=g3
          obtain⟨hp,rfl⟩:=range_get hp
          have e1:(i*k2+j) / k2=i:=by rw[Nat.mul_comm,Nat.mul_add_div hk2,Nat.div_eq_of_lt hj,Nat.add_zero]
          have e2:(i*k2+j) % k2=j:=by rw[Nat.mul_comm,Nat.mul_add_mod,Nat.mod_eq_of_lt hj]
          rw[e1,e2]
          exact(hc _ x _ y g1 g2).2.1
         ·cases g1
      obtain⟨XS,hXS⟩:∃XS,XS=xs.take lo++ys.take M++xs.drop (lo+M):=⟨_,rfl⟩
      have hXl:XS.length=xs.length:=by rw[hXS];simp;omega
      have hXk:∀(i:Nat) (x:List IV),XS[i]? =some x→x.length=k1:=by
       intro i x hx
       have hmem:=List.mem_of_getElem? hx
       rw[hXS]at hmem
       simp only[List.mem_append]at hmem
       rcases hmem with(h1|h1)|h1
       ·obtain⟨j,hj⟩:=List.getElem?_of_mem (List.mem_of_mem_take h1);exact hlen j x hj
       ·obtain⟨j,hj⟩:=List.getElem?_of_mem (List.mem_of_mem_take h1)
        rcases hk2 with rfl|rfl
        ·exact hkl j x hj
        ·simp at hj
       ·obtain⟨j,hj⟩:=List.getElem?_of_mem (List.mem_of_mem_drop h1);exact hlen j x hj
      have exec:∀w',(Builtin.copy_ #[t,t'] ty #[a.eval d,a.eval s0]).run P w=.ok (.int .i64 M) w'→(execOp a.eval ⟨dst,.call c,ty,pos,after,guard⟩).run P w=.ok (.value (.int .i64 M)) w':=by
       intro w' hrun
       obtain⟨cal,args,tys⟩:=c
       simp only at hcal hargs htys
       subst hcal
       have h1:args=#[d,s0]:=by rw[←Array.toList_inj];exact hargs
       have h2:tys=#[t,t']:=by rw[←Array.toList_inj];exact htys
       subst h1 h2
       simp[execOp,resolve,invoke,builtin,hrun]
      have hmin:Nat.min ys.length len=M:=hM.symm
      rw[←hXS]at hk
      rw[hse2]at exec
      rw[hD]at exec
      have hfl:flat.length=xs.length*k1:=hown.1
      by_cases hM0:M=0
      ·
       have hn0:news=[]:=List.eq_nil_of_length_eq_zero (by rw[hnl,hM0];simp)
       rw[hn0]at hload
       have hrun:(Builtin.copy_ #[t,t'] ty #[.slice BD len cD,.slice A2 ys.length c2]).run P w=.ok (.int .i64 M) w:=by
        cases BD<;>simp[Builtin.copy_,run_underlying (elt_under he),Builtin.lenOf,hmin,run_tsz htk,hload,goInt,storeCells]
       have hXS':XS=xs:=by rw[hXS,hM0];simp
       have hs1:SimF E (st.setObj n (.row e k1 XS)) m a w:=h.same (fun _=>rfl) (fun x=>by
        rw[setObj_obj,hXS']
        split
        ·rename_i e';subst e';exact ho.symm
        ·rfl) (Nat.le_refl _) rfl h.grd
       exact wp_of_value (exec _ hrun) (hk _ _ _ (hs1.put dst (.im .sc)))
      ·rcases hown.2 with⟨hv',hz⟩|⟨g,cap,cur,hv',hbg,hh,hnc,hcm,hcs,htake⟩
       ·omega
       ·have hA:A=some ⟨g,0,none⟩∧cp=cap:=by injection hv' with e1 e2 e3;exact⟨e1,e3⟩
        obtain⟨rfl,rfl⟩:=hA
        rw[hBD (by omega)]at exec
        have hb1:(lo+M)*k1≤xs.length*k1:=Nat.mul_le_mul_right _ (by omega)
        have hb2:xs.length*k1≤cp*k1:=Nat.mul_le_mul_right _ hnc
        have hb3:(lo+M)*k1=lo*k1+M*k1:=Nat.add_mul _ _ _
        have hst:=run_storeCells_at P g (lo*k1) e news 0 cur w hh (by omega) hnone
        simp only[Nat.add_zero]at hst
        have hadd:((some ⟨g,0,none⟩:Option Addr).map fun a=>a.add (lo*k1))=some ⟨g,lo*k1,none⟩:=by simp[add_at]
        have hrun:(Builtin.copy_ #[t,t'] ty #[.slice ((some ⟨g,0,none⟩:Option Addr).map fun a=>a.add (lo*k1)) len cD,.slice A2 ys.length c2]).run P w=.ok (.int .i64 M) (w.setRow g (cur.toList.take (lo*k1)++news++cur.toList.drop (lo*k1+news.length)).toArray):=by
         rw[hadd]
         simp[Builtin.copy_,run_underlying (elt_under he),Builtin.lenOf,hmin,run_tsz htk,hload,goInt,hst]
        have hs1:=h.upd (w':=w.setRow g (cur.toList.take (lo*k1)++news++cur.toList.drop (lo*k1+news.length)).toArray) ho rfl hl rfl (grownBy_setRow _ _ _) (.row e k1 XS) rfl
         ⟨some ⟨g,0,none⟩,cp,flat.take (lo*k1)++news++flat.drop (lo*k1+news.length),by rw[hXl],?_,?_,hXk,?_⟩
        ·exact wp_of_value (exec _ hrun) (hk _ _ _ (hs1.put dst (.im .sc)))
        ·rw[hXl]
         refine⟨by simp only[List.length_append,List.length_take,List.length_drop,hfl,hnl];omega,.inr ⟨g,cp,_,rfl,Nat.zero_le _,setRow_heap w g cur _ e _ hh,hnc,hcm,by simp only[List.size_toArray,List.length_append,List.length_take,List.length_drop,Array.length_toList,hcs,hnl];omega,?_⟩⟩
         simp only[List.toList_toArray]
         rw[←htake,List.take_take,Nat.min_eq_left (by omega)]
         rw[List.take_append,List.take_append]
         simp only[List.length_append,List.length_take,Array.length_toList]
         rw[List.take_of_length_le (by simp;omega),List.take_of_length_le (l:=news) (by rw[hnl];omega),List.drop_take]
         congr 2
         omega
        ·intro u hu
         simp only[List.mem_append]at hu
         rcases hu with(hu|hu)|hu
         ·exact hone u (List.mem_of_mem_take hu)
         ·exact hnone u hu
         ·exact hone u (List.mem_of_mem_drop hu)
        ·intro i x j y u g1 g2 g3
         have hj:j<k1:=by have:=(List.getElem?_eq_some_iff.1 g2).1;rw[hXk i x g1]at this;exact this
         rw[hXS]at g1
         rw[List.getElem?_append,List.getElem?_append]at g1
         rw[List.getElem?_append,List.getElem?_append]at g3
         simp only[List.length_append,List.length_take,Nat.min_eq_left (show lo≤xs.length by omega),Nat.min_eq_left hMl.1,hfl,hnl,Nat.min_eq_left (show lo*k1≤xs.length*k1 by omega)]at g1 g3
         have hik:∀q,i<q→i*k1+j<q*k1:=by
          intro q hq
          calc i*k1+j<i*k1+k1:=by omega
           _=(i+1)*k1:=by rw[Nat.succ_mul]
           _≤q*k1:=Nat.mul_le_mul_right _ hq
         have hik':∀q,q≤i→q*k1≤i*k1+j:=fun q hq=>Nat.le_trans (Nat.mul_le_mul_right _ hq) (by omega)
         by_cases c1:i<lo
         ·have:=hik lo c1
          rw[if_pos (by omega),if_pos c1,List.getElem?_take,if_pos c1]at g1
          rw[if_pos (by omega),if_pos this,List.getElem?_take,if_pos this]at g3
          exact hr i x j y u g1 g2 g3
         ·have h1:=hik' lo (by omega)
          by_cases c2:i<lo+M
          ·have h2:=hik (lo+M) c2
           rw[if_pos c2,if_neg c1]at g1
           rw[if_pos (by omega),if_neg (by omega)]at g3
           refine hnrep (i-lo) x j y u g1 g2 ?_
           have h3:lo*k1≤i*k1:=Nat.mul_le_mul_right _ (by omega)
           rw[←g3,Nat.sub_mul]
           congr 1
           omega
          ·have h2:=hik' (lo+M) (by omega)
           rw[if_neg c2,List.getElem?_drop]at g1
           rw[if_neg (by omega),List.getElem?_drop]at g3
           rw[show lo+M+(i-(lo+M))=i by omega]at g1
           rw[show lo*k1+M*k1+(i*k1+j-(lo*k1+M*k1))=i*k1+j by omega]at g3
           exact hr i x j y u g1 g2 g3
     ·cases hd
    ·cases hd
   ·cases hd
  ·cases hd
 ·cases hd
theorem NextK.sound {o:Oper} {x:Operand} (ho:o.op=.next x false) {k:St→Prop} {K:Act→World→Prop} {Q:Exit→Act→World→Prop} (h:SimF E st m a w) (hn:NextK st o x k)
  (hk:∀st' m' a' w',k st'→SimF E st' m' a' w'→K a' w'):o.wp P a w K Q:=by
 obtain⟨dst,op,ty,pos,after,guard⟩:=o
 simp only at ho
 subst ho
 obtain⟨r,n,since,sn,q,xs,hxe,hor,hon,rfl,h1,h2⟩:=hn
 have hx:=ev_rep h.get x
 rw[hxe]at hx
 generalize hxv:a.eval x=xv at hx
 cases hx with|@ptr _ _ rb hm=>
 obtain⟨l,hl,rb',bm,rfl,hnb,hh⟩:=h.objs r _ hor
 rw[hl]at hm;cases hm
 obtain⟨l2,hl2,b,es,rfl,hh2,hsz,hr⟩:=h.objs n _ hon
 rw[hl2]at hnb;cases hnb
 have hborn:∀(j:Nat) (e2:MapEntry),es[j]? =some e2→e2.born=j:=by
  intro j e2 hj
  have hj':j<xs.length:=by have:=(Array.getElem?_eq_some_iff.1 hj).1;omega
  exact(hr j _ e2 (List.getElem?_eq_getElem hj') hj).1
 have hold:∀x∈es.toList,x.born<xs.length:=by
  intro e he
  obtain⟨j,hj,rfl⟩:=List.mem_iff_getElem.1 he
  simp at hj
  rw[Array.getElem_toList,hborn j _ (Array.getElem?_eq_getElem hj)]
  omega
 rcases run_next_at (P:=P) w ty rb bm xs.length xs.length sn.toArray es xs.length hh hh2 hold (Nat.le_refl _)with⟨hz,hrun⟩|⟨e,he,w1,hw1,hrun⟩
 ·refine wp_of_value (v:=.tuple #[.bool false]) (w':=w) (by simp[execOp,hxv,hrun]) (hk _ _ _ _ (h2 fun i hi=>?_) (h.put dst ?_))
  ·by_cases hc:i∈sn
   ·exact hc
   ·exfalso
    have hmem:es[i]'(by omega)∈leftOf es sn.toArray:=by
     unfold leftOf
     simp[hborn i _ (Array.getElem?_eq_getElem (by omega)),hc]
    have:=Array.size_pos_of_mem hmem
    omega
  ·exact .tup rfl (fun j y z g1 g2=>by
    match j with
    |0=>simp at g1 g2;subst g1 g2;exact .im .sc
    |j+1=>simp at g1)
 ·have he':e∈es∧e.born∉sn:=by
   unfold leftOf at he
   simpa using he
  obtain⟨i,hi,rfl⟩:=Array.mem_iff_getElem.1 he'.1
  have hb:=hborn i _ (Array.getElem?_eq_getElem hi)
  have hw1h:w1.heap=w.heap:=by rcases hw1 with rfl|rfl<;>rfl
  obtain⟨y,hy⟩:∃y,xs[i]? =some y:=⟨xs[i]'(by omega),List.getElem?_eq_getElem (by omega)⟩
  obtain⟨g1,g2,g3⟩:=hr i y _ hy (Array.getElem?_eq_getElem hi)
  have hrl:rb<w1.heap.size:=by rw[hw1h];exact(Array.getElem?_eq_some_iff.1 hh).1
  have hgr:w.grownBy (setBlock w1 rb (.mapIter (some bm) xs.length (sn.toArray.push es[i].born) xs.length)) (some rb):=by
   have:=grownBy_setBlock w1 rb (.mapIter (some bm) xs.length (sn.toArray.push es[i].born) xs.length)
   rcases hw1 with rfl|rfl
   ·exact this
   ·exact⟨this.os,this.tape,this.output,this.size,this.block⟩
  have hdw:=sem_drawn _ _ _ _ hrun
  have hs:=h.upd (w':=setBlock w1 rb (.mapIter (some bm) xs.length (sn.toArray.push es[i].born) xs.length)) hor rfl hl rfl hgr (.it n xs.length (sn++[i])) rfl
   ⟨rb,bm,rfl,hl2,by rw[heap_setBlock w1 rb _ hrl,hb];simp⟩
  refine wp_of_value (v:=.tuple #[.bool true,es[i].key,es[i].val]) (w':=_) (by simp[execOp,hxv,hrun]) (hk _ _ _ _ (h1 i y hy (by rw[←hb];exact he'.2)) (hs.put dst ?_))
  have hX:(st.setObj r (.it n xs.length (sn++[i]))).X m E.Y=st.X m E.Y:=by
   funext x
   show((st.setObj r _).owned m x∨E.Y x)=_
   rw[setObj_owned hor rfl rfl]
  have hc:∀p v,seen w (st.X m E.Y) p v→seen (setBlock w1 rb (.mapIter (some bm) xs.length (sn.toArray.push es[i].born) xs.length)) ((st.setObj r (.it n xs.length (sn++[i]))).X m E.Y) p v:=by
   rw[hX]
   exact seen_mono (fun k hk hx=>hgr.block k hk (fun e=>hx (by cases e;exact .inl ⟨r,_,_,hor,rfl,hl,rfl⟩))) (fun _ _ h=>h)
  exact .tup rfl (fun j y' z k1 k2=>by
   match j with
   |0=>simp at k1 k2;subst k1 k2;exact .im .sc
   |1=>simp at k1 k2;subst k1 k2;rw[g2];exact .im .sc
   |2=>simp at k1 k2;subst k1 k2;exact(g3.mono (fun _ _ h=>h) hc)
   |j+3=>simp at k1)
end Go.Am
