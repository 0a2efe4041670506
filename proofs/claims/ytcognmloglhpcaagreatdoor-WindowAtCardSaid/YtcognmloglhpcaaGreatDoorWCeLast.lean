/-
  the law WindowAt returns true for every input; no conditions.
-/
import Derived.Test.YtcognmloglhpcaaGreatDoorCards
import Derived.Test.YtcognmloglhpcaaGreatDoorTie
import Derived.ProofKit
import Derived.LaidMore
import Derived.OpenShut
import Derived.Stop.Joined
import Derived.SevenTiedAt
import Derived.Test.YtcognmloglhpcaaGreatDoorWC8
set_option linter.unusedVariables false
set_option linter.unusedSimpArgs false
set_option linter.unusedSectionVars false
namespace Go.Proofs.YtcognmloglhpcaaGreatDoor
open Go.Am Go.ChangeShapes Go.WideShapes Go.ChangeAt Go.RowKit
theorem own:ownKnob Tryz.prog.godebug=none:=by kernel_rfl
theorem laidOut:laidOutB Tryz.prog=true:=by kernel_rfl
theorem shNet:[28,3,4,31,43,2].mapM (shT Tryz.prog 10)=some [pastSh,[.int .i64],[.bool],addrSh,ivlSh,[.int .i64]]:=by kernel_rfl
theorem gKinds:Tryz.prog.globalNamed "spoor/walk.kinds" =some 0:=by kernel_rfl
theorem tKinds:(Tryz.prog.globals[0]?).map (·.type)=some 270:=by kernel_rfl
abbrev laidK:List (String×DataW Unit):=[("spoor/walk.kinds",Rows.laid_spoor_walk_kinds)]
theorem door_met (os:Os) (args:Array Value):laidMetH Tryz.prog laidK ((World.doorLaid Tryz.prog 400 os).forCall (fun _ _=>0) ⟨#[],args,[]⟩).memory:=
 laidMetH_of_parts3 (fuel:=8) (laidMet_of_run' 8 (by kernel_rfl) (by kernel_rfl)) (by kernel_rfl) (by kernel_rfl)
set_option maxRecDepth 100000 in
theorem of_laid {W:World} (h:laidMetH Tryz.prog laidK W):W.cell? ⟨0,0,none⟩=some (.int .u8 3)∧W.cell? ⟨0,1,none⟩=some (.int .u8 4)∧W.cell? ⟨0,2,none⟩=some (.int .u8 1)∧W.cell? ⟨0,3,none⟩=some (.int .u8 2):=by
 rw[MakeChecks.laidMetH_plain _ _ _ (by kernel_rfl)]at h
 obtain⟨ps,⟨g0,t0,cs0,f0,p0,q0,hg0,ht0,hv0,hd0,_,_⟩,_,_⟩:=h
 obtain rfl:=Option.some.inj (gKinds.symm.trans hg0)
 obtain rfl:=Option.some.inj (tKinds.symm.trans ht0)
 obtain⟨xs,m1,rfl,hx1,hlen,hn4,hel⟩:=DataW.trod_array Tryz.underlying270 hd0
 have c1:Tryz.prog.cellsOf 33=1:=by kernel_rfl
 have c4:Tryz.prog.cellsOf 270=4:=by kernel_rfl
 rw[c4]at hlen
 have h0:=hel 0 (by decide)
 have h1:=hel 1 (by decide)
 have h2:=hel 2 (by decide)
 have h3:=hel 3 (by decide)
 rw[c1]at h0 h1 h2 h3
 simp only[Prod.mk.injEq]at hx1
 have hcell:=World.var?_cell hg0 hv0
 obtain⟨l⟩:=cs0
 match xs,hn4,l,hlen with
 |[x0,x1,x2,x3],_,[u0,u1,u2,u3],_=>
  have hx:=hx1.1
  simp only[Rows.laid_spoor_walk_kinds,DataW.agg.injEq,List.map_cons,List.map_nil,List.cons.injEq,and_true]at hx
  have one:∀{x:DataW Unit×List MemPlace} {u:Value} {k:Int},DataW.trod (fun _=>()) Tryz.prog W 0 (fun _=>true) false m1 33 [u]=some x→DataW.lit (.int .u8 k)=x.1→u=.int .u8 k:=by
   intro x u k h e
   obtain⟨k',e1,e2,_⟩:=DataW.trod_int Tryz.underlying33 h
   rw[e2]at e
   simp at e e1
   rw[e1,e]
  have k0:=one (by simpa using h0) hx.1
  have k1:=one (by simpa using h1) hx.2.1
  have k2:=one (by simpa using h2) hx.2.2.1
  have k3:=one (by simpa using h3) hx.2.2.2
  subst k0 k1 k2 k3
  exact⟨by simpa using hcell 0,by simpa using hcell 1,by simpa using hcell 2,by simpa using hcell 3⟩
theorem kinds_gl {W:World} (h:laidMetH Tryz.prog laidK W):∀(g:Nat) (cs:List IV),Go.Am.look [(0,kindsIV)] g=some cs→∃u:Nat→Value,∀(j:Nat) (y:IV),cs[j]? =some y→(u j).oneCell'=true∧W.cell? ⟨g,j,none⟩=some (u j)∧IRep (fun _ _=>False) y (u j):=by
 obtain⟨h0,h1,h2,h3⟩:=of_laid h
 intro g cs hg
 simp only[Go.Am.look]at hg
 split at hg
 ·rename_i e
  subst e
  cases hg
  refine⟨fun j=>match j with|0=>.int .u8 3|1=>.int .u8 4|2=>.int .u8 1|_=>.int .u8 2,fun j y hy=>?_⟩
  match j with
  |0=>simp[kindsIV]at hy;subst hy;exact⟨rfl,h0,.sc⟩
  |1=>simp[kindsIV]at hy;subst hy;exact⟨rfl,h1,.sc⟩
  |2=>simp[kindsIV]at hy;subst hy;exact⟨rfl,h2,.sc⟩
  |3=>simp[kindsIV]at hy;subst hy;exact⟨rfl,h3,.sc⟩
  |j+4=>simp[kindsIV]at hy
 ·cases hg
set_option maxRecDepth 100000 in
theorem windowAt_lifted (os:Os) (started:os.Started) (H:Type) (enc:TypeId×Value→H):
  ReturnsInHanded {} Tryz.checked os 7 .any (fun w args=>(Rows.windowAtSpec.pre enc Tryz.prog Tryz.f7 [] false w args∧laidMetH Tryz.prog laidK w)∧sizedMet enc Tryz.prog Tryz.f7 (OpenSpec.ofChange Rows.windowAtSpec) false w args)
   (Rows.windowAtSpec.post enc Tryz.prog Tryz.f7 false true false false):=by
 refine returnsInHanded_of_change_and (C:=Tryz.checked) (X:=fun w _=>laidMetH Tryz.prog laidK w) (fun _ _ _ hh h=>h.of_heap hh) own started (by kernel_rfl) Tryz.func7
  (ChangeSpec.witness_shaped (enc:=enc) (C:=Tryz.checked) (os:=os) (X:=fun w _=>laidMetH Tryz.prog laidK w) false (World.doorLaid Tryz.prog 400 os) #[.agg #[.slice none 0 0,.slice none 0 0,.int .i64 0,.slice none 0 0],.int .i64 0,.bool false,.agg #[.int .u64 0,.int .u64 0],.agg #[.int .i64 0,.int .i64 0],.int .i64 0] 8 rfl (World.shaped_of_RefB (by kernel_rfl) (by kernel_rfl)) (by kernel_rfl) (by kernel_rfl) (by kernel_rfl) (door_met os _)) ?_
 intro W base args ds gs before hval hW _ _ hL _
 refine law_contractL (n:=10) (ss:=[pastSh,[.int .i64],[.bool],addrSh,ivlSh,[.int .i64]]) (ts:=[28,3,4,31,43,2]) (tb:=4) laidOut rfl rfl Tryz.underlying4 (by kernel_rfl) shNet rfl hval hW [(0,kindsIV)] (kinds_gl hL) ?_ ?_
 ·intro xs hx _
  obtain⟨p,r,s,x,w,t,hp,hx,e_⟩:=args_wat hx
  rw[e_]
  exact windowAt_spec p r s x w.1 w.2 t hp hx
 ·intro d hd
  match d,hd with
  |[_,_,_,_,_,_],_=>rfl
theorem windowAt_lm0:(Rows.windowAtRow.wf (OpenSpec.ofChange Rows.windowAtSpec))=true:=by kernel_rfl
theorem windowAt_lm1:(laidOutB Tryz.prog)=true:=by kernel_rfl
theorem windowAt_lm2:(mapsRowed Tryz.prog)=true:=by kernel_rfl
theorem windowAt_lm3:((Tryz.f7).params.all (Tryz.prog.readableRec ·))=true:=by kernel_rfl
theorem windowAt_lm4:(namedTie Tryz.prog Rows.windowAtRow.named Rows.windowAtSpec.vars)=true:=by kernel_rfl
theorem windowAt_lm5:((Rows.windowAtRow.stops==[]))=true:=by kernel_rfl
theorem windowAt_lm6:((Tryz.prog.stops==[]))=true:=by kernel_rfl
theorem windowAt_lm7:((Rows.windowAtRow.knobs==[]))=true:=by kernel_rfl
theorem windowAt_lm8:((Tryz.prog.stopKnobs==[]))=true:=by kernel_rfl
theorem windowAt_lm9:((Rows.windowAtRow.inPlace==Tryz.prog.inPlace 7))=true:=by kernel_rfl
theorem windowAt_lm10:((Rows.windowAtRow.unfollowed==Tryz.prog.unfollowed 7))=true:=by kernel_rfl
theorem windowAt_lm11:((Rows.windowAtRow.recurses==Tryz.prog.recurses 7))=true:=by kernel_rfl
theorem windowAt_lm12:((Rows.windowAtRow.named==Tryz.prog.varsNamed 7))=true:=by kernel_rfl
theorem windowAt_lm13:((Rows.windowAtRow.maps==((Tryz.f7).params.toList++Rows.windowAtSpec.plain.varTypes Tryz.prog).any (Tryz.prog.mapsRec ·)))=true:=by kernel_rfl
theorem windowAt_lm14:((Rows.windowAtRow.ifaces==((Tryz.f7).params.toList++Rows.windowAtSpec.plain.varTypes Tryz.prog).any (Tryz.prog.ifacesRec ·)))=true:=by kernel_rfl
theorem windowAt_lm15:((Rows.windowAtRow.mapsOut==Tryz.prog.mapsAmong (Tryz.f7).resultTypes.toList))=true:=by kernel_rfl
theorem windowAt_lm16:((Rows.windowAtRow.loops==((Tryz.f7).params.toList++Rows.windowAtSpec.plain.varTypes Tryz.prog).any (Tryz.prog.loopsFrom ·)))=true:=by kernel_rfl
theorem windowAt_lm17:((Rows.windowAtRow.wideKeys==((Tryz.f7).params.toList++Rows.windowAtSpec.plain.varTypes Tryz.prog++(Tryz.f7).resultTypes.toList).any (Tryz.prog.wideKeysFrom ·)))=true:=by kernel_rfl
theorem windowAt_lm18:(Rows.windowAtSpec.vars.all (Tryz.prog.varReadable ·))=true:=by kernel_rfl
theorem windowAt_lm19:((Tryz.f7).resultTypes.all (fun t=>Tryz.prog.readableRec t&&decide (t<Tryz.prog.types.size)))=true:=by kernel_rfl
theorem windowAt_lm20:((Rows.windowAtRow.ifacesOut==(Tryz.f7).resultTypes.toList.any (Tryz.prog.ifacesRec ·)))=true:=by kernel_rfl
theorem windowAt_lm21:((Rows.windowAtRow.loopsOut==(Tryz.f7).resultTypes.toList.any (Tryz.prog.loopsFrom ·)))=true:=by kernel_rfl
theorem windowAt_lm22:((Rows.windowAtRow.plainKeys==Tryz.prog.plainKeys))=true:=by kernel_rfl
theorem windowAt_lm23:(Rows.windowAtRow.shortTexts.isNone)=true:=by kernel_rfl
theorem windowAt_lm24:(Tryz.prog.stopsHeard)=true:=by kernel_rfl
theorem windowAt_lm25:(Tryz.prog.mayEnter)=true:=by kernel_rfl
theorem windowAt_lm26:((Rows.windowAtRow.lifted==Tryz.prog.liftsFinal))=true:=by kernel_rfl
theorem windowAt_lm27:((Tryz.prog.make==some Rows.windowAtRow.make))=true:=by kernel_rfl
theorem windowAt_lm28:((Rows.windowAtRow.kinds==[]))=true:=by kernel_rfl
theorem windowAt_lm29:((Rows.windowAtRow.pinned==Rows.windowAtRow.pinnedBy))=true:=by kernel_rfl
theorem windowAt_lm30:((Rows.windowAtRow.veiled==((Tryz.f7).params.toList++Rows.windowAtSpec.plain.varTypes Tryz.prog++(Tryz.f7).resultTypes.toList).any (Tryz.prog.veiledRec ·)))=true:=by kernel_rfl
theorem windowAt_lm31:(Rows.windowAtRow.veiledFits Tryz.prog (Tryz.f7).params.toList ((Tryz.f7).params.toList++Rows.windowAtSpec.plain.varTypes Tryz.prog++(Tryz.f7).resultTypes.toList))=true:=by kernel_rfl
theorem windowAt_lmD:Rows.windowAtRow.domain.isEmpty=true:=rfl
theorem windowAt_closed:joinedFacts Tryz.prog 7 Tryz.f7 Rows.windowAtSpec Rows.windowAtRow=true:=by
 unfold joinedFacts
 rw[windowAt_lm0,windowAt_lm1,windowAt_lm2,windowAt_lm3,windowAt_lm4,windowAt_lm5,windowAt_lm6,windowAt_lm7,windowAt_lm8,windowAt_lm9,windowAt_lm10,windowAt_lm11,windowAt_lm12,windowAt_lm13,windowAt_lm14,windowAt_lm15,windowAt_lm16,windowAt_lm17,windowAt_lm18,windowAt_lm19,windowAt_lm20,windowAt_lm21,windowAt_lm22,windowAt_lm23,windowAt_lm24,windowAt_lm25,windowAt_lm26,windowAt_lm27,if_pos windowAt_lmD,windowAt_lm28,windowAt_lm29,windowAt_lm30,windowAt_lm31]
 rfl
theorem windowAt_cn:Tryz.prog.funcNamed "spoor/spoorlaw26.WindowAt" =some 7:=by kernel_rfl
theorem windowAt_cw:Rows.windowAtRow.wfByText (OpenSpec.ofChange Rows.windowAtSpec)=true:=by kernel_rfl
theorem windowAt_cm:Tryz.pinned.checked.prog.mainIs=some (true, "ef07591c9c9d316fdfc30bc97991a05ac923ff82716717ed9dc8fa9471a9962d".toList):=by kernel_rfl
theorem windowAt_cl:false=Tryz.pinned.checked.prog.looks []:=by kernel_rfl
theorem windowAt_cg:false=Rows.windowAtRow.goesBy Tryz.pinned.checked.prog:=by kernel_rfl
theorem windowAt_cs:([28,3,4,31,43,2].all fun u=>!Tryz.prog.wantsStandIn u)=true:=by kernel_rfl
theorem windowAt_said:Rows.WindowAtSaid:=
 OpenClaim.holds_of_wide 7 Tryz.f7 rfl rfl rfl rfl rfl rfl rfl ⟨rfl,rfl,rfl,rfl,rfl⟩ rfl rfl rfl rfl rfl windowAt_cn Tryz.func7 windowAt_closed
  (of_decide_eq_true (by kernel_rfl)) (by unfold Func.isWrapper;first|(rw[if_pos (by decide+kernel)];kernel_rfl)|(rw[if_neg (by decide+kernel)];exact⟨rfl,rfl⟩))
  (fun os started H enc _=>windowAt_lifted os started H enc)
theorem windowAt_holds:Rows.WindowAtCardSaid:=
 Claim7.holds_tied_plain_at .later [] [.data] true (true, "ef07591c9c9d316fdfc30bc97991a05ac923ff82716717ed9dc8fa9471a9962d") false
  windowAt_said (fun _ h=>by cases h) windowAt_cw (fun _ h=>by cases h) windowAt_row_tie rfl ⟨rfl,rfl⟩ windowAt_cm rfl
  (fun f fn hf hfn=>by
   obtain rfl:f=7:=Option.some.inj (windowAt_cn.symm.trans hf)|>.symm
   obtain rfl:fn=Tryz.f7:=(Option.some.inj (Tryz.func7.symm.trans hfn)).symm
   exact⟨windowAt_cl,fun j t ht=>by
    rw[Tryz.params7]at ht
    have hm:t∈[28,3,4,31,43,2]:=by simpa using Array.mem_of_getElem? ht
    exact(show Tryz.prog.wantsStandIn t=false by simpa using List.all_eq_true.1 windowAt_cs t hm)⟩)
  windowAt_cg
end Go.Proofs.YtcognmloglhpcaaGreatDoor
