/-
  the law WindowCauses returns true for every input; no conditions.
-/
import Derived.Test.YtcognmloglhpcaaGreatDoorCards
import Derived.Test.YtcognmloglhpcaaGreatDoorTie
import Derived.ProofKit
import Derived.LaidMore
import Derived.OpenShut
import Derived.Stop.Joined
import Derived.SevenTiedAt
import Derived.Test.YtcognmloglhpcaaGreatDoorWD9
set_option linter.unusedVariables false
set_option linter.unusedSimpArgs false
set_option linter.unusedSectionVars false
namespace Go.Proofs.YtcognmloglhpcaaGreatDoor
open Go.Am Go.ChangeShapes Go.WideShapes Go.ChangeAt Go.RowKit
theorem own:ownKnob Tryz.prog.godebug=none:=by kernel_rfl
theorem laidOut:laidOutB Tryz.prog=true:=by kernel_rfl
theorem shNet:[28,3,4,31,43].mapM (shT Tryz.prog 10)=some [pastSh,[.int .i64],[.bool],addrSh,ivlSh]:=by kernel_rfl
theorem gKinds:Tryz.prog.globalNamed "spoor/walk.kinds" =some 0:=by kernel_rfl
theorem tKinds:(Tryz.prog.globals[0]?).map (·.type)=some 270:=by kernel_rfl
abbrev laidK:List (String×DataW Unit):=[("spoor/walk.kinds",Rows.laid_spoor_walk_kinds)]
theorem door_met (os:Os) (args:Array Value):laidMetH Tryz.prog laidK ((World.doorLaid Tryz.prog 400 os).forCall (fun _ _=>0) ⟨#[],args,[]⟩).memory:=
 laidMetH_of_parts3 (fuel:=8) (laidMet_of_run' 8 (by kernel_rfl) (by kernel_rfl)) (by kernel_rfl) (by kernel_rfl)
set_option maxRecDepth 100000 in
theorem of_laid {W:World} (h:laidMetH Tryz.prog laidK W):W.cell? ⟨0,0,none⟩=some (.int .u8 3)∧W.cell? ⟨0,1,none⟩=some (.int .u8 4)∧W.cell? ⟨0,2,none⟩=some (.int .u8 1)∧W.cell? ⟨0,3,none⟩=some (.int .u8 2):=by
 rw[MakeChecks.laidMetH_plain _ _ _ (by kernel_rfl)]at h
 obtain⟨ps,⟨g0,t0,cs0,f0,p0,q0,hg0,ht0,hv0,hd0,_,_⟩,_,_⟩:=h
 obtain rfl:=Option.some.inj (gKinds.symm.trans hg0)
 obtain rfl:=Option.some.inj (tKinds.symm.trans ht0)
 obtain⟨xs,m1,rfl,hx1,hlen,hn4,hel⟩:=DataW.trod_array Tryz.underlying270 hd0
 have c1:Tryz.prog.cellsOf 33=1:=by kernel_rfl
 have c4:Tryz.prog.cellsOf 270=4:=by kernel_rfl
 rw[c4]at hlen
 have h0:=hel 0 (by decide)
 have h1:=hel 1 (by decide)
 have h2:=hel 2 (by decide)
 have h3:=hel 3 (by decide)
 rw[c1]at h0 h1 h2 h3
 simp only[Prod.mk.injEq]at hx1
 have hcell:=World.var?_cell hg0 hv0
 obtain⟨l⟩:=cs0
 match xs,hn4,l,hlen with
 |[x0,x1,x2,x3],_,[u0,u1,u2,u3],_=>
  have hx:=hx1.1
  simp only[Rows.laid_spoor_walk_kinds,DataW.agg.injEq,List.map_cons,List.map_nil,List.cons.injEq,and_true]at hx
  have one:∀{x:DataW Unit×List MemPlace} {u:Value} {k:Int},DataW.trod (fun _=>()) Tryz.prog W 0 (fun _=>true) false m1 33 [u]=some x→DataW.lit (.int .u8 k)=x.1→u=.int .u8 k:=by
   intro x u k h e
   obtain⟨k',e1,e2,_⟩:=DataW.trod_int Tryz.underlying33 h
   rw[e2]at e
   simp at e e1
   rw[e1,e]
  have k0:=one (by simpa using h0) hx.1
  have k1:=one (by simpa using h1) hx.2.1
  have k2:=one (by simpa using h2) hx.2.2.1
  have k3:=one (by simpa using h3) hx.2.2.2
  subst k0 k1 k2 k3
  exact⟨by simpa using hcell 0,by simpa using hcell 1,by simpa using hcell 2,by simpa using hcell 3⟩
theorem kinds_gl {W:World} (h:laidMetH Tryz.prog laidK W):∀(g:Nat) (cs:List IV),Go.Am.look [(0,kindsIV)] g=some cs→∃u:Nat→Value,∀(j:Nat) (y:IV),cs[j]? =some y→(u j).oneCell'=true∧W.cell? ⟨g,j,none⟩=some (u j)∧IRep (fun _ _=>False) y (u j):=by
 obtain⟨h0,h1,h2,h3⟩:=of_laid h
 intro g cs hg
 simp only[Go.Am.look]at hg
 split at hg
 ·rename_i e
  subst e
  cases hg
  refine⟨fun j=>match j with|0=>.int .u8 3|1=>.int .u8 4|2=>.int .u8 1|_=>.int .u8 2,fun j y hy=>?_⟩
  match j with
  |0=>simp[kindsIV]at hy;subst hy;exact⟨rfl,h0,.sc⟩
  |1=>simp[kindsIV]at hy;subst hy;exact⟨rfl,h1,.sc⟩
  |2=>simp[kindsIV]at hy;subst hy;exact⟨rfl,h2,.sc⟩
  |3=>simp[kindsIV]at hy;subst hy;exact⟨rfl,h3,.sc⟩
  |j+4=>simp[kindsIV]at hy
 ·cases hg
set_option maxRecDepth 100000 in
theorem windowCauses_lifted (os:Os) (started:os.Started) (H:Type) (enc:TypeId×Value→H):
  ReturnsInHanded {} Tryz.checked os 8 .any (fun w args=>(Rows.windowCausesSpec.pre enc Tryz.prog Tryz.f8 [] false w args∧laidMetH Tryz.prog laidK w)∧sizedMet enc Tryz.prog Tryz.f8 (OpenSpec.ofChange Rows.windowCausesSpec) false w args)
   (Rows.windowCausesSpec.post enc Tryz.prog Tryz.f8 false true false false):=by
 refine returnsInHanded_of_change_and (C:=Tryz.checked) (X:=fun w _=>laidMetH Tryz.prog laidK w) (fun _ _ _ hh h=>h.of_heap hh) own started (by kernel_rfl) Tryz.func8
  (ChangeSpec.witness_shaped (enc:=enc) (C:=Tryz.checked) (os:=os) (X:=fun w _=>laidMetH Tryz.prog laidK w) false (World.doorLaid Tryz.prog 400 os) #[.agg #[.slice none 0 0,.slice none 0 0,.int .i64 0,.slice none 0 0],.int .i64 0,.bool false,.agg #[.int .u64 0,.int .u64 0],.agg #[.int .i64 0,.int .i64 0]] 8 rfl (World.shaped_of_RefB (by kernel_rfl) (by kernel_rfl)) (by kernel_rfl) (by kernel_rfl) (by kernel_rfl) (door_met os _)) ?_
 intro W base args ds gs before hval hW _ _ hL _
 refine law_contractL (n:=10) (ss:=[pastSh,[.int .i64],[.bool],addrSh,ivlSh]) (ts:=[28,3,4,31,43]) (tb:=4) laidOut rfl rfl Tryz.underlying4 (by kernel_rfl) shNet rfl hval hW [(0,kindsIV)] (kinds_gl hL) ?_ ?_
 ·intro xs hx _
  obtain⟨p,r,s,x,w,hp,hx,e_⟩:=args_wever hx
  rw[e_]
  exact windowCauses_spec p r s x w.1 w.2 hp hx
 ·intro d hd
  match d,hd with
  |[_,_,_,_,_],_=>rfl
theorem windowCauses_lm0:(Rows.windowCausesRow.wf (OpenSpec.ofChange Rows.windowCausesSpec))=true:=by kernel_rfl
theorem windowCauses_lm1:(laidOutB Tryz.prog)=true:=by kernel_rfl
theorem windowCauses_lm2:(mapsRowed Tryz.prog)=true:=by kernel_rfl
theorem windowCauses_lm3:((Tryz.f8).params.all (Tryz.prog.readableRec ·))=true:=by kernel_rfl
theorem windowCauses_lm4:(namedTie Tryz.prog Rows.windowCausesRow.named Rows.windowCausesSpec.vars)=true:=by kernel_rfl
theorem windowCauses_lm5:((Rows.windowCausesRow.stops==[]))=true:=by kernel_rfl
theorem windowCauses_lm6:((Tryz.prog.stops==[]))=true:=by kernel_rfl
theorem windowCauses_lm7:((Rows.windowCausesRow.knobs==[]))=true:=by kernel_rfl
theorem windowCauses_lm8:((Tryz.prog.stopKnobs==[]))=true:=by kernel_rfl
theorem windowCauses_lm9:((Rows.windowCausesRow.inPlace==Tryz.prog.inPlace 8))=true:=by kernel_rfl
theorem windowCauses_lm10:((Rows.windowCausesRow.unfollowed==Tryz.prog.unfollowed 8))=true:=by kernel_rfl
theorem windowCauses_lm11:((Rows.windowCausesRow.recurses==Tryz.prog.recurses 8))=true:=by kernel_rfl
theorem windowCauses_lm12:((Rows.windowCausesRow.named==Tryz.prog.varsNamed 8))=true:=by kernel_rfl
theorem windowCauses_lm13:((Rows.windowCausesRow.maps==((Tryz.f8).params.toList++Rows.windowCausesSpec.plain.varTypes Tryz.prog).any (Tryz.prog.mapsRec ·)))=true:=by kernel_rfl
theorem windowCauses_lm14:((Rows.windowCausesRow.ifaces==((Tryz.f8).params.toList++Rows.windowCausesSpec.plain.varTypes Tryz.prog).any (Tryz.prog.ifacesRec ·)))=true:=by kernel_rfl
theorem windowCauses_lm15:((Rows.windowCausesRow.mapsOut==Tryz.prog.mapsAmong (Tryz.f8).resultTypes.toList))=true:=by kernel_rfl
theorem windowCauses_lm16:((Rows.windowCausesRow.loops==((Tryz.f8).params.toList++Rows.windowCausesSpec.plain.varTypes Tryz.prog).any (Tryz.prog.loopsFrom ·)))=true:=by kernel_rfl
theorem windowCauses_lm17:((Rows.windowCausesRow.wideKeys==((Tryz.f8).params.toList++Rows.windowCausesSpec.plain.varTypes Tryz.prog++(Tryz.f8).resultTypes.toList).any (Tryz.prog.wideKeysFrom ·)))=true:=by kernel_rfl
theorem windowCauses_lm18:(Rows.windowCausesSpec.vars.all (Tryz.prog.varReadable ·))=true:=by kernel_rfl
theorem windowCauses_lm19:((Tryz.f8).resultTypes.all (fun t=>Tryz.prog.readableRec t&&decide (t<Tryz.prog.types.size)))=true:=by kernel_rfl
theorem windowCauses_lm20:((Rows.windowCausesRow.ifacesOut==(Tryz.f8).resultTypes.toList.any (Tryz.prog.ifacesRec ·)))=true:=by kernel_rfl
theorem windowCauses_lm21:((Rows.windowCausesRow.loopsOut==(Tryz.f8).resultTypes.toList.any (Tryz.prog.loopsFrom ·)))=true:=by kernel_rfl
theorem windowCauses_lm22:((Rows.windowCausesRow.plainKeys==Tryz.prog.plainKeys))=true:=by kernel_rfl
theorem windowCauses_lm23:(Rows.windowCausesRow.shortTexts.isNone)=true:=by kernel_rfl
theorem windowCauses_lm24:(Tryz.prog.stopsHeard)=true:=by kernel_rfl
theorem windowCauses_lm25:(Tryz.prog.mayEnter)=true:=by kernel_rfl
theorem windowCauses_lm26:((Rows.windowCausesRow.lifted==Tryz.prog.liftsFinal))=true:=by kernel_rfl
theorem windowCauses_lm27:((Tryz.prog.make==some Rows.windowCausesRow.make))=true:=by kernel_rfl
theorem windowCauses_lm28:((Rows.windowCausesRow.kinds==[]))=true:=by kernel_rfl
theorem windowCauses_lm29:((Rows.windowCausesRow.pinned==Rows.windowCausesRow.pinnedBy))=true:=by kernel_rfl
theorem windowCauses_lm30:((Rows.windowCausesRow.veiled==((Tryz.f8).params.toList++Rows.windowCausesSpec.plain.varTypes Tryz.prog++(Tryz.f8).resultTypes.toList).any (Tryz.prog.veiledRec ·)))=true:=by kernel_rfl
theorem windowCauses_lm31:(Rows.windowCausesRow.veiledFits Tryz.prog (Tryz.f8).params.toList ((Tryz.f8).params.toList++Rows.windowCausesSpec.plain.varTypes Tryz.prog++(Tryz.f8).resultTypes.toList))=true:=by kernel_rfl
theorem windowCauses_lmD:Rows.windowCausesRow.domain.isEmpty=true:=rfl
theorem windowCauses_closed:joinedFacts Tryz.prog 8 Tryz.f8 Rows.windowCausesSpec Rows.windowCausesRow=true:=by
 unfold joinedFacts
 rw[windowCauses_lm0,windowCauses_lm1,windowCauses_lm2,windowCauses_lm3,windowCauses_lm4,windowCauses_lm5,windowCauses_lm6,windowCauses_lm7,windowCauses_lm8,windowCauses_lm9,windowCauses_lm10,windowCauses_lm11,windowCauses_lm12,windowCauses_lm13,windowCauses_lm14,windowCauses_lm15,windowCauses_lm16,windowCauses_lm17,windowCauses_lm18,windowCauses_lm19,windowCauses_lm20,windowCauses_lm21,windowCauses_lm22,windowCauses_lm23,windowCauses_lm24,windowCauses_lm25,windowCauses_lm26,windowCauses_lm27,if_pos windowCauses_lmD,windowCauses_lm28,windowCauses_lm29,windowCauses_lm30,windowCauses_lm31]
 rfl
theorem windowCauses_cn:Tryz.prog.funcNamed "spoor/spoorlaw26.WindowCauses" =some 8:=by kernel_rfl
theorem windowCauses_cw:Rows.windowCausesRow.wfByText (OpenSpec.ofChange Rows.windowCausesSpec)=true:=by kernel_rfl
theorem windowCauses_cm:Tryz.pinned.checked.prog.mainIs=some (true, "ef07591c9c9d316fdfc30bc97991a05ac923ff82716717ed9dc8fa9471a9962d".toList):=by kernel_rfl
theorem windowCauses_cl:false=Tryz.pinned.checked.prog.looks []:=by kernel_rfl
theorem windowCauses_cg:false=Rows.windowCausesRow.goesBy Tryz.pinned.checked.prog:=by kernel_rfl
theorem windowCauses_cs:([28,3,4,31,43].all fun u=>!Tryz.prog.wantsStandIn u)=true:=by kernel_rfl
theorem windowCauses_said:Rows.WindowCausesSaid:=
 OpenClaim.holds_of_wide 8 Tryz.f8 rfl rfl rfl rfl rfl rfl rfl ⟨rfl,rfl,rfl,rfl,rfl⟩ rfl rfl rfl rfl rfl windowCauses_cn Tryz.func8 windowCauses_closed
  (of_decide_eq_true (by kernel_rfl)) (by unfold Func.isWrapper;first|(rw[if_pos (by decide+kernel)];kernel_rfl)|(rw[if_neg (by decide+kernel)];exact⟨rfl,rfl⟩))
  (fun os started H enc _=>windowCauses_lifted os started H enc)
theorem windowCauses_holds:Rows.WindowCausesCardSaid:=
 Claim7.holds_tied_plain_at .later [] [.data] true (true, "ef07591c9c9d316fdfc30bc97991a05ac923ff82716717ed9dc8fa9471a9962d") false
  windowCauses_said (fun _ h=>by cases h) windowCauses_cw (fun _ h=>by cases h) windowCauses_row_tie rfl ⟨rfl,rfl⟩ windowCauses_cm rfl
  (fun f fn hf hfn=>by
   obtain rfl:f=8:=Option.some.inj (windowCauses_cn.symm.trans hf)|>.symm
   obtain rfl:fn=Tryz.f8:=(Option.some.inj (Tryz.func8.symm.trans hfn)).symm
   exact⟨windowCauses_cl,fun j t ht=>by
    rw[Tryz.params8]at ht
    have hm:t∈[28,3,4,31,43]:=by simpa using Array.mem_of_getElem? ht
    exact(show Tryz.prog.wantsStandIn t=false by simpa using List.all_eq_true.1 windowCauses_cs t hm)⟩)
  windowCauses_cg
end Go.Proofs.YtcognmloglhpcaaGreatDoor
