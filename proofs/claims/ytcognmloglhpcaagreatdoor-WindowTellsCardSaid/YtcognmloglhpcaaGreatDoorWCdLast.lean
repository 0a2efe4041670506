/-
  the law WindowTells returns true for every input; no conditions.
-/
import Derived.Test.YtcognmloglhpcaaGreatDoorCards
import Derived.Test.YtcognmloglhpcaaGreatDoorTie
import Derived.ProofKit
import Derived.LaidMore
import Derived.OpenShut
import Derived.Stop.Joined
import Derived.SevenTiedAt
import Derived.Test.YtcognmloglhpcaaGreatDoorWC8
set_option linter.unusedVariables false
set_option linter.unusedSimpArgs false
set_option linter.unusedSectionVars false
namespace Go.Proofs.YtcognmloglhpcaaGreatDoor
open Go.Am Go.ChangeShapes Go.WideShapes Go.ChangeAt Go.RowKit
theorem own:ownKnob Tryz.prog.godebug=none:=by kernel_rfl
theorem laidOut:laidOutB Tryz.prog=true:=by kernel_rfl
theorem shNet:[28,3,4,31,43,33].mapM (shT Tryz.prog 10)=some [pastSh,[.int .i64],[.bool],addrSh,ivlSh,[.int .u8]]:=by kernel_rfl
theorem gKinds:Tryz.prog.globalNamed "spoor/walk.kinds" =some 0:=by kernel_rfl
theorem tKinds:(Tryz.prog.globals[0]?).map (·.type)=some 270:=by kernel_rfl
abbrev laidK:List (String×DataW Unit):=[("spoor/walk.kinds",Rows.laid_spoor_walk_kinds)]
theorem door_met (os:Os) (args:Array Value):laidMetH Tryz.prog laidK ((World.doorLaid Tryz.prog 400 os).forCall (fun _ _=>0) ⟨#[],args,[]⟩).memory:=
 laidMetH_of_parts3 (fuel:=8) (laidMet_of_run' 8 (by kernel_rfl) (by kernel_rfl)) (by kernel_rfl) (by kernel_rfl)
set_option maxRecDepth 100000 in
theorem of_laid {W:World} (h:laidMetH Tryz.prog laidK W):W.cell? ⟨0,0,none⟩=some (.int .u8 3)∧W.cell? ⟨0,1,none⟩=some (.int .u8 4)∧W.cell? ⟨0,2,none⟩=some (.int .u8 1)∧W.cell? ⟨0,3,none⟩=some (.int .u8 2):=by
 rw[MakeChecks.laidMetH_plain _ _ _ (by kernel_rfl)]at h
 obtain⟨ps,⟨g0,t0,cs0,f0,p0,q0,hg0,ht0,hv0,hd0,_,_⟩,_,_⟩:=h
 obtain rfl:=Option.some.inj (gKinds.symm.trans hg0)
 obtain rfl:=Option.some.inj (tKinds.symm.trans ht0)
 obtain⟨xs,m1,rfl,hx1,hlen,hn4,hel⟩:=DataW.trod_array Tryz.underlying270 hd0
 have c1:Tryz.prog.cellsOf 33=1:=by kernel_rfl
 have c4:Tryz.prog.cellsOf 270=4:=by kernel_rfl
 rw[c4]at hlen
 have h0:=hel 0 (by decide)
 have h1:=hel 1 (by decide)
 have h2:=hel 2 (by decide)
 have h3:=hel 3 (by decide)
 rw[c1]at h0 h1 h2 h3
 simp only[Prod.mk.injEq]at hx1
 have hcell:=World.var?_cell hg0 hv0
 obtain⟨l⟩:=cs0
 match xs,hn4,l,hlen with
 |[x0,x1,x2,x3],_,[u0,u1,u2,u3],_=>
  have hx:=hx1.1
  simp only[Rows.laid_spoor_walk_kinds,DataW.agg.injEq,List.map_cons,List.map_nil,List.cons.injEq,and_true]at hx
  have one:∀{x:DataW Unit×List MemPlace} {u:Value} {k:Int},DataW.trod (fun _=>()) Tryz.prog W 0 (fun _=>true) false m1 33 [u]=some x→DataW.lit (.int .u8 k)=x.1→u=.int .u8 k:=by
   intro x u k h e
   obtain⟨k',e1,e2,_⟩:=DataW.trod_int Tryz.underlying33 h
   rw[e2]at e
   simp at e e1
   rw[e1,e]
  have k0:=one (by simpa using h0) hx.1
  have k1:=one (by simpa using h1) hx.2.1
  have k2:=one (by simpa using h2) hx.2.2.1
  have k3:=one (by simpa using h3) hx.2.2.2
  subst k0 k1 k2 k3
  exact⟨by simpa using hcell 0,by simpa using hcell 1,by simpa using hcell 2,by simpa using hcell 3⟩
theorem kinds_gl {W:World} (h:laidMetH Tryz.prog laidK W):∀(g:Nat) (cs:List IV),Go.Am.look [(0,kindsIV)] g=some cs→∃u:Nat→Value,∀(j:Nat) (y:IV),cs[j]? =some y→(u j).oneCell'=true∧W.cell? ⟨g,j,none⟩=some (u j)∧IRep (fun _ _=>False) y (u j):=by
 obtain⟨h0,h1,h2,h3⟩:=of_laid h
 intro g cs hg
 simp only[Go.Am.look]at hg
 split at hg
 ·rename_i e
  subst e
  cases hg
  refine⟨fun j=>match j with|0=>.int .u8 3|1=>.int .u8 4|2=>.int .u8 1|_=>.int .u8 2,fun j y hy=>?_⟩
  match j with
  |0=>simp[kindsIV]at hy;subst hy;exact⟨rfl,h0,.sc⟩
  |1=>simp[kindsIV]at hy;subst hy;exact⟨rfl,h1,.sc⟩
  |2=>simp[kindsIV]at hy;subst hy;exact⟨rfl,h2,.sc⟩
  |3=>simp[kindsIV]at hy;subst hy;exact⟨rfl,h3,.sc⟩
  |j+4=>simp[kindsIV]at hy
 ·cases hg
set_option maxRecDepth 100000 in
theorem windowTells_lifted (os:Os) (started:os.Started) (H:Type) (enc:TypeId×Value→H):
  ReturnsInHanded {} Tryz.checked os 6 .any (fun w args=>(Rows.windowTellsSpec.pre enc Tryz.prog Tryz.f6 [] false w args∧laidMetH Tryz.prog laidK w)∧sizedMet enc Tryz.prog Tryz.f6 (OpenSpec.ofChange Rows.windowTellsSpec) false w args)
   (Rows.windowTellsSpec.post enc Tryz.prog Tryz.f6 false true false false):=by
 refine returnsInHanded_of_change_and (C:=Tryz.checked) (X:=fun w _=>laidMetH Tryz.prog laidK w) (fun _ _ _ hh h=>h.of_heap hh) own started (by kernel_rfl) Tryz.func6
  (ChangeSpec.witness_shaped (enc:=enc) (C:=Tryz.checked) (os:=os) (X:=fun w _=>laidMetH Tryz.prog laidK w) false (World.doorLaid Tryz.prog 400 os) #[.agg #[.slice none 0 0,.slice none 0 0,.int .i64 0,.slice none 0 0],.int .i64 0,.bool false,.agg #[.int .u64 0,.int .u64 0],.agg #[.int .i64 0,.int .i64 0],.int .u8 0] 8 rfl (World.shaped_of_RefB (by kernel_rfl) (by kernel_rfl)) (by kernel_rfl) (by kernel_rfl) (by kernel_rfl) (door_met os _)) ?_
 intro W base args ds gs before hval hW _ _ hL _
 refine law_contractL (n:=10) (ss:=[pastSh,[.int .i64],[.bool],addrSh,ivlSh,[.int .u8]]) (ts:=[28,3,4,31,43,33]) (tb:=4) laidOut rfl rfl Tryz.underlying4 (by kernel_rfl) shNet rfl hval hW [(0,kindsIV)] (kinds_gl hL) ?_ ?_
 ·intro xs hx _
  obtain⟨p,r,s,x,w,k,hp,hx,e_⟩:=args_wtells hx
  rw[e_]
  exact windowTells_spec p r s x w.1 w.2 k hp hx
 ·intro d hd
  match d,hd with
  |[_,_,_,_,_,_],_=>rfl
theorem windowTells_lm0:(Rows.windowTellsRow.wf (OpenSpec.ofChange Rows.windowTellsSpec))=true:=by kernel_rfl
theorem windowTells_lm1:(laidOutB Tryz.prog)=true:=by kernel_rfl
theorem windowTells_lm2:(mapsRowed Tryz.prog)=true:=by kernel_rfl
theorem windowTells_lm3:((Tryz.f6).params.all (Tryz.prog.readableRec ·))=true:=by kernel_rfl
theorem windowTells_lm4:(namedTie Tryz.prog Rows.windowTellsRow.named Rows.windowTellsSpec.vars)=true:=by kernel_rfl
theorem windowTells_lm5:((Rows.windowTellsRow.stops==[]))=true:=by kernel_rfl
theorem windowTells_lm6:((Tryz.prog.stops==[]))=true:=by kernel_rfl
theorem windowTells_lm7:((Rows.windowTellsRow.knobs==[]))=true:=by kernel_rfl
theorem windowTells_lm8:((Tryz.prog.stopKnobs==[]))=true:=by kernel_rfl
theorem windowTells_lm9:((Rows.windowTellsRow.inPlace==Tryz.prog.inPlace 6))=true:=by kernel_rfl
theorem windowTells_lm10:((Rows.windowTellsRow.unfollowed==Tryz.prog.unfollowed 6))=true:=by kernel_rfl
theorem windowTells_lm11:((Rows.windowTellsRow.recurses==Tryz.prog.recurses 6))=true:=by kernel_rfl
theorem windowTells_lm12:((Rows.windowTellsRow.named==Tryz.prog.varsNamed 6))=true:=by kernel_rfl
theorem windowTells_lm13:((Rows.windowTellsRow.maps==((Tryz.f6).params.toList++Rows.windowTellsSpec.plain.varTypes Tryz.prog).any (Tryz.prog.mapsRec ·)))=true:=by kernel_rfl
theorem windowTells_lm14:((Rows.windowTellsRow.ifaces==((Tryz.f6).params.toList++Rows.windowTellsSpec.plain.varTypes Tryz.prog).any (Tryz.prog.ifacesRec ·)))=true:=by kernel_rfl
theorem windowTells_lm15:((Rows.windowTellsRow.mapsOut==Tryz.prog.mapsAmong (Tryz.f6).resultTypes.toList))=true:=by kernel_rfl
theorem windowTells_lm16:((Rows.windowTellsRow.loops==((Tryz.f6).params.toList++Rows.windowTellsSpec.plain.varTypes Tryz.prog).any (Tryz.prog.loopsFrom ·)))=true:=by kernel_rfl
theorem windowTells_lm17:((Rows.windowTellsRow.wideKeys==((Tryz.f6).params.toList++Rows.windowTellsSpec.plain.varTypes Tryz.prog++(Tryz.f6).resultTypes.toList).any (Tryz.prog.wideKeysFrom ·)))=true:=by kernel_rfl
theorem windowTells_lm18:(Rows.windowTellsSpec.vars.all (Tryz.prog.varReadable ·))=true:=by kernel_rfl
theorem windowTells_lm19:((Tryz.f6).resultTypes.all (fun t=>Tryz.prog.readableRec t&&decide (t<Tryz.prog.types.size)))=true:=by kernel_rfl
theorem windowTells_lm20:((Rows.windowTellsRow.ifacesOut==(Tryz.f6).resultTypes.toList.any (Tryz.prog.ifacesRec ·)))=true:=by kernel_rfl
theorem windowTells_lm21:((Rows.windowTellsRow.loopsOut==(Tryz.f6).resultTypes.toList.any (Tryz.prog.loopsFrom ·)))=true:=by kernel_rfl
theorem windowTells_lm22:((Rows.windowTellsRow.plainKeys==Tryz.prog.plainKeys))=true:=by kernel_rfl
theorem windowTells_lm23:(Rows.windowTellsRow.shortTexts.isNone)=true:=by kernel_rfl
theorem windowTells_lm24:(Tryz.prog.stopsHeard)=true:=by kernel_rfl
theorem windowTells_lm25:(Tryz.prog.mayEnter)=true:=by kernel_rfl
theorem windowTells_lm26:((Rows.windowTellsRow.lifted==Tryz.prog.liftsFinal))=true:=by kernel_rfl
theorem windowTells_lm27:((Tryz.prog.make==some Rows.windowTellsRow.make))=true:=by kernel_rfl
theorem windowTells_lm28:((Rows.windowTellsRow.kinds==[]))=true:=by kernel_rfl
theorem windowTells_lm29:((Rows.windowTellsRow.pinned==Rows.windowTellsRow.pinnedBy))=true:=by kernel_rfl
theorem windowTells_lm30:((Rows.windowTellsRow.veiled==((Tryz.f6).params.toList++Rows.windowTellsSpec.plain.varTypes Tryz.prog++(Tryz.f6).resultTypes.toList).any (Tryz.prog.veiledRec ·)))=true:=by kernel_rfl
theorem windowTells_lm31:(Rows.windowTellsRow.veiledFits Tryz.prog (Tryz.f6).params.toList ((Tryz.f6).params.toList++Rows.windowTellsSpec.plain.varTypes Tryz.prog++(Tryz.f6).resultTypes.toList))=true:=by kernel_rfl
theorem windowTells_lmD:Rows.windowTellsRow.domain.isEmpty=true:=rfl
theorem windowTells_closed:joinedFacts Tryz.prog 6 Tryz.f6 Rows.windowTellsSpec Rows.windowTellsRow=true:=by
 unfold joinedFacts
 rw[windowTells_lm0,windowTells_lm1,windowTells_lm2,windowTells_lm3,windowTells_lm4,windowTells_lm5,windowTells_lm6,windowTells_lm7,windowTells_lm8,windowTells_lm9,windowTells_lm10,windowTells_lm11,windowTells_lm12,windowTells_lm13,windowTells_lm14,windowTells_lm15,windowTells_lm16,windowTells_lm17,windowTells_lm18,windowTells_lm19,windowTells_lm20,windowTells_lm21,windowTells_lm22,windowTells_lm23,windowTells_lm24,windowTells_lm25,windowTells_lm26,windowTells_lm27,if_pos windowTells_lmD,windowTells_lm28,windowTells_lm29,windowTells_lm30,windowTells_lm31]
 rfl
theorem windowTells_cn:Tryz.prog.funcNamed "spoor/spoorlaw26.WindowTells" =some 6:=by kernel_rfl
theorem windowTells_cw:Rows.windowTellsRow.wfByText (OpenSpec.ofChange Rows.windowTellsSpec)=true:=by kernel_rfl
theorem windowTells_cm:Tryz.pinned.checked.prog.mainIs=some (true, "ef07591c9c9d316fdfc30bc97991a05ac923ff82716717ed9dc8fa9471a9962d".toList):=by kernel_rfl
theorem windowTells_cl:false=Tryz.pinned.checked.prog.looks []:=by kernel_rfl
theorem windowTells_cg:false=Rows.windowTellsRow.goesBy Tryz.pinned.checked.prog:=by kernel_rfl
theorem windowTells_cs:([28,3,4,31,43,33].all fun u=>!Tryz.prog.wantsStandIn u)=true:=by kernel_rfl
theorem windowTells_said:Rows.WindowTellsSaid:=
 OpenClaim.holds_of_wide 6 Tryz.f6 rfl rfl rfl rfl rfl rfl rfl ⟨rfl,rfl,rfl,rfl,rfl⟩ rfl rfl rfl rfl rfl windowTells_cn Tryz.func6 windowTells_closed
  (of_decide_eq_true (by kernel_rfl)) (by unfold Func.isWrapper;first|(rw[if_pos (by decide+kernel)];kernel_rfl)|(rw[if_neg (by decide+kernel)];exact⟨rfl,rfl⟩))
  (fun os started H enc _=>windowTells_lifted os started H enc)
theorem windowTells_holds:Rows.WindowTellsCardSaid:=
 Claim7.holds_tied_plain_at .later [] [.data] true (true, "ef07591c9c9d316fdfc30bc97991a05ac923ff82716717ed9dc8fa9471a9962d") false
  windowTells_said (fun _ h=>by cases h) windowTells_cw (fun _ h=>by cases h) windowTells_row_tie rfl ⟨rfl,rfl⟩ windowTells_cm rfl
  (fun f fn hf hfn=>by
   obtain rfl:f=6:=Option.some.inj (windowTells_cn.symm.trans hf)|>.symm
   obtain rfl:fn=Tryz.f6:=(Option.some.inj (Tryz.func6.symm.trans hfn)).symm
   exact⟨windowTells_cl,fun j t ht=>by
    rw[Tryz.params6]at ht
    have hm:t∈[28,3,4,31,43,33]:=by simpa using Array.mem_of_getElem? ht
    exact(show Tryz.prog.wantsStandIn t=false by simpa using List.all_eq_true.1 windowTells_cs t hm)⟩)
  windowTells_cg
end Go.Proofs.YtcognmloglhpcaaGreatDoor
