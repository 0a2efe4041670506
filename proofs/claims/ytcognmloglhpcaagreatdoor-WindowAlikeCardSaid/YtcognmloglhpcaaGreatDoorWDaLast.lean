/-
  the law WindowAlike returns true for every input; no conditions.
-/
import Derived.Test.YtcognmloglhpcaaGreatDoorCards
import Derived.Test.YtcognmloglhpcaaGreatDoorTie
import Derived.ProofKit
import Derived.LaidMore
import Derived.OpenShut
import Derived.Stop.Joined
import Derived.SevenTiedAt
import Derived.Test.YtcognmloglhpcaaGreatDoorWD9
set_option linter.unusedVariables false
set_option linter.unusedSimpArgs false
set_option linter.unusedSectionVars false
namespace Go.Proofs.YtcognmloglhpcaaGreatDoor
open Go.Am Go.ChangeShapes Go.WideShapes Go.ChangeAt Go.RowKit
theorem own:ownKnob Tryz.prog.godebug=none:=by kernel_rfl
theorem laidOut:laidOutB Tryz.prog=true:=by kernel_rfl
theorem shNet:[28,3,4,31,31,43].mapM (shT Tryz.prog 10)=some [pastSh,[.int .i64],[.bool],addrSh,addrSh,ivlSh]:=by kernel_rfl
theorem gKinds:Tryz.prog.globalNamed "spoor/walk.kinds" =some 0:=by kernel_rfl
theorem tKinds:(Tryz.prog.globals[0]?).map (·.type)=some 270:=by kernel_rfl
abbrev laidK:List (String×DataW Unit):=[("spoor/walk.kinds",Rows.laid_spoor_walk_kinds)]
theorem door_met (os:Os) (args:Array Value):laidMetH Tryz.prog laidK ((World.doorLaid Tryz.prog 400 os).forCall (fun _ _=>0) ⟨#[],args,[]⟩).memory:=
 laidMetH_of_parts3 (fuel:=8) (laidMet_of_run' 8 (by kernel_rfl) (by kernel_rfl)) (by kernel_rfl) (by kernel_rfl)
set_option maxRecDepth 100000 in
theorem of_laid {W:World} (h:laidMetH Tryz.prog laidK W):W.cell? ⟨0,0,none⟩=some (.int .u8 3)∧W.cell? ⟨0,1,none⟩=some (.int .u8 4)∧W.cell? ⟨0,2,none⟩=some (.int .u8 1)∧W.cell? ⟨0,3,none⟩=some (.int .u8 2):=by
 rw[MakeChecks.laidMetH_plain _ _ _ (by kernel_rfl)]at h
 obtain⟨ps,⟨g0,t0,cs0,f0,p0,q0,hg0,ht0,hv0,hd0,_,_⟩,_,_⟩:=h
 obtain rfl:=Option.some.inj (gKinds.symm.trans hg0)
 obtain rfl:=Option.some.inj (tKinds.symm.trans ht0)
 obtain⟨xs,m1,rfl,hx1,hlen,hn4,hel⟩:=DataW.trod_array Tryz.underlying270 hd0
 have c1:Tryz.prog.cellsOf 33=1:=by kernel_rfl
 have c4:Tryz.prog.cellsOf 270=4:=by kernel_rfl
 rw[c4]at hlen
 have h0:=hel 0 (by decide)
 have h1:=hel 1 (by decide)
 have h2:=hel 2 (by decide)
 have h3:=hel 3 (by decide)
 rw[c1]at h0 h1 h2 h3
 simp only[Prod.mk.injEq]at hx1
 have hcell:=World.var?_cell hg0 hv0
 obtain⟨l⟩:=cs0
 match xs,hn4,l,hlen with
 |[x0,x1,x2,x3],_,[u0,u1,u2,u3],_=>
  have hx:=hx1.1
  simp only[Rows.laid_spoor_walk_kinds,DataW.agg.injEq,List.map_cons,List.map_nil,List.cons.injEq,and_true]at hx
  have one:∀{x:DataW Unit×List MemPlace} {u:Value} {k:Int},DataW.trod (fun _=>()) Tryz.prog W 0 (fun _=>true) false m1 33 [u]=some x→DataW.lit (.int .u8 k)=x.1→u=.int .u8 k:=by
   intro x u k h e
   obtain⟨k',e1,e2,_⟩:=DataW.trod_int Tryz.underlying33 h
   rw[e2]at e
   simp at e e1
   rw[e1,e]
  have k0:=one (by simpa using h0) hx.1
  have k1:=one (by simpa using h1) hx.2.1
  have k2:=one (by simpa using h2) hx.2.2.1
  have k3:=one (by simpa using h3) hx.2.2.2
  subst k0 k1 k2 k3
  exact⟨by simpa using hcell 0,by simpa using hcell 1,by simpa using hcell 2,by simpa using hcell 3⟩
theorem kinds_gl {W:World} (h:laidMetH Tryz.prog laidK W):∀(g:Nat) (cs:List IV),Go.Am.look [(0,kindsIV)] g=some cs→∃u:Nat→Value,∀(j:Nat) (y:IV),cs[j]? =some y→(u j).oneCell'=true∧W.cell? ⟨g,j,none⟩=some (u j)∧IRep (fun _ _=>False) y (u j):=by
 obtain⟨h0,h1,h2,h3⟩:=of_laid h
 intro g cs hg
 simp only[Go.Am.look]at hg
 split at hg
 ·rename_i e
  subst e
  cases hg
  refine⟨fun j=>match j with|0=>.int .u8 3|1=>.int .u8 4|2=>.int .u8 1|_=>.int .u8 2,fun j y hy=>?_⟩
  match j with
  |0=>simp[kindsIV]at hy;subst hy;exact⟨rfl,h0,.sc⟩
  |1=>simp[kindsIV]at hy;subst hy;exact⟨rfl,h1,.sc⟩
  |2=>simp[kindsIV]at hy;subst hy;exact⟨rfl,h2,.sc⟩
  |3=>simp[kindsIV]at hy;subst hy;exact⟨rfl,h3,.sc⟩
  |j+4=>simp[kindsIV]at hy
 ·cases hg
set_option maxRecDepth 100000 in
theorem windowAlike_lifted (os:Os) (started:os.Started) (H:Type) (enc:TypeId×Value→H):
  ReturnsInHanded {} Tryz.checked os 9 .any (fun w args=>(Rows.windowAlikeSpec.pre enc Tryz.prog Tryz.f9 [] false w args∧laidMetH Tryz.prog laidK w)∧sizedMet enc Tryz.prog Tryz.f9 (OpenSpec.ofChange Rows.windowAlikeSpec) false w args)
   (Rows.windowAlikeSpec.post enc Tryz.prog Tryz.f9 false true false false):=by
 refine returnsInHanded_of_change_and (C:=Tryz.checked) (X:=fun w _=>laidMetH Tryz.prog laidK w) (fun _ _ _ hh h=>h.of_heap hh) own started (by kernel_rfl) Tryz.func9
  (ChangeSpec.witness_shaped (enc:=enc) (C:=Tryz.checked) (os:=os) (X:=fun w _=>laidMetH Tryz.prog laidK w) false (World.doorLaid Tryz.prog 400 os) #[.agg #[.slice none 0 0,.slice none 0 0,.int .i64 0,.slice none 0 0],.int .i64 0,.bool false,.agg #[.int .u64 0,.int .u64 0],.agg #[.int .u64 0,.int .u64 0],.agg #[.int .i64 0,.int .i64 0]] 8 rfl (World.shaped_of_RefB (by kernel_rfl) (by kernel_rfl)) (by kernel_rfl) (by kernel_rfl) (by kernel_rfl) (door_met os _)) ?_
 intro W base args ds gs before hval hW _ _ hL _
 refine law_contractL (n:=10) (ss:=[pastSh,[.int .i64],[.bool],addrSh,addrSh,ivlSh]) (ts:=[28,3,4,31,31,43]) (tb:=4) laidOut rfl rfl Tryz.underlying4 (by kernel_rfl) shNet rfl hval hW [(0,kindsIV)] (kinds_gl hL) ?_ ?_
 ·intro xs hx _
  obtain⟨p,r,s,x,x2,w,hp,hx,hx2,e_⟩:=args_walike hx
  rw[e_]
  exact windowAlike_spec p r s x x2 w.1 w.2 hp hx hx2
 ·intro d hd
  match d,hd with
  |[_,_,_,_,_,_],_=>rfl
theorem windowAlike_lm0:(Rows.windowAlikeRow.wf (OpenSpec.ofChange Rows.windowAlikeSpec))=true:=by kernel_rfl
theorem windowAlike_lm1:(laidOutB Tryz.prog)=true:=by kernel_rfl
theorem windowAlike_lm2:(mapsRowed Tryz.prog)=true:=by kernel_rfl
theorem windowAlike_lm3:((Tryz.f9).params.all (Tryz.prog.readableRec ·))=true:=by kernel_rfl
theorem windowAlike_lm4:(namedTie Tryz.prog Rows.windowAlikeRow.named Rows.windowAlikeSpec.vars)=true:=by kernel_rfl
theorem windowAlike_lm5:((Rows.windowAlikeRow.stops==[]))=true:=by kernel_rfl
theorem windowAlike_lm6:((Tryz.prog.stops==[]))=true:=by kernel_rfl
theorem windowAlike_lm7:((Rows.windowAlikeRow.knobs==[]))=true:=by kernel_rfl
theorem windowAlike_lm8:((Tryz.prog.stopKnobs==[]))=true:=by kernel_rfl
theorem windowAlike_lm9:((Rows.windowAlikeRow.inPlace==Tryz.prog.inPlace 9))=true:=by kernel_rfl
theorem windowAlike_lm10:((Rows.windowAlikeRow.unfollowed==Tryz.prog.unfollowed 9))=true:=by kernel_rfl
theorem windowAlike_lm11:((Rows.windowAlikeRow.recurses==Tryz.prog.recurses 9))=true:=by kernel_rfl
theorem windowAlike_lm12:((Rows.windowAlikeRow.named==Tryz.prog.varsNamed 9))=true:=by kernel_rfl
theorem windowAlike_lm13:((Rows.windowAlikeRow.maps==((Tryz.f9).params.toList++Rows.windowAlikeSpec.plain.varTypes Tryz.prog).any (Tryz.prog.mapsRec ·)))=true:=by kernel_rfl
theorem windowAlike_lm14:((Rows.windowAlikeRow.ifaces==((Tryz.f9).params.toList++Rows.windowAlikeSpec.plain.varTypes Tryz.prog).any (Tryz.prog.ifacesRec ·)))=true:=by kernel_rfl
theorem windowAlike_lm15:((Rows.windowAlikeRow.mapsOut==Tryz.prog.mapsAmong (Tryz.f9).resultTypes.toList))=true:=by kernel_rfl
theorem windowAlike_lm16:((Rows.windowAlikeRow.loops==((Tryz.f9).params.toList++Rows.windowAlikeSpec.plain.varTypes Tryz.prog).any (Tryz.prog.loopsFrom ·)))=true:=by kernel_rfl
theorem windowAlike_lm17:((Rows.windowAlikeRow.wideKeys==((Tryz.f9).params.toList++Rows.windowAlikeSpec.plain.varTypes Tryz.prog++(Tryz.f9).resultTypes.toList).any (Tryz.prog.wideKeysFrom ·)))=true:=by kernel_rfl
theorem windowAlike_lm18:(Rows.windowAlikeSpec.vars.all (Tryz.prog.varReadable ·))=true:=by kernel_rfl
theorem windowAlike_lm19:((Tryz.f9).resultTypes.all (fun t=>Tryz.prog.readableRec t&&decide (t<Tryz.prog.types.size)))=true:=by kernel_rfl
theorem windowAlike_lm20:((Rows.windowAlikeRow.ifacesOut==(Tryz.f9).resultTypes.toList.any (Tryz.prog.ifacesRec ·)))=true:=by kernel_rfl
theorem windowAlike_lm21:((Rows.windowAlikeRow.loopsOut==(Tryz.f9).resultTypes.toList.any (Tryz.prog.loopsFrom ·)))=true:=by kernel_rfl
theorem windowAlike_lm22:((Rows.windowAlikeRow.plainKeys==Tryz.prog.plainKeys))=true:=by kernel_rfl
theorem windowAlike_lm23:(Rows.windowAlikeRow.shortTexts.isNone)=true:=by kernel_rfl
theorem windowAlike_lm24:(Tryz.prog.stopsHeard)=true:=by kernel_rfl
theorem windowAlike_lm25:(Tryz.prog.mayEnter)=true:=by kernel_rfl
theorem windowAlike_lm26:((Rows.windowAlikeRow.lifted==Tryz.prog.liftsFinal))=true:=by kernel_rfl
theorem windowAlike_lm27:((Tryz.prog.make==some Rows.windowAlikeRow.make))=true:=by kernel_rfl
theorem windowAlike_lm28:((Rows.windowAlikeRow.kinds==[]))=true:=by kernel_rfl
theorem windowAlike_lm29:((Rows.windowAlikeRow.pinned==Rows.windowAlikeRow.pinnedBy))=true:=by kernel_rfl
theorem windowAlike_lm30:((Rows.windowAlikeRow.veiled==((Tryz.f9).params.toList++Rows.windowAlikeSpec.plain.varTypes Tryz.prog++(Tryz.f9).resultTypes.toList).any (Tryz.prog.veiledRec ·)))=true:=by kernel_rfl
theorem windowAlike_lm31:(Rows.windowAlikeRow.veiledFits Tryz.prog (Tryz.f9).params.toList ((Tryz.f9).params.toList++Rows.windowAlikeSpec.plain.varTypes Tryz.prog++(Tryz.f9).resultTypes.toList))=true:=by kernel_rfl
theorem windowAlike_lmD:Rows.windowAlikeRow.domain.isEmpty=true:=rfl
theorem windowAlike_closed:joinedFacts Tryz.prog 9 Tryz.f9 Rows.windowAlikeSpec Rows.windowAlikeRow=true:=by
 unfold joinedFacts
 rw[windowAlike_lm0,windowAlike_lm1,windowAlike_lm2,windowAlike_lm3,windowAlike_lm4,windowAlike_lm5,windowAlike_lm6,windowAlike_lm7,windowAlike_lm8,windowAlike_lm9,windowAlike_lm10,windowAlike_lm11,windowAlike_lm12,windowAlike_lm13,windowAlike_lm14,windowAlike_lm15,windowAlike_lm16,windowAlike_lm17,windowAlike_lm18,windowAlike_lm19,windowAlike_lm20,windowAlike_lm21,windowAlike_lm22,windowAlike_lm23,windowAlike_lm24,windowAlike_lm25,windowAlike_lm26,windowAlike_lm27,if_pos windowAlike_lmD,windowAlike_lm28,windowAlike_lm29,windowAlike_lm30,windowAlike_lm31]
 rfl
theorem windowAlike_cn:Tryz.prog.funcNamed "spoor/spoorlaw26.WindowAlike" =some 9:=by kernel_rfl
theorem windowAlike_cw:Rows.windowAlikeRow.wfByText (OpenSpec.ofChange Rows.windowAlikeSpec)=true:=by kernel_rfl
theorem windowAlike_cm:Tryz.pinned.checked.prog.mainIs=some (true, "ef07591c9c9d316fdfc30bc97991a05ac923ff82716717ed9dc8fa9471a9962d".toList):=by kernel_rfl
theorem windowAlike_cl:false=Tryz.pinned.checked.prog.looks []:=by kernel_rfl
theorem windowAlike_cg:false=Rows.windowAlikeRow.goesBy Tryz.pinned.checked.prog:=by kernel_rfl
theorem windowAlike_cs:([28,3,4,31,31,43].all fun u=>!Tryz.prog.wantsStandIn u)=true:=by kernel_rfl
theorem windowAlike_said:Rows.WindowAlikeSaid:=
 OpenClaim.holds_of_wide 9 Tryz.f9 rfl rfl rfl rfl rfl rfl rfl ⟨rfl,rfl,rfl,rfl,rfl⟩ rfl rfl rfl rfl rfl windowAlike_cn Tryz.func9 windowAlike_closed
  (of_decide_eq_true (by kernel_rfl)) (by unfold Func.isWrapper;first|(rw[if_pos (by decide+kernel)];kernel_rfl)|(rw[if_neg (by decide+kernel)];exact⟨rfl,rfl⟩))
  (fun os started H enc _=>windowAlike_lifted os started H enc)
theorem windowAlike_holds:Rows.WindowAlikeCardSaid:=
 Claim7.holds_tied_plain_at .later [] [.data] true (true, "ef07591c9c9d316fdfc30bc97991a05ac923ff82716717ed9dc8fa9471a9962d") false
  windowAlike_said (fun _ h=>by cases h) windowAlike_cw (fun _ h=>by cases h) windowAlike_row_tie rfl ⟨rfl,rfl⟩ windowAlike_cm rfl
  (fun f fn hf hfn=>by
   obtain rfl:f=9:=Option.some.inj (windowAlike_cn.symm.trans hf)|>.symm
   obtain rfl:fn=Tryz.f9:=(Option.some.inj (Tryz.func9.symm.trans hfn)).symm
   exact⟨windowAlike_cl,fun j t ht=>by
    rw[Tryz.params9]at ht
    have hm:t∈[28,3,4,31,31,43]:=by simpa using Array.mem_of_getElem? ht
    exact(show Tryz.prog.wantsStandIn t=false by simpa using List.all_eq_true.1 windowAlike_cs t hm)⟩)
  windowAlike_cg
end Go.Proofs.YtcognmloglhpcaaGreatDoor
