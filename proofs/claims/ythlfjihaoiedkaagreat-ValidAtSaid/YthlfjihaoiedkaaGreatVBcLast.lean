/-
  the law ValidAt returns true for every input; no conditions.
-/
import Derived.Test.YthlfjihaoiedkaaGreatRows
import Derived.Deep.CondSized
import Derived.Test.YthlfjihaoiedkaaGreatVB8
set_option linter.unusedVariables false
set_option linter.unusedSimpArgs false
set_option linter.unusedSectionVars false
namespace Go.Proofs.YthlfjihaoiedkaaGreat
open Go.Am Go.ChangeShapes Go.WideShapes Go.ChangeAt Go.RowKit
theorem own:ownKnob Tryz.prog.godebug=none:=by kernel_rfl
theorem laidOut:laidOutB Tryz.prog=true:=by kernel_rfl
theorem shOf:[51,3,4,25,53,2].mapM (shT Tryz.prog 10)=some [pastSh,[.int .i64],[.bool],addrSh,ivlSh,[.int .i64]]:=by kernel_rfl
theorem lm0:(Rows.validAtRow.wf (OpenSpec.ofChange Rows.validAtSpec))=true:=by kernel_rfl
theorem lm1:(laidOutB Tryz.prog)=true:=by kernel_rfl
theorem lm2:(mapsRowed Tryz.prog)=true:=by kernel_rfl
theorem lm3:((Tryz.f9).params.all (Tryz.prog.readableRec ·))=true:=by kernel_rfl
theorem lm4:(namedTie Tryz.prog Rows.validAtRow.named Rows.validAtSpec.vars)=true:=by kernel_rfl
theorem lm5:((Rows.validAtRow.stops==[]))=true:=by kernel_rfl
theorem lm6:((Tryz.prog.stops==[]))=true:=by kernel_rfl
theorem lm7:((Rows.validAtRow.knobs==[]))=true:=by kernel_rfl
theorem lm8:((Tryz.prog.stopKnobs==[]))=true:=by kernel_rfl
theorem lm9:((Rows.validAtRow.inPlace==Tryz.prog.inPlace 9))=true:=by kernel_rfl
theorem lm10:((Rows.validAtRow.unfollowed==Tryz.prog.unfollowed 9))=true:=by kernel_rfl
theorem lm11:((Rows.validAtRow.recurses==Tryz.prog.recurses 9))=true:=by kernel_rfl
theorem lm12:((Rows.validAtRow.named==Tryz.prog.varsNamed 9))=true:=by kernel_rfl
theorem lm13:((Rows.validAtRow.maps==((Tryz.f9).params.toList++Rows.validAtSpec.plain.varTypes Tryz.prog).any (Tryz.prog.mapsRec ·)))=true:=by kernel_rfl
theorem lm14:((Rows.validAtRow.ifaces==((Tryz.f9).params.toList++Rows.validAtSpec.plain.varTypes Tryz.prog).any (Tryz.prog.ifacesRec ·)))=true:=by kernel_rfl
theorem lm15:((Rows.validAtRow.mapsOut==Tryz.prog.mapsAmong (Tryz.f9).resultTypes.toList))=true:=by kernel_rfl
theorem lm16:((Rows.validAtRow.loops==((Tryz.f9).params.toList++Rows.validAtSpec.plain.varTypes Tryz.prog).any (Tryz.prog.loopsFrom ·)))=true:=by kernel_rfl
theorem lm17:((Rows.validAtRow.wideKeys==((Tryz.f9).params.toList++Rows.validAtSpec.plain.varTypes Tryz.prog++(Tryz.f9).resultTypes.toList).any (Tryz.prog.wideKeysFrom ·)))=true:=by kernel_rfl
theorem lm18:(Rows.validAtSpec.vars.all (Tryz.prog.varReadable ·))=true:=by kernel_rfl
theorem lm19:((Tryz.f9).resultTypes.all (fun t=>Tryz.prog.readableRec t&&decide (t<Tryz.prog.types.size)))=true:=by kernel_rfl
theorem lm20:((Rows.validAtRow.ifacesOut==(Tryz.f9).resultTypes.toList.any (Tryz.prog.ifacesRec ·)))=true:=by kernel_rfl
theorem lm21:((Rows.validAtRow.loopsOut==(Tryz.f9).resultTypes.toList.any (Tryz.prog.loopsFrom ·)))=true:=by kernel_rfl
theorem lm22:((Rows.validAtRow.plainKeys==Tryz.prog.plainKeys))=true:=by kernel_rfl
theorem lm23:(Rows.validAtRow.shortTexts.isNone)=true:=by kernel_rfl
theorem lm24:(Tryz.prog.stopsHeard)=true:=by kernel_rfl
theorem lm25:(Tryz.prog.mayEnter)=true:=by kernel_rfl
theorem lm26:((Rows.validAtRow.lifted==Tryz.prog.liftsFinal))=true:=by kernel_rfl
theorem lm27:((Tryz.prog.make==some Rows.validAtRow.make))=true:=by kernel_rfl
theorem lm28:((Rows.validAtRow.kinds==[]))=true:=by kernel_rfl
theorem lm29:((Rows.validAtRow.pinned==Rows.validAtRow.pinnedBy))=true:=by kernel_rfl
theorem lm30:((Rows.validAtRow.veiled==((Tryz.f9).params.toList++Rows.validAtSpec.plain.varTypes Tryz.prog++(Tryz.f9).resultTypes.toList).any (Tryz.prog.veiledRec ·)))=true:=by kernel_rfl
theorem lm31:(Rows.validAtRow.veiledFits Tryz.prog (Tryz.f9).params.toList ((Tryz.f9).params.toList++Rows.validAtSpec.plain.varTypes Tryz.prog++(Tryz.f9).resultTypes.toList))=true:=by kernel_rfl
theorem lmD:Rows.validAtRow.domain.isEmpty=true:=rfl
theorem closed:joinedFacts Tryz.prog 9 Tryz.f9 Rows.validAtSpec Rows.validAtRow=true:=by
 unfold joinedFacts
 rw[lm0,lm1,lm2,lm3,lm4,lm5,lm6,lm7,lm8,lm9,lm10,lm11,lm12,lm13,lm14,lm15,lm16,lm17,lm18,lm19,lm20,lm21,lm22,lm23,lm24,lm25,lm26,lm27,if_pos lmD,lm28,lm29,lm30,lm31]
 rfl
set_option maxRecDepth 100000 in
theorem lifted (os:Os) (started:os.Started) (H:Type) (enc:TypeId×Value→H):
  ReturnsInHanded {} Tryz.checked os 9 .any (Rows.validAtSpec.pre6 enc Tryz.prog Tryz.f9 Rows.validAtRow.domain false) (Rows.validAtSpec.post enc Tryz.prog Tryz.f9 false true false false):=by
 refine returnsInHanded_of_change (C:=Tryz.checked) own started (by kernel_rfl) Tryz.func9
  (ChangeSpec.witness6 (enc:=enc) (C:=Tryz.checked) false ⟨#[],#[.agg #[.slice none 0 0,.slice none 0 0,.int .i64 0,.slice none 0 0],.int .i64 0,.bool false,.agg #[.int .u64 0,.int .u64 0],.agg #[.int .i64 0,.int .i64 0],.int .i64 0],[]⟩ 8 (by kernel_rfl) (by kernel_rfl) (by kernel_rfl) (by kernel_rfl)) ?_
 intro W base args ds gs before hval hW _ _
 refine law_contract (n:=10) (ss:=[pastSh,[.int .i64],[.bool],addrSh,ivlSh,[.int .i64]]) (ts:=[51,3,4,25,53,2]) (tb:=4) laidOut rfl rfl Tryz.underlying4 (by kernel_rfl) shOf rfl hval hW ?_ ?_
 ·intro xs hx _
  obtain⟨p,r,s,x,w,t,hp,hx,e_⟩:=Go.Am.args_at hx
  rw[e_]
  exact validAt_spec p r s x w.1 w.2 t hp hx
 ·intro d hd
  match d,hd with
  |[_,_,_,_,_,_],_=>rfl
theorem validAt_holds:Rows.ValidAtSaid:=
 OpenClaim.holds_of_wide 9 Tryz.f9 rfl rfl rfl rfl rfl rfl rfl ⟨rfl,rfl,rfl,rfl,rfl⟩ rfl rfl rfl rfl rfl (by kernel_rfl) Tryz.func9 closed
  (of_decide_eq_true (by kernel_rfl)) (by unfold Func.isWrapper;first|(rw[if_pos (by decide+kernel)];kernel_rfl)|(rw[if_neg (by decide+kernel)];exact⟨rfl,rfl⟩))
  (fun os started H enc _=>lifted os started H enc)
end Go.Proofs.YthlfjihaoiedkaaGreat
