/-
  TransferCertain holds for every input: if there is neither a fact behind a statement nor one of its exceptions, a failure was found; an exception is thrown exactly if its fact is there; only an SThrow and a failure end everything. No condition.
-/
import Derived.Test.YtakobiabkfeelaaGreatRows
import Derived.Test.YtakobiabkfeelaaGreatT12
set_option linter.unusedVariables false
set_option linter.unusedSimpArgs false
set_option linter.defProp false
set_option maxRecDepth 100000
set_option maxHeartbeats 4000000
namespace Go.Proofs.YtakobiabkfeelaaGreat.law6
open Go.ChangeShapes Go.WideShapes Go.ChangeAt Go.RowKit
theorem own:ownKnob Tryz.prog.godebug=none:=by kernel_rfl
theorem laidOut:laidOutB Tryz.prog=true:=by kernel_rfl
theorem spec (H:Type):∀ds:List (DataW H),ds.length=1→Rows.transferCertainSpec.fn H ds={results:=[.lit (.bool true)],args:=ds}|[_],_=>rfl
theorem lifted (os:Os) (started:os.Started) (H:Type) (enc:TypeId×Value→H):ReturnsInHanded {} Tryz.checked os 4 .any (Rows.transferCertainSpec.pre6 enc Tryz.prog Tryz.f4 Rows.transferCertainRow.domain false) (Rows.transferCertainSpec.post enc Tryz.prog Tryz.f4 false true false false):=by
 refine returnsInHanded_of_change (C:=Tryz.checked) own started (by kernel_rfl) Tryz.func4
  (ChangeSpec.witness6 (enc:=enc) (C:=Tryz.checked) false ⟨#[],#[.agg #[.slice none 0 0,.slice none 0 0,.int .i64 0,.slice none 0 0,.slice none 0 0,.int .u8 0,.int .u8 0,.int .u16 0,.int .u16 0,.int .u16 0,.int .u16 0,.int .u16 0,.int .u16 0,.int .u16 0,.int .u16 0]],[]⟩ 8
   (by kernel_rfl) (by kernel_rfl) (by kernel_rfl) (by kernel_rfl)) ?_
 intro W base args ds gs before hval hW _ _;exact Abs.Yj (P:=Tryz.prog) (f:=4) (fn:=Tryz.f4) (ts:=[32]) (ss:=[Abs.aip]) (s:=Rows.transferCertainSpec) (tb:=4) (by rw [Tryz.params4]) (by kernel_rfl) Tryz.underlying4 (by kernel_rfl) laidOut (by kernel_rfl) rfl (spec H) Abs.law6 hval hW
theorem facts {P:Program} {f:FuncId} {fn:Func} {s:ChangeSpec} {c:OpenClaim} (h1:laidOutB P=true) (h2:mapsRowed P=true) (h3:(c.inPlace==P.inPlace f)=true) (h4:(c.unfollowed==P.unfollowed f)=true) (h5:(c.recurses==P.recurses f)=true) (h6:(c.named==P.varsNamed f)=true) (h7:(c.plainKeys==P.plainKeys)=true) (h8:P.stopsHeard=true) (h9:P.mayEnter=true) (h10:(c.lifted==P.liftsFinal)=true) (h11:(P.make==some c.make)=true) (r:(c.wf (OpenSpec.ofChange s)&&fn.params.all (P.readableRec ·)&&namedTie P c.named s.vars&&(c.stops==[])&&(P.stops==[])&&(c.knobs==[])&&(P.stopKnobs==[])&&(c.maps==(fn.params.toList++s.plain.varTypes P).any (P.mapsRec ·))&&(c.ifaces==(fn.params.toList++s.plain.varTypes P).any (P.ifacesRec ·))&&(c.mapsOut==P.mapsAmong fn.resultTypes.toList)&&(c.loops==(fn.params.toList++s.plain.varTypes P).any (P.loopsFrom ·))&&(c.wideKeys==(fn.params.toList++s.plain.varTypes P++fn.resultTypes.toList).any (P.wideKeysFrom ·))&&s.vars.all (P.varReadable ·)&&fn.resultTypes.all (fun t=>P.readableRec t&&decide (t<P.types.size))&&(c.ifacesOut==fn.resultTypes.toList.any (P.ifacesRec ·))&&(c.loopsOut==fn.resultTypes.toList.any (P.loopsFrom ·))&&c.shortTexts.isNone&&(c.kinds==(if c.domain.isEmpty then [] else fn.params.toList.map fun t=>match P.underlying t with|some (.int k)=>some k|_=>none))&&(c.pinned==c.pinnedBy)&&(c.veiled==(fn.params.toList++s.plain.varTypes P++fn.resultTypes.toList).any (P.veiledRec ·))&&c.veiledFits P fn.params.toList (fn.params.toList++s.plain.varTypes P++fn.resultTypes.toList))=true):joinedFacts P f fn s c=true:=by unfold joinedFacts;rw [h1,h2,h3,h4,h5,h6,h7,h8,h9,h10,h11];simp only [Bool.and_true];exact r
theorem k2:mapsRowed Tryz.prog=true:=by kernel_rfl
theorem k3:(Rows.transferCertainRow.inPlace==Tryz.prog.inPlace 4)=true:=by kernel_rfl
theorem k4:(Rows.transferCertainRow.unfollowed==Tryz.prog.unfollowed 4)=true:=by kernel_rfl
theorem k5:(Rows.transferCertainRow.recurses==Tryz.prog.recurses 4)=true:=by kernel_rfl
theorem k6:(Rows.transferCertainRow.named==Tryz.prog.varsNamed 4)=true:=by kernel_rfl
theorem k7:(Rows.transferCertainRow.plainKeys==Tryz.prog.plainKeys)=true:=by kernel_rfl
theorem k8:Tryz.prog.stopsHeard=true:=by kernel_rfl
theorem k9:Tryz.prog.mayEnter=true:=by kernel_rfl
theorem k10:(Rows.transferCertainRow.lifted==Tryz.prog.liftsFinal)=true:=by kernel_rfl
theorem k11:(Tryz.prog.make==some Rows.transferCertainRow.make)=true:=by kernel_rfl
theorem closed:joinedFacts Tryz.prog 4 Tryz.f4 Rows.transferCertainSpec Rows.transferCertainRow=true:=facts laidOut k2 k3 k4 k5 k6 k7 k8 k9 k10 k11 (by kernel_rfl)
theorem holds:Rows.TransferCertainSaid:=
 OpenClaim.holds_of_wide 4 Tryz.f4 rfl rfl rfl rfl rfl rfl rfl ⟨rfl,rfl,rfl,rfl,rfl⟩ rfl rfl rfl rfl rfl (by kernel_rfl) Tryz.func4 closed
  (of_decide_eq_true (by kernel_rfl)) (by unfold Func.isWrapper;first|(rw [if_pos (by decide+kernel)];kernel_rfl)|(rw [if_neg (by decide+kernel)];exact ⟨rfl,rfl⟩))
  (fun os started H enc _=>lifted os started H enc)
end Go.Proofs.YtakobiabkfeelaaGreat.law6
