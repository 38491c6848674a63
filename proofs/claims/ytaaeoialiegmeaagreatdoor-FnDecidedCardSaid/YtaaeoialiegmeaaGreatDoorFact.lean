/- Closed facts of the program and the row; no conditions. -/
import Derived.Test.YtaaeoialiegmeaaGreatDoorTie
import Derived.Test.YtaaeoialiegmeaaGreatDoorCards
import Derived.Test.YtaaeoialiegmeaaGreatDoorChecked
import Derived.WalkKit
import Derived.ProofKit
import Derived.OpenShut
import Derived.Handy
import Derived.Lay
import Derived.ChangeOld
import Derived.SizedLaws
import Derived.SevenTiedAt
set_option linter.defProp false
set_option linter.unusedSectionVars false
set_option linter.unusedVariables false
set_option linter.unusedSimpArgs false
namespace Go.Proofs.YtaaeoialiegmeaaGreatDoor.aoj
open Go.ChangeShapes Go.WideShapes Go.ChangeAt Go.RowKit
theorem jnn{a b:Bool}(h:a=true)(k:b=true):(a && b)=true:=by rw[h,k];rfl
theorem jf0:(Rows.fnDecidedRow.wf (OpenSpec.ofChange Rows.fnDecidedSpec))=true:=by kernel_rfl
theorem jf1:(laidOutB Tryz.prog)=true:=by kernel_rfl
theorem jf2:(mapsRowed Tryz.prog)=true:=by kernel_rfl
theorem jf3:(Tryz.f5.params.all (Tryz.prog.readableRec ·))=true:=by kernel_rfl
theorem jf4:(namedTie Tryz.prog Rows.fnDecidedRow.named Rows.fnDecidedSpec.vars)=true:=by kernel_rfl
theorem jf5:((Rows.fnDecidedRow.stops==[]))=true:=by kernel_rfl
theorem jf6:((Tryz.prog.stops==[]))=true:=by kernel_rfl
theorem jf7:((Rows.fnDecidedRow.knobs==[]))=true:=by kernel_rfl
theorem jf8:((Tryz.prog.stopKnobs==[]))=true:=by kernel_rfl
theorem jf9:((Rows.fnDecidedRow.inPlace==Tryz.prog.inPlace 5))=true:=by kernel_rfl
theorem aow:((Rows.fnDecidedRow.unfollowed==Tryz.prog.unfollowed 5))=true:=by kernel_rfl
theorem aox:((Rows.fnDecidedRow.recurses==Tryz.prog.recurses 5))=true:=by kernel_rfl
theorem aoy:((Rows.fnDecidedRow.named==Tryz.prog.varsNamed 5))=true:=by kernel_rfl
theorem aoz:((Rows.fnDecidedRow.maps==(Tryz.f5.params.toList++Rows.fnDecidedSpec.plain.varTypes Tryz.prog).any (Tryz.prog.mapsRec ·)))=true:=by kernel_rfl
theorem aoA:((Rows.fnDecidedRow.ifaces==(Tryz.f5.params.toList++Rows.fnDecidedSpec.plain.varTypes Tryz.prog).any (Tryz.prog.ifacesRec ·)))=true:=by kernel_rfl
theorem aoB:((Rows.fnDecidedRow.mapsOut==Tryz.prog.mapsAmong Tryz.f5.resultTypes.toList))=true:=by kernel_rfl
theorem aoC:((Rows.fnDecidedRow.loops==(Tryz.f5.params.toList++Rows.fnDecidedSpec.plain.varTypes Tryz.prog).any (Tryz.prog.loopsFrom ·)))=true:=by kernel_rfl
theorem aoD:((Rows.fnDecidedRow.wideKeys==(Tryz.f5.params.toList++Rows.fnDecidedSpec.plain.varTypes Tryz.prog++Tryz.f5.resultTypes.toList).any (Tryz.prog.wideKeysFrom ·)))=true:=by kernel_rfl
theorem aoE:(Rows.fnDecidedSpec.vars.all (Tryz.prog.varReadable ·))=true:=by kernel_rfl
theorem aoF:(Tryz.f5.resultTypes.all (λt=>Tryz.prog.readableRec t && decide (t<Tryz.prog.types.size)))=true:=by kernel_rfl
theorem aoH:((Rows.fnDecidedRow.ifacesOut==Tryz.f5.resultTypes.toList.any (Tryz.prog.ifacesRec ·)))=true:=by kernel_rfl
theorem aoI:((Rows.fnDecidedRow.loopsOut==Tryz.f5.resultTypes.toList.any (Tryz.prog.loopsFrom ·)))=true:=by kernel_rfl
theorem aoJ:((Rows.fnDecidedRow.plainKeys==Tryz.prog.plainKeys))=true:=by kernel_rfl
theorem aoK:(Rows.fnDecidedRow.shortTexts.isNone)=true:=by kernel_rfl
theorem aoL:(Tryz.prog.stopsHeard)=true:=by kernel_rfl
theorem aoM:(Tryz.prog.mayEnter)=true:=by kernel_rfl
theorem aoN:((Rows.fnDecidedRow.lifted==Tryz.prog.liftsFinal))=true:=by kernel_rfl
theorem aoO:((Tryz.prog.make==some Rows.fnDecidedRow.make))=true:=by kernel_rfl
theorem aoP:((Rows.fnDecidedRow.kinds==(if Rows.fnDecidedRow.domain.isEmpty then [] else Tryz.f5.params.toList.map λt=>match Tryz.prog.underlying t with|some (.int k)=>some k|_=>none)))=true:=by kernel_rfl
theorem aoQ:((Rows.fnDecidedRow.pinned==Rows.fnDecidedRow.pinnedBy))=true:=by kernel_rfl
theorem aoS:((Rows.fnDecidedRow.veiled==(Tryz.f5.params.toList++Rows.fnDecidedSpec.plain.varTypes Tryz.prog++Tryz.f5.resultTypes.toList).any (Tryz.prog.veiledRec ·)))=true:=by kernel_rfl
theorem aoT:(Rows.fnDecidedRow.veiledFits Tryz.prog Tryz.f5.params.toList (Tryz.f5.params.toList++Rows.fnDecidedSpec.plain.varTypes Tryz.prog++Tryz.f5.resultTypes.toList))=true:=by kernel_rfl
set_option maxRecDepth 100000 in
theorem jf:joinedFacts Tryz.prog 5 Tryz.f5 Rows.fnDecidedSpec Rows.fnDecidedRow=true:=by unfold joinedFacts;exact(jnn (jnn (jnn (jnn (jnn (jnn (jnn (jnn (jnn (jnn (jnn (jnn (jnn (jnn (jnn (jnn (jnn (jnn (jnn (jnn (jnn (jnn (jnn (jnn (jnn (jnn (jnn (jnn (jnn (jnn (jnn jf0 jf1) jf2) jf3) jf4) jf5) jf6) jf7) jf8) jf9) aow) aox) aoy) aoz) aoA) aoB) aoC) aoD) aoE) aoF) aoH) aoI) aoJ) aoK) aoL) aoM) aoN) aoO) aoP) aoQ) aoS) aoT)
theorem jcw:(Rows.fnDecidedRow).wfByText (OpenSpec.ofChange Rows.fnDecidedSpec)=true:=by kernel_rfl
theorem jcm:Tryz.pinned.checked.prog.mainIs=some ((true,"db45d5b6050289824d2850edf075e3fd43151ee4e6dd343443b9549b3cb7efca").1,(true,"db45d5b6050289824d2850edf075e3fd43151ee4e6dd343443b9549b3cb7efca").2.toList):=by kernel_rfl
theorem jcl:true=Tryz.pinned.checked.prog.looks []:=by kernel_rfl
theorem jcs:([22].all λu=> !Tryz.prog.wantsStandIn u)=true:=by kernel_rfl
theorem jcg:false=(Rows.fnDecidedRow).goesBy Tryz.pinned.checked.prog:=by kernel_rfl
theorem jcf:Tryz.prog.funcNamed "loop.example/g00239/laws.FnDecided" =some 5:=by kernel_rfl
end Go.Proofs.YtaaeoialiegmeaaGreatDoor.aoj
