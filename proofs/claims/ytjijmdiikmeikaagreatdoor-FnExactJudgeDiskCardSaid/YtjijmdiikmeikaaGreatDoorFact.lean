/- Closed facts of the program and the row; no conditions. -/
import Derived.Test.YtjijmdiikmeikaaGreatDoorTie
import Derived.Test.YtjijmdiikmeikaaGreatDoorCards
import Derived.Test.YtjijmdiikmeikaaGreatDoorChecked
import Derived.WalkKit
import Derived.ProofKit
import Derived.OpenShut
import Derived.Handy
import Derived.Lay
import Derived.ChangeOld
import Derived.SizedLaws
import Derived.SevenTiedAt
set_option linter.defProp false
set_option linter.unusedSectionVars false
set_option linter.unusedVariables false
set_option linter.unusedSimpArgs false
namespace Go.Proofs.YtjijmdiikmeikaaGreatDoor.apk
open Go.ChangeShapes Go.WideShapes Go.ChangeAt Go.RowKit
theorem jnn{a b:Bool}(h:a=true)(k:b=true):(a && b)=true:=by rw[h,k];rfl
theorem jf0:(Rows.fnExactJudgeDiskRow.wf (OpenSpec.ofChange Rows.fnExactJudgeDiskSpec))=true:=by kernel_rfl
theorem jf1:(laidOutB Tryz.prog)=true:=by kernel_rfl
theorem jf2:(mapsRowed Tryz.prog)=true:=by kernel_rfl
theorem jf3:(Tryz.f3.params.all (Tryz.prog.readableRec ·))=true:=by kernel_rfl
theorem jf4:(namedTie Tryz.prog Rows.fnExactJudgeDiskRow.named Rows.fnExactJudgeDiskSpec.vars)=true:=by kernel_rfl
theorem jf5:((Rows.fnExactJudgeDiskRow.stops==[]))=true:=by kernel_rfl
theorem jf6:((Tryz.prog.stops==[]))=true:=by kernel_rfl
theorem jf7:((Rows.fnExactJudgeDiskRow.knobs==[]))=true:=by kernel_rfl
theorem jf8:((Tryz.prog.stopKnobs==[]))=true:=by kernel_rfl
theorem jf9:((Rows.fnExactJudgeDiskRow.inPlace==Tryz.prog.inPlace 3))=true:=by kernel_rfl
theorem apy:((Rows.fnExactJudgeDiskRow.unfollowed==Tryz.prog.unfollowed 3))=true:=by kernel_rfl
theorem apz:((Rows.fnExactJudgeDiskRow.recurses==Tryz.prog.recurses 3))=true:=by kernel_rfl
theorem apA:((Rows.fnExactJudgeDiskRow.named==Tryz.prog.varsNamed 3))=true:=by kernel_rfl
theorem apB:((Rows.fnExactJudgeDiskRow.maps==(Tryz.f3.params.toList++Rows.fnExactJudgeDiskSpec.plain.varTypes Tryz.prog).any (Tryz.prog.mapsRec ·)))=true:=by kernel_rfl
theorem apC:((Rows.fnExactJudgeDiskRow.ifaces==(Tryz.f3.params.toList++Rows.fnExactJudgeDiskSpec.plain.varTypes Tryz.prog).any (Tryz.prog.ifacesRec ·)))=true:=by kernel_rfl
theorem apD:((Rows.fnExactJudgeDiskRow.mapsOut==Tryz.prog.mapsAmong Tryz.f3.resultTypes.toList))=true:=by kernel_rfl
theorem apE:((Rows.fnExactJudgeDiskRow.loops==(Tryz.f3.params.toList++Rows.fnExactJudgeDiskSpec.plain.varTypes Tryz.prog).any (Tryz.prog.loopsFrom ·)))=true:=by kernel_rfl
theorem apF:((Rows.fnExactJudgeDiskRow.wideKeys==(Tryz.f3.params.toList++Rows.fnExactJudgeDiskSpec.plain.varTypes Tryz.prog++Tryz.f3.resultTypes.toList).any (Tryz.prog.wideKeysFrom ·)))=true:=by kernel_rfl
theorem apG:(Rows.fnExactJudgeDiskSpec.vars.all (Tryz.prog.varReadable ·))=true:=by kernel_rfl
theorem apH:(Tryz.f3.resultTypes.all (λt=>Tryz.prog.readableRec t && decide (t<Tryz.prog.types.size)))=true:=by kernel_rfl
theorem apJ:((Rows.fnExactJudgeDiskRow.ifacesOut==Tryz.f3.resultTypes.toList.any (Tryz.prog.ifacesRec ·)))=true:=by kernel_rfl
theorem apK:((Rows.fnExactJudgeDiskRow.loopsOut==Tryz.f3.resultTypes.toList.any (Tryz.prog.loopsFrom ·)))=true:=by kernel_rfl
theorem apL:((Rows.fnExactJudgeDiskRow.plainKeys==Tryz.prog.plainKeys))=true:=by kernel_rfl
theorem apM:(Rows.fnExactJudgeDiskRow.shortTexts.isNone)=true:=by kernel_rfl
theorem apN:(Tryz.prog.stopsHeard)=true:=by kernel_rfl
theorem apO:(Tryz.prog.mayEnter)=true:=by kernel_rfl
theorem apP:((Rows.fnExactJudgeDiskRow.lifted==Tryz.prog.liftsFinal))=true:=by kernel_rfl
theorem apQ:((Tryz.prog.make==some Rows.fnExactJudgeDiskRow.make))=true:=by kernel_rfl
theorem apR:((Rows.fnExactJudgeDiskRow.kinds==(if Rows.fnExactJudgeDiskRow.domain.isEmpty then [] else Tryz.f3.params.toList.map λt=>match Tryz.prog.underlying t with|some (.int k)=>some k|_=>none)))=true:=by kernel_rfl
theorem apS:((Rows.fnExactJudgeDiskRow.pinned==Rows.fnExactJudgeDiskRow.pinnedBy))=true:=by kernel_rfl
theorem apU:((Rows.fnExactJudgeDiskRow.veiled==(Tryz.f3.params.toList++Rows.fnExactJudgeDiskSpec.plain.varTypes Tryz.prog++Tryz.f3.resultTypes.toList).any (Tryz.prog.veiledRec ·)))=true:=by kernel_rfl
theorem apV:(Rows.fnExactJudgeDiskRow.veiledFits Tryz.prog Tryz.f3.params.toList (Tryz.f3.params.toList++Rows.fnExactJudgeDiskSpec.plain.varTypes Tryz.prog++Tryz.f3.resultTypes.toList))=true:=by kernel_rfl
set_option maxRecDepth 100000 in
theorem jf:joinedFacts Tryz.prog 3 Tryz.f3 Rows.fnExactJudgeDiskSpec Rows.fnExactJudgeDiskRow=true:=by unfold joinedFacts;exact(jnn (jnn (jnn (jnn (jnn (jnn (jnn (jnn (jnn (jnn (jnn (jnn (jnn (jnn (jnn (jnn (jnn (jnn (jnn (jnn (jnn (jnn (jnn (jnn (jnn (jnn (jnn (jnn (jnn (jnn (jnn jf0 jf1) jf2) jf3) jf4) jf5) jf6) jf7) jf8) jf9) apy) apz) apA) apB) apC) apD) apE) apF) apG) apH) apJ) apK) apL) apM) apN) apO) apP) apQ) apR) apS) apU) apV)
theorem jcw:(Rows.fnExactJudgeDiskRow).wfByText (OpenSpec.ofChange Rows.fnExactJudgeDiskSpec)=true:=by kernel_rfl
theorem jcm:Tryz.pinned.checked.prog.mainIs=some ((true,"22c6a2bd4a81956e7f6fc0694f644b518225f7b90f67fc7cdabb8f0a69d72e04").1,(true,"22c6a2bd4a81956e7f6fc0694f644b518225f7b90f67fc7cdabb8f0a69d72e04").2.toList):=by kernel_rfl
theorem jcl:true=Tryz.pinned.checked.prog.looks []:=by kernel_rfl
theorem jcs:([34].all λu=> !Tryz.prog.wantsStandIn u)=true:=by kernel_rfl
theorem jcg:false=(Rows.fnExactJudgeDiskRow).goesBy Tryz.pinned.checked.prog:=by kernel_rfl
theorem jcf:Tryz.prog.funcNamed "loop.example/g00239/laws.FnExactJudgeDisk" =some 3:=by kernel_rfl
end Go.Proofs.YtjijmdiikmeikaaGreatDoor.apk
