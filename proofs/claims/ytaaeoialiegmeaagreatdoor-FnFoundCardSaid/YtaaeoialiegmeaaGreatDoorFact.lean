/- Closed facts of the program and the row; no conditions. -/
import Derived.Test.YtaaeoialiegmeaaGreatDoorTie
import Derived.Test.YtaaeoialiegmeaaGreatDoorCards
import Derived.Test.YtaaeoialiegmeaaGreatDoorChecked
import Derived.WalkKit
import Derived.ProofKit
import Derived.OpenShut
import Derived.Handy
import Derived.Lay
import Derived.ChangeOld
import Derived.SizedLaws
import Derived.SevenTiedAt
set_option linter.defProp false
set_option linter.unusedSectionVars false
set_option linter.unusedVariables false
set_option linter.unusedSimpArgs false
namespace Go.Proofs.YtaaeoialiegmeaaGreatDoor.aml
open Go.ChangeShapes Go.WideShapes Go.ChangeAt Go.RowKit
theorem jnn{a b:Bool}(h:a=true)(k:b=true):(a && b)=true:=by rw[h,k];rfl
theorem jf0:(Rows.fnFoundRow.wf (OpenSpec.ofChange Rows.fnFoundSpec))=true:=by kernel_rfl
theorem jf1:(laidOutB Tryz.prog)=true:=by kernel_rfl
theorem jf2:(mapsRowed Tryz.prog)=true:=by kernel_rfl
theorem jf3:(Tryz.f4.params.all (Tryz.prog.readableRec ·))=true:=by kernel_rfl
theorem jf4:(namedTie Tryz.prog Rows.fnFoundRow.named Rows.fnFoundSpec.vars)=true:=by kernel_rfl
theorem jf5:((Rows.fnFoundRow.stops==[]))=true:=by kernel_rfl
theorem jf6:((Tryz.prog.stops==[]))=true:=by kernel_rfl
theorem jf7:((Rows.fnFoundRow.knobs==[]))=true:=by kernel_rfl
theorem jf8:((Tryz.prog.stopKnobs==[]))=true:=by kernel_rfl
theorem jf9:((Rows.fnFoundRow.inPlace==Tryz.prog.inPlace 4))=true:=by kernel_rfl
theorem amz:((Rows.fnFoundRow.unfollowed==Tryz.prog.unfollowed 4))=true:=by kernel_rfl
theorem amA:((Rows.fnFoundRow.recurses==Tryz.prog.recurses 4))=true:=by kernel_rfl
theorem amB:((Rows.fnFoundRow.named==Tryz.prog.varsNamed 4))=true:=by kernel_rfl
theorem amC:((Rows.fnFoundRow.maps==(Tryz.f4.params.toList++Rows.fnFoundSpec.plain.varTypes Tryz.prog).any (Tryz.prog.mapsRec ·)))=true:=by kernel_rfl
theorem amD:((Rows.fnFoundRow.ifaces==(Tryz.f4.params.toList++Rows.fnFoundSpec.plain.varTypes Tryz.prog).any (Tryz.prog.ifacesRec ·)))=true:=by kernel_rfl
theorem amE:((Rows.fnFoundRow.mapsOut==Tryz.prog.mapsAmong Tryz.f4.resultTypes.toList))=true:=by kernel_rfl
theorem amF:((Rows.fnFoundRow.loops==(Tryz.f4.params.toList++Rows.fnFoundSpec.plain.varTypes Tryz.prog).any (Tryz.prog.loopsFrom ·)))=true:=by kernel_rfl
theorem amG:((Rows.fnFoundRow.wideKeys==(Tryz.f4.params.toList++Rows.fnFoundSpec.plain.varTypes Tryz.prog++Tryz.f4.resultTypes.toList).any (Tryz.prog.wideKeysFrom ·)))=true:=by kernel_rfl
theorem amH:(Rows.fnFoundSpec.vars.all (Tryz.prog.varReadable ·))=true:=by kernel_rfl
theorem amI:(Tryz.f4.resultTypes.all (λt=>Tryz.prog.readableRec t && decide (t<Tryz.prog.types.size)))=true:=by kernel_rfl
theorem amK:((Rows.fnFoundRow.ifacesOut==Tryz.f4.resultTypes.toList.any (Tryz.prog.ifacesRec ·)))=true:=by kernel_rfl
theorem amL:((Rows.fnFoundRow.loopsOut==Tryz.f4.resultTypes.toList.any (Tryz.prog.loopsFrom ·)))=true:=by kernel_rfl
theorem amM:((Rows.fnFoundRow.plainKeys==Tryz.prog.plainKeys))=true:=by kernel_rfl
theorem amN:(Rows.fnFoundRow.shortTexts.isNone)=true:=by kernel_rfl
theorem amO:(Tryz.prog.stopsHeard)=true:=by kernel_rfl
theorem amP:(Tryz.prog.mayEnter)=true:=by kernel_rfl
theorem amQ:((Rows.fnFoundRow.lifted==Tryz.prog.liftsFinal))=true:=by kernel_rfl
theorem amR:((Tryz.prog.make==some Rows.fnFoundRow.make))=true:=by kernel_rfl
theorem amS:((Rows.fnFoundRow.kinds==(if Rows.fnFoundRow.domain.isEmpty then [] else Tryz.f4.params.toList.map λt=>match Tryz.prog.underlying t with|some (.int k)=>some k|_=>none)))=true:=by kernel_rfl
theorem amT:((Rows.fnFoundRow.pinned==Rows.fnFoundRow.pinnedBy))=true:=by kernel_rfl
theorem amV:((Rows.fnFoundRow.veiled==(Tryz.f4.params.toList++Rows.fnFoundSpec.plain.varTypes Tryz.prog++Tryz.f4.resultTypes.toList).any (Tryz.prog.veiledRec ·)))=true:=by kernel_rfl
theorem amW:(Rows.fnFoundRow.veiledFits Tryz.prog Tryz.f4.params.toList (Tryz.f4.params.toList++Rows.fnFoundSpec.plain.varTypes Tryz.prog++Tryz.f4.resultTypes.toList))=true:=by kernel_rfl
set_option maxRecDepth 100000 in
theorem jf:joinedFacts Tryz.prog 4 Tryz.f4 Rows.fnFoundSpec Rows.fnFoundRow=true:=by unfold joinedFacts;exact(jnn (jnn (jnn (jnn (jnn (jnn (jnn (jnn (jnn (jnn (jnn (jnn (jnn (jnn (jnn (jnn (jnn (jnn (jnn (jnn (jnn (jnn (jnn (jnn (jnn (jnn (jnn (jnn (jnn (jnn (jnn jf0 jf1) jf2) jf3) jf4) jf5) jf6) jf7) jf8) jf9) amz) amA) amB) amC) amD) amE) amF) amG) amH) amI) amK) amL) amM) amN) amO) amP) amQ) amR) amS) amT) amV) amW)
theorem jcw:(Rows.fnFoundRow).wfByText (OpenSpec.ofChange Rows.fnFoundSpec)=true:=by kernel_rfl
theorem jcm:Tryz.pinned.checked.prog.mainIs=some ((true,"db45d5b6050289824d2850edf075e3fd43151ee4e6dd343443b9549b3cb7efca").1,(true,"db45d5b6050289824d2850edf075e3fd43151ee4e6dd343443b9549b3cb7efca").2.toList):=by kernel_rfl
theorem jcl:true=Tryz.pinned.checked.prog.looks []:=by kernel_rfl
theorem jcs:([22].all λu=> !Tryz.prog.wantsStandIn u)=true:=by kernel_rfl
theorem jcg:false=(Rows.fnFoundRow).goesBy Tryz.pinned.checked.prog:=by kernel_rfl
theorem jcf:Tryz.prog.funcNamed "loop.example/g00239/laws.FnFound" =some 4:=by kernel_rfl
end Go.Proofs.YtaaeoialiegmeaaGreatDoor.aml
