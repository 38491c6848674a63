/- Closed facts of the program and the row; no conditions. -/
import Derived.Test.YtcibpfbfblmedaaGreatDoorTie
import Derived.Test.YtcibpfbfblmedaaGreatDoorCards
import Derived.Test.YtcibpfbfblmedaaGreatDoorChecked
import Derived.WalkKit
import Derived.ProofKit
import Derived.OpenShut
import Derived.Handy
import Derived.Lay
import Derived.ChangeOld
import Derived.SizedLaws
import Derived.SevenTiedAt
set_option linter.defProp false
set_option linter.unusedSectionVars false
set_option linter.unusedVariables false
set_option linter.unusedSimpArgs false
namespace Go.Proofs.YtcibpfbfblmedaaGreatDoor.amt
open Go.ChangeShapes Go.WideShapes Go.ChangeAt Go.RowKit
theorem jnn{a b:Bool}(h:a=true)(k:b=true):(a && b)=true:=by rw[h,k];rfl
theorem jf0:(Rows.fnTogetherRow.wf (OpenSpec.ofChange Rows.fnTogetherSpec))=true:=by kernel_rfl
theorem jf1:(laidOutB Tryz.prog)=true:=by kernel_rfl
theorem jf2:(mapsRowed Tryz.prog)=true:=by kernel_rfl
theorem jf3:(Tryz.f3.params.all (Tryz.prog.readableRec ·))=true:=by kernel_rfl
theorem jf4:(namedTie Tryz.prog Rows.fnTogetherRow.named Rows.fnTogetherSpec.vars)=true:=by kernel_rfl
theorem jf5:((Rows.fnTogetherRow.stops==[]))=true:=by kernel_rfl
theorem jf6:((Tryz.prog.stops==[]))=true:=by kernel_rfl
theorem jf7:((Rows.fnTogetherRow.knobs==[]))=true:=by kernel_rfl
theorem jf8:((Tryz.prog.stopKnobs==[]))=true:=by kernel_rfl
theorem jf9:((Rows.fnTogetherRow.inPlace==Tryz.prog.inPlace 3))=true:=by kernel_rfl
theorem amG:((Rows.fnTogetherRow.unfollowed==Tryz.prog.unfollowed 3))=true:=by kernel_rfl
theorem amH:((Rows.fnTogetherRow.recurses==Tryz.prog.recurses 3))=true:=by kernel_rfl
theorem amI:((Rows.fnTogetherRow.named==Tryz.prog.varsNamed 3))=true:=by kernel_rfl
theorem amJ:((Rows.fnTogetherRow.maps==(Tryz.f3.params.toList++Rows.fnTogetherSpec.plain.varTypes Tryz.prog).any (Tryz.prog.mapsRec ·)))=true:=by kernel_rfl
theorem amK:((Rows.fnTogetherRow.ifaces==(Tryz.f3.params.toList++Rows.fnTogetherSpec.plain.varTypes Tryz.prog).any (Tryz.prog.ifacesRec ·)))=true:=by kernel_rfl
theorem amL:((Rows.fnTogetherRow.mapsOut==Tryz.prog.mapsAmong Tryz.f3.resultTypes.toList))=true:=by kernel_rfl
theorem amM:((Rows.fnTogetherRow.loops==(Tryz.f3.params.toList++Rows.fnTogetherSpec.plain.varTypes Tryz.prog).any (Tryz.prog.loopsFrom ·)))=true:=by kernel_rfl
theorem amN:((Rows.fnTogetherRow.wideKeys==(Tryz.f3.params.toList++Rows.fnTogetherSpec.plain.varTypes Tryz.prog++Tryz.f3.resultTypes.toList).any (Tryz.prog.wideKeysFrom ·)))=true:=by kernel_rfl
theorem amO:(Rows.fnTogetherSpec.vars.all (Tryz.prog.varReadable ·))=true:=by kernel_rfl
theorem amP:(Tryz.f3.resultTypes.all (λt=>Tryz.prog.readableRec t && decide (t<Tryz.prog.types.size)))=true:=by kernel_rfl
theorem amR:((Rows.fnTogetherRow.ifacesOut==Tryz.f3.resultTypes.toList.any (Tryz.prog.ifacesRec ·)))=true:=by kernel_rfl
theorem amS:((Rows.fnTogetherRow.loopsOut==Tryz.f3.resultTypes.toList.any (Tryz.prog.loopsFrom ·)))=true:=by kernel_rfl
theorem amT:((Rows.fnTogetherRow.plainKeys==Tryz.prog.plainKeys))=true:=by kernel_rfl
theorem amU:(Rows.fnTogetherRow.shortTexts.isNone)=true:=by kernel_rfl
theorem amV:(Tryz.prog.stopsHeard)=true:=by kernel_rfl
theorem amW:(Tryz.prog.mayEnter)=true:=by kernel_rfl
theorem amX:((Rows.fnTogetherRow.lifted==Tryz.prog.liftsFinal))=true:=by kernel_rfl
theorem amY:((Tryz.prog.make==some Rows.fnTogetherRow.make))=true:=by kernel_rfl
theorem amZ:((Rows.fnTogetherRow.kinds==(if Rows.fnTogetherRow.domain.isEmpty then [] else Tryz.f3.params.toList.map λt=>match Tryz.prog.underlying t with|some (.int k)=>some k|_=>none)))=true:=by kernel_rfl
theorem am0:((Rows.fnTogetherRow.pinned==Rows.fnTogetherRow.pinnedBy))=true:=by kernel_rfl
theorem am2:((Rows.fnTogetherRow.veiled==(Tryz.f3.params.toList++Rows.fnTogetherSpec.plain.varTypes Tryz.prog++Tryz.f3.resultTypes.toList).any (Tryz.prog.veiledRec ·)))=true:=by kernel_rfl
theorem am3:(Rows.fnTogetherRow.veiledFits Tryz.prog Tryz.f3.params.toList (Tryz.f3.params.toList++Rows.fnTogetherSpec.plain.varTypes Tryz.prog++Tryz.f3.resultTypes.toList))=true:=by kernel_rfl
set_option maxRecDepth 100000 in
theorem jf:joinedFacts Tryz.prog 3 Tryz.f3 Rows.fnTogetherSpec Rows.fnTogetherRow=true:=by unfold joinedFacts;exact(jnn (jnn (jnn (jnn (jnn (jnn (jnn (jnn (jnn (jnn (jnn (jnn (jnn (jnn (jnn (jnn (jnn (jnn (jnn (jnn (jnn (jnn (jnn (jnn (jnn (jnn (jnn (jnn (jnn (jnn (jnn jf0 jf1) jf2) jf3) jf4) jf5) jf6) jf7) jf8) jf9) amG) amH) amI) amJ) amK) amL) amM) amN) amO) amP) amR) amS) amT) amU) amV) amW) amX) amY) amZ) am0) am2) am3)
theorem jcw:(Rows.fnTogetherRow).wfByText (OpenSpec.ofChange Rows.fnTogetherSpec)=true:=by kernel_rfl
theorem jcm:Tryz.pinned.checked.prog.mainIs=some ((true,"91d5efd6ecab9faad4cbe8a7aa118a5fbb361c0dd059f4d988fae0d6fe9f0ded").1,(true,"91d5efd6ecab9faad4cbe8a7aa118a5fbb361c0dd059f4d988fae0d6fe9f0ded").2.toList):=by kernel_rfl
theorem jcl:true=Tryz.pinned.checked.prog.looks []:=by kernel_rfl
theorem jcs:([22].all λu=> !Tryz.prog.wantsStandIn u)=true:=by kernel_rfl
theorem jcg:false=(Rows.fnTogetherRow).goesBy Tryz.pinned.checked.prog:=by kernel_rfl
theorem jcf:Tryz.prog.funcNamed "loop.example/g00239/laws.FnTogether" =some 3:=by kernel_rfl
end Go.Proofs.YtcibpfbfblmedaaGreatDoor.amt
