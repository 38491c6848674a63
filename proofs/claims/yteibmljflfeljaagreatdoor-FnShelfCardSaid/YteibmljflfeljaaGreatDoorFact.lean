/- Closed facts of the program and the row; no conditions. -/
import Derived.Test.YteibmljflfeljaaGreatDoorTie
import Derived.Test.YteibmljflfeljaaGreatDoorCards
import Derived.Test.YteibmljflfeljaaGreatDoorChecked
import Derived.WalkKit
import Derived.ProofKit
import Derived.OpenShut
import Derived.Handy
import Derived.Lay
import Derived.ChangeOld
import Derived.SizedLaws
import Derived.SevenTiedAt
set_option linter.defProp false
set_option linter.unusedSectionVars false
set_option linter.unusedVariables false
set_option linter.unusedSimpArgs false
namespace Go.Proofs.YteibmljflfeljaaGreatDoor.aqq
open Go.ChangeShapes Go.WideShapes Go.ChangeAt Go.RowKit
theorem jnn{a b:Bool}(h:a=true)(k:b=true):(a && b)=true:=by rw[h,k];rfl
theorem jf0:(Rows.fnShelfRow.wf (OpenSpec.ofChange Rows.fnShelfSpec))=true:=by kernel_rfl
theorem jf1:(laidOutB Tryz.prog)=true:=by kernel_rfl
theorem jf2:(mapsRowed Tryz.prog)=true:=by kernel_rfl
theorem jf3:(Tryz.f3.params.all (Tryz.prog.readableRec ·))=true:=by kernel_rfl
theorem jf4:(namedTie Tryz.prog Rows.fnShelfRow.named Rows.fnShelfSpec.vars)=true:=by kernel_rfl
theorem jf5:((Rows.fnShelfRow.stops==[]))=true:=by kernel_rfl
theorem jf6:((Tryz.prog.stops==[]))=true:=by kernel_rfl
theorem jf7:((Rows.fnShelfRow.knobs==[]))=true:=by kernel_rfl
theorem jf8:((Tryz.prog.stopKnobs==[]))=true:=by kernel_rfl
theorem jf9:((Rows.fnShelfRow.inPlace==Tryz.prog.inPlace 3))=true:=by kernel_rfl
theorem aqD:((Rows.fnShelfRow.unfollowed==Tryz.prog.unfollowed 3))=true:=by kernel_rfl
theorem aqE:((Rows.fnShelfRow.recurses==Tryz.prog.recurses 3))=true:=by kernel_rfl
theorem aqF:((Rows.fnShelfRow.named==Tryz.prog.varsNamed 3))=true:=by kernel_rfl
theorem aqG:((Rows.fnShelfRow.maps==(Tryz.f3.params.toList++Rows.fnShelfSpec.plain.varTypes Tryz.prog).any (Tryz.prog.mapsRec ·)))=true:=by kernel_rfl
theorem aqH:((Rows.fnShelfRow.ifaces==(Tryz.f3.params.toList++Rows.fnShelfSpec.plain.varTypes Tryz.prog).any (Tryz.prog.ifacesRec ·)))=true:=by kernel_rfl
theorem aqI:((Rows.fnShelfRow.mapsOut==Tryz.prog.mapsAmong Tryz.f3.resultTypes.toList))=true:=by kernel_rfl
theorem aqJ:((Rows.fnShelfRow.loops==(Tryz.f3.params.toList++Rows.fnShelfSpec.plain.varTypes Tryz.prog).any (Tryz.prog.loopsFrom ·)))=true:=by kernel_rfl
theorem aqK:((Rows.fnShelfRow.wideKeys==(Tryz.f3.params.toList++Rows.fnShelfSpec.plain.varTypes Tryz.prog++Tryz.f3.resultTypes.toList).any (Tryz.prog.wideKeysFrom ·)))=true:=by kernel_rfl
theorem aqL:(Rows.fnShelfSpec.vars.all (Tryz.prog.varReadable ·))=true:=by kernel_rfl
theorem aqM:(Tryz.f3.resultTypes.all (λt=>Tryz.prog.readableRec t && decide (t<Tryz.prog.types.size)))=true:=by kernel_rfl
theorem aqO:((Rows.fnShelfRow.ifacesOut==Tryz.f3.resultTypes.toList.any (Tryz.prog.ifacesRec ·)))=true:=by kernel_rfl
theorem aqP:((Rows.fnShelfRow.loopsOut==Tryz.f3.resultTypes.toList.any (Tryz.prog.loopsFrom ·)))=true:=by kernel_rfl
theorem aqQ:((Rows.fnShelfRow.plainKeys==Tryz.prog.plainKeys))=true:=by kernel_rfl
theorem aqR:(Rows.fnShelfRow.shortTexts.isNone)=true:=by kernel_rfl
theorem aqS:(Tryz.prog.stopsHeard)=true:=by kernel_rfl
theorem aqT:(Tryz.prog.mayEnter)=true:=by kernel_rfl
theorem aqU:((Rows.fnShelfRow.lifted==Tryz.prog.liftsFinal))=true:=by kernel_rfl
theorem aqV:((Tryz.prog.make==some Rows.fnShelfRow.make))=true:=by kernel_rfl
theorem aqW:((Rows.fnShelfRow.kinds==(if Rows.fnShelfRow.domain.isEmpty then [] else Tryz.f3.params.toList.map λt=>match Tryz.prog.underlying t with|some (.int k)=>some k|_=>none)))=true:=by kernel_rfl
theorem aqX:((Rows.fnShelfRow.pinned==Rows.fnShelfRow.pinnedBy))=true:=by kernel_rfl
theorem aqZ:((Rows.fnShelfRow.veiled==(Tryz.f3.params.toList++Rows.fnShelfSpec.plain.varTypes Tryz.prog++Tryz.f3.resultTypes.toList).any (Tryz.prog.veiledRec ·)))=true:=by kernel_rfl
theorem aq0:(Rows.fnShelfRow.veiledFits Tryz.prog Tryz.f3.params.toList (Tryz.f3.params.toList++Rows.fnShelfSpec.plain.varTypes Tryz.prog++Tryz.f3.resultTypes.toList))=true:=by kernel_rfl
set_option maxRecDepth 100000 in
theorem jf:joinedFacts Tryz.prog 3 Tryz.f3 Rows.fnShelfSpec Rows.fnShelfRow=true:=by unfold joinedFacts;exact(jnn (jnn (jnn (jnn (jnn (jnn (jnn (jnn (jnn (jnn (jnn (jnn (jnn (jnn (jnn (jnn (jnn (jnn (jnn (jnn (jnn (jnn (jnn (jnn (jnn (jnn (jnn (jnn (jnn (jnn (jnn jf0 jf1) jf2) jf3) jf4) jf5) jf6) jf7) jf8) jf9) aqD) aqE) aqF) aqG) aqH) aqI) aqJ) aqK) aqL) aqM) aqO) aqP) aqQ) aqR) aqS) aqT) aqU) aqV) aqW) aqX) aqZ) aq0)
theorem jcw:(Rows.fnShelfRow).wfByText (OpenSpec.ofChange Rows.fnShelfSpec)=true:=by kernel_rfl
theorem jcm:Tryz.pinned.checked.prog.mainIs=some ((true,"9e10eeeb31dfb72e782514ce430d17ee304f87e9dee6554cd3e1389437284526").1,(true,"9e10eeeb31dfb72e782514ce430d17ee304f87e9dee6554cd3e1389437284526").2.toList):=by kernel_rfl
theorem jcl:true=Tryz.pinned.checked.prog.looks []:=by kernel_rfl
theorem jcs:([22].all λu=> !Tryz.prog.wantsStandIn u)=true:=by kernel_rfl
theorem jcg:false=(Rows.fnShelfRow).goesBy Tryz.pinned.checked.prog:=by kernel_rfl
theorem jcf:Tryz.prog.funcNamed "loop.example/g00239/laws.FnShelf" =some 3:=by kernel_rfl
end Go.Proofs.YteibmljflfeljaaGreatDoor.aqq
