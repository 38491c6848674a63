/- Closed facts of the program and the row; no conditions. -/
import Derived.Test.YtcibpfbfblmedaaGreatDoorTie
import Derived.Test.YtcibpfbfblmedaaGreatDoorCards
import Derived.Test.YtcibpfbfblmedaaGreatDoorChecked
import Derived.WalkKit
import Derived.ProofKit
import Derived.OpenShut
import Derived.Handy
import Derived.Lay
import Derived.ChangeOld
import Derived.SizedLaws
import Derived.SevenTiedAt
set_option linter.defProp false
set_option linter.unusedSectionVars false
set_option linter.unusedVariables false
set_option linter.unusedSimpArgs false
namespace Go.Proofs.YtcibpfbfblmedaaGreatDoor.aoU
open Go.ChangeShapes Go.WideShapes Go.ChangeAt Go.RowKit
theorem jnn{a b:Bool}(h:a=true)(k:b=true):(a && b)=true:=by rw[h,k];rfl
theorem jf0:(Rows.fnOriginRow.wf (OpenSpec.ofChange Rows.fnOriginSpec))=true:=by kernel_rfl
theorem jf1:(laidOutB Tryz.prog)=true:=by kernel_rfl
theorem jf2:(mapsRowed Tryz.prog)=true:=by kernel_rfl
theorem jf3:(Tryz.f4.params.all (Tryz.prog.readableRec ·))=true:=by kernel_rfl
theorem jf4:(namedTie Tryz.prog Rows.fnOriginRow.named Rows.fnOriginSpec.vars)=true:=by kernel_rfl
theorem jf5:((Rows.fnOriginRow.stops==[]))=true:=by kernel_rfl
theorem jf6:((Tryz.prog.stops==[]))=true:=by kernel_rfl
theorem jf7:((Rows.fnOriginRow.knobs==[]))=true:=by kernel_rfl
theorem jf8:((Tryz.prog.stopKnobs==[]))=true:=by kernel_rfl
theorem jf9:((Rows.fnOriginRow.inPlace==Tryz.prog.inPlace 4))=true:=by kernel_rfl
theorem ao7:((Rows.fnOriginRow.unfollowed==Tryz.prog.unfollowed 4))=true:=by kernel_rfl
theorem ao8:((Rows.fnOriginRow.recurses==Tryz.prog.recurses 4))=true:=by kernel_rfl
theorem ao9:((Rows.fnOriginRow.named==Tryz.prog.varsNamed 4))=true:=by kernel_rfl
theorem apa:((Rows.fnOriginRow.maps==(Tryz.f4.params.toList++Rows.fnOriginSpec.plain.varTypes Tryz.prog).any (Tryz.prog.mapsRec ·)))=true:=by kernel_rfl
theorem apb:((Rows.fnOriginRow.ifaces==(Tryz.f4.params.toList++Rows.fnOriginSpec.plain.varTypes Tryz.prog).any (Tryz.prog.ifacesRec ·)))=true:=by kernel_rfl
theorem apc:((Rows.fnOriginRow.mapsOut==Tryz.prog.mapsAmong Tryz.f4.resultTypes.toList))=true:=by kernel_rfl
theorem apd:((Rows.fnOriginRow.loops==(Tryz.f4.params.toList++Rows.fnOriginSpec.plain.varTypes Tryz.prog).any (Tryz.prog.loopsFrom ·)))=true:=by kernel_rfl
theorem ape:((Rows.fnOriginRow.wideKeys==(Tryz.f4.params.toList++Rows.fnOriginSpec.plain.varTypes Tryz.prog++Tryz.f4.resultTypes.toList).any (Tryz.prog.wideKeysFrom ·)))=true:=by kernel_rfl
theorem apf:(Rows.fnOriginSpec.vars.all (Tryz.prog.varReadable ·))=true:=by kernel_rfl
theorem apg:(Tryz.f4.resultTypes.all (λt=>Tryz.prog.readableRec t && decide (t<Tryz.prog.types.size)))=true:=by kernel_rfl
theorem api:((Rows.fnOriginRow.ifacesOut==Tryz.f4.resultTypes.toList.any (Tryz.prog.ifacesRec ·)))=true:=by kernel_rfl
theorem apj:((Rows.fnOriginRow.loopsOut==Tryz.f4.resultTypes.toList.any (Tryz.prog.loopsFrom ·)))=true:=by kernel_rfl
theorem apk:((Rows.fnOriginRow.plainKeys==Tryz.prog.plainKeys))=true:=by kernel_rfl
theorem apl:(Rows.fnOriginRow.shortTexts.isNone)=true:=by kernel_rfl
theorem apm:(Tryz.prog.stopsHeard)=true:=by kernel_rfl
theorem apn:(Tryz.prog.mayEnter)=true:=by kernel_rfl
theorem apo:((Rows.fnOriginRow.lifted==Tryz.prog.liftsFinal))=true:=by kernel_rfl
theorem apq:((Tryz.prog.make==some Rows.fnOriginRow.make))=true:=by kernel_rfl
theorem apr:((Rows.fnOriginRow.kinds==(if Rows.fnOriginRow.domain.isEmpty then [] else Tryz.f4.params.toList.map λt=>match Tryz.prog.underlying t with|some (.int k)=>some k|_=>none)))=true:=by kernel_rfl
theorem aps:((Rows.fnOriginRow.pinned==Rows.fnOriginRow.pinnedBy))=true:=by kernel_rfl
theorem apu:((Rows.fnOriginRow.veiled==(Tryz.f4.params.toList++Rows.fnOriginSpec.plain.varTypes Tryz.prog++Tryz.f4.resultTypes.toList).any (Tryz.prog.veiledRec ·)))=true:=by kernel_rfl
theorem apv:(Rows.fnOriginRow.veiledFits Tryz.prog Tryz.f4.params.toList (Tryz.f4.params.toList++Rows.fnOriginSpec.plain.varTypes Tryz.prog++Tryz.f4.resultTypes.toList))=true:=by kernel_rfl
set_option maxRecDepth 100000 in
theorem jf:joinedFacts Tryz.prog 4 Tryz.f4 Rows.fnOriginSpec Rows.fnOriginRow=true:=by unfold joinedFacts;exact(jnn (jnn (jnn (jnn (jnn (jnn (jnn (jnn (jnn (jnn (jnn (jnn (jnn (jnn (jnn (jnn (jnn (jnn (jnn (jnn (jnn (jnn (jnn (jnn (jnn (jnn (jnn (jnn (jnn (jnn (jnn jf0 jf1) jf2) jf3) jf4) jf5) jf6) jf7) jf8) jf9) ao7) ao8) ao9) apa) apb) apc) apd) ape) apf) apg) api) apj) apk) apl) apm) apn) apo) apq) apr) aps) apu) apv)
theorem jcw:(Rows.fnOriginRow).wfByText (OpenSpec.ofChange Rows.fnOriginSpec)=true:=by kernel_rfl
theorem jcm:Tryz.pinned.checked.prog.mainIs=some ((true,"91d5efd6ecab9faad4cbe8a7aa118a5fbb361c0dd059f4d988fae0d6fe9f0ded").1,(true,"91d5efd6ecab9faad4cbe8a7aa118a5fbb361c0dd059f4d988fae0d6fe9f0ded").2.toList):=by kernel_rfl
theorem jcl:true=Tryz.pinned.checked.prog.looks []:=by kernel_rfl
theorem jcs:([22].all λu=> !Tryz.prog.wantsStandIn u)=true:=by kernel_rfl
theorem jcg:false=(Rows.fnOriginRow).goesBy Tryz.pinned.checked.prog:=by kernel_rfl
theorem jcf:Tryz.prog.funcNamed "loop.example/g00239/laws.FnOrigin" =some 4:=by kernel_rfl
end Go.Proofs.YtcibpfbfblmedaaGreatDoor.aoU
