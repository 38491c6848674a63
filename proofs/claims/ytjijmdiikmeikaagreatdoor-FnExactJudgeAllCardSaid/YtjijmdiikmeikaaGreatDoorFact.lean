/- Closed facts of the program and the row; no conditions. -/
import Derived.Test.YtjijmdiikmeikaaGreatDoorTie
import Derived.Test.YtjijmdiikmeikaaGreatDoorCards
import Derived.Test.YtjijmdiikmeikaaGreatDoorChecked
import Derived.WalkKit
import Derived.ProofKit
import Derived.OpenShut
import Derived.Handy
import Derived.Lay
import Derived.ChangeOld
import Derived.SizedLaws
import Derived.SevenTiedAt
set_option linter.defProp false
set_option linter.unusedSectionVars false
set_option linter.unusedVariables false
set_option linter.unusedSimpArgs false
namespace Go.Proofs.YtjijmdiikmeikaaGreatDoor.atP
open Go.ChangeShapes Go.WideShapes Go.ChangeAt Go.RowKit
theorem jnn{a b:Bool}(h:a=true)(k:b=true):(a && b)=true:=by rw[h,k];rfl
theorem jf0:(Rows.fnExactJudgeAllRow.wf (OpenSpec.ofChange Rows.fnExactJudgeAllSpec))=true:=by kernel_rfl
theorem jf1:(laidOutB Tryz.prog)=true:=by kernel_rfl
theorem jf2:(mapsRowed Tryz.prog)=true:=by kernel_rfl
theorem jf3:(Tryz.f4.params.all (Tryz.prog.readableRec ·))=true:=by kernel_rfl
theorem jf4:(namedTie Tryz.prog Rows.fnExactJudgeAllRow.named Rows.fnExactJudgeAllSpec.vars)=true:=by kernel_rfl
theorem jf5:((Rows.fnExactJudgeAllRow.stops==[]))=true:=by kernel_rfl
theorem jf6:((Tryz.prog.stops==[]))=true:=by kernel_rfl
theorem jf7:((Rows.fnExactJudgeAllRow.knobs==[]))=true:=by kernel_rfl
theorem jf8:((Tryz.prog.stopKnobs==[]))=true:=by kernel_rfl
theorem jf9:((Rows.fnExactJudgeAllRow.inPlace==Tryz.prog.inPlace 4))=true:=by kernel_rfl
theorem at6:((Rows.fnExactJudgeAllRow.unfollowed==Tryz.prog.unfollowed 4))=true:=by kernel_rfl
theorem at7:((Rows.fnExactJudgeAllRow.recurses==Tryz.prog.recurses 4))=true:=by kernel_rfl
theorem aua:((Rows.fnExactJudgeAllRow.named==Tryz.prog.varsNamed 4))=true:=by kernel_rfl
theorem aub:((Rows.fnExactJudgeAllRow.maps==(Tryz.f4.params.toList++Rows.fnExactJudgeAllSpec.plain.varTypes Tryz.prog).any (Tryz.prog.mapsRec ·)))=true:=by kernel_rfl
theorem auc:((Rows.fnExactJudgeAllRow.ifaces==(Tryz.f4.params.toList++Rows.fnExactJudgeAllSpec.plain.varTypes Tryz.prog).any (Tryz.prog.ifacesRec ·)))=true:=by kernel_rfl
theorem aud:((Rows.fnExactJudgeAllRow.mapsOut==Tryz.prog.mapsAmong Tryz.f4.resultTypes.toList))=true:=by kernel_rfl
theorem aue:((Rows.fnExactJudgeAllRow.loops==(Tryz.f4.params.toList++Rows.fnExactJudgeAllSpec.plain.varTypes Tryz.prog).any (Tryz.prog.loopsFrom ·)))=true:=by kernel_rfl
theorem auf:((Rows.fnExactJudgeAllRow.wideKeys==(Tryz.f4.params.toList++Rows.fnExactJudgeAllSpec.plain.varTypes Tryz.prog++Tryz.f4.resultTypes.toList).any (Tryz.prog.wideKeysFrom ·)))=true:=by kernel_rfl
theorem aug:(Rows.fnExactJudgeAllSpec.vars.all (Tryz.prog.varReadable ·))=true:=by kernel_rfl
theorem auh:(Tryz.f4.resultTypes.all (λt=>Tryz.prog.readableRec t && decide (t<Tryz.prog.types.size)))=true:=by kernel_rfl
theorem auj:((Rows.fnExactJudgeAllRow.ifacesOut==Tryz.f4.resultTypes.toList.any (Tryz.prog.ifacesRec ·)))=true:=by kernel_rfl
theorem auk:((Rows.fnExactJudgeAllRow.loopsOut==Tryz.f4.resultTypes.toList.any (Tryz.prog.loopsFrom ·)))=true:=by kernel_rfl
theorem aul:((Rows.fnExactJudgeAllRow.plainKeys==Tryz.prog.plainKeys))=true:=by kernel_rfl
theorem aum:(Rows.fnExactJudgeAllRow.shortTexts.isNone)=true:=by kernel_rfl
theorem aun:(Tryz.prog.stopsHeard)=true:=by kernel_rfl
theorem auo:(Tryz.prog.mayEnter)=true:=by kernel_rfl
theorem aup:((Rows.fnExactJudgeAllRow.lifted==Tryz.prog.liftsFinal))=true:=by kernel_rfl
theorem auq:((Tryz.prog.make==some Rows.fnExactJudgeAllRow.make))=true:=by kernel_rfl
theorem aur:((Rows.fnExactJudgeAllRow.kinds==(if Rows.fnExactJudgeAllRow.domain.isEmpty then [] else Tryz.f4.params.toList.map λt=>match Tryz.prog.underlying t with|some (.int k)=>some k|_=>none)))=true:=by kernel_rfl
theorem aus:((Rows.fnExactJudgeAllRow.pinned==Rows.fnExactJudgeAllRow.pinnedBy))=true:=by kernel_rfl
theorem auu:((Rows.fnExactJudgeAllRow.veiled==(Tryz.f4.params.toList++Rows.fnExactJudgeAllSpec.plain.varTypes Tryz.prog++Tryz.f4.resultTypes.toList).any (Tryz.prog.veiledRec ·)))=true:=by kernel_rfl
theorem auv:(Rows.fnExactJudgeAllRow.veiledFits Tryz.prog Tryz.f4.params.toList (Tryz.f4.params.toList++Rows.fnExactJudgeAllSpec.plain.varTypes Tryz.prog++Tryz.f4.resultTypes.toList))=true:=by kernel_rfl
set_option maxRecDepth 100000 in
theorem jf:joinedFacts Tryz.prog 4 Tryz.f4 Rows.fnExactJudgeAllSpec Rows.fnExactJudgeAllRow=true:=by unfold joinedFacts;exact(jnn (jnn (jnn (jnn (jnn (jnn (jnn (jnn (jnn (jnn (jnn (jnn (jnn (jnn (jnn (jnn (jnn (jnn (jnn (jnn (jnn (jnn (jnn (jnn (jnn (jnn (jnn (jnn (jnn (jnn (jnn jf0 jf1) jf2) jf3) jf4) jf5) jf6) jf7) jf8) jf9) at6) at7) aua) aub) auc) aud) aue) auf) aug) auh) auj) auk) aul) aum) aun) auo) aup) auq) aur) aus) auu) auv)
theorem jcw:(Rows.fnExactJudgeAllRow).wfByText (OpenSpec.ofChange Rows.fnExactJudgeAllSpec)=true:=by kernel_rfl
theorem jcm:Tryz.pinned.checked.prog.mainIs=some ((true,"22c6a2bd4a81956e7f6fc0694f644b518225f7b90f67fc7cdabb8f0a69d72e04").1,(true,"22c6a2bd4a81956e7f6fc0694f644b518225f7b90f67fc7cdabb8f0a69d72e04").2.toList):=by kernel_rfl
theorem jcl:true=Tryz.pinned.checked.prog.looks []:=by kernel_rfl
theorem jcs:([34].all λu=> !Tryz.prog.wantsStandIn u)=true:=by kernel_rfl
theorem jcg:false=(Rows.fnExactJudgeAllRow).goesBy Tryz.pinned.checked.prog:=by kernel_rfl
theorem jcf:Tryz.prog.funcNamed "loop.example/g00239/laws.FnExactJudgeAll" =some 4:=by kernel_rfl
end Go.Proofs.YtjijmdiikmeikaaGreatDoor.atP
