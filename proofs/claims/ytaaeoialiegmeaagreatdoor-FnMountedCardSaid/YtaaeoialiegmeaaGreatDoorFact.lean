/- Closed facts of the program and the row; no conditions. -/
import Derived.Test.YtaaeoialiegmeaaGreatDoorTie
import Derived.Test.YtaaeoialiegmeaaGreatDoorCards
import Derived.Test.YtaaeoialiegmeaaGreatDoorChecked
import Derived.WalkKit
import Derived.ProofKit
import Derived.OpenShut
import Derived.Handy
import Derived.Lay
import Derived.ChangeOld
import Derived.SizedLaws
import Derived.SevenTiedAt
set_option linter.defProp false
set_option linter.unusedSectionVars false
set_option linter.unusedVariables false
set_option linter.unusedSimpArgs false
namespace Go.Proofs.YtaaeoialiegmeaaGreatDoor.anX
open Go.ChangeShapes Go.WideShapes Go.ChangeAt Go.RowKit
theorem jnn{a b:Bool}(h:a=true)(k:b=true):(a && b)=true:=by rw[h,k];rfl
theorem jf0:(Rows.fnMountedRow.wf (OpenSpec.ofChange Rows.fnMountedSpec))=true:=by kernel_rfl
theorem jf1:(laidOutB Tryz.prog)=true:=by kernel_rfl
theorem jf2:(mapsRowed Tryz.prog)=true:=by kernel_rfl
theorem jf3:(Tryz.f6.params.all (Tryz.prog.readableRec ·))=true:=by kernel_rfl
theorem jf4:(namedTie Tryz.prog Rows.fnMountedRow.named Rows.fnMountedSpec.vars)=true:=by kernel_rfl
theorem jf5:((Rows.fnMountedRow.stops==[]))=true:=by kernel_rfl
theorem jf6:((Tryz.prog.stops==[]))=true:=by kernel_rfl
theorem jf7:((Rows.fnMountedRow.knobs==[]))=true:=by kernel_rfl
theorem jf8:((Tryz.prog.stopKnobs==[]))=true:=by kernel_rfl
theorem jf9:((Rows.fnMountedRow.inPlace==Tryz.prog.inPlace 6))=true:=by kernel_rfl
theorem aoa:((Rows.fnMountedRow.unfollowed==Tryz.prog.unfollowed 6))=true:=by kernel_rfl
theorem aob:((Rows.fnMountedRow.recurses==Tryz.prog.recurses 6))=true:=by kernel_rfl
theorem aoc:((Rows.fnMountedRow.named==Tryz.prog.varsNamed 6))=true:=by kernel_rfl
theorem aod:((Rows.fnMountedRow.maps==(Tryz.f6.params.toList++Rows.fnMountedSpec.plain.varTypes Tryz.prog).any (Tryz.prog.mapsRec ·)))=true:=by kernel_rfl
theorem aoe:((Rows.fnMountedRow.ifaces==(Tryz.f6.params.toList++Rows.fnMountedSpec.plain.varTypes Tryz.prog).any (Tryz.prog.ifacesRec ·)))=true:=by kernel_rfl
theorem aof:((Rows.fnMountedRow.mapsOut==Tryz.prog.mapsAmong Tryz.f6.resultTypes.toList))=true:=by kernel_rfl
theorem aog:((Rows.fnMountedRow.loops==(Tryz.f6.params.toList++Rows.fnMountedSpec.plain.varTypes Tryz.prog).any (Tryz.prog.loopsFrom ·)))=true:=by kernel_rfl
theorem aoh:((Rows.fnMountedRow.wideKeys==(Tryz.f6.params.toList++Rows.fnMountedSpec.plain.varTypes Tryz.prog++Tryz.f6.resultTypes.toList).any (Tryz.prog.wideKeysFrom ·)))=true:=by kernel_rfl
theorem aoi:(Rows.fnMountedSpec.vars.all (Tryz.prog.varReadable ·))=true:=by kernel_rfl
theorem aoj:(Tryz.f6.resultTypes.all (λt=>Tryz.prog.readableRec t && decide (t<Tryz.prog.types.size)))=true:=by kernel_rfl
theorem aol:((Rows.fnMountedRow.ifacesOut==Tryz.f6.resultTypes.toList.any (Tryz.prog.ifacesRec ·)))=true:=by kernel_rfl
theorem aom:((Rows.fnMountedRow.loopsOut==Tryz.f6.resultTypes.toList.any (Tryz.prog.loopsFrom ·)))=true:=by kernel_rfl
theorem aon:((Rows.fnMountedRow.plainKeys==Tryz.prog.plainKeys))=true:=by kernel_rfl
theorem aoo:(Rows.fnMountedRow.shortTexts.isNone)=true:=by kernel_rfl
theorem aop:(Tryz.prog.stopsHeard)=true:=by kernel_rfl
theorem aoq:(Tryz.prog.mayEnter)=true:=by kernel_rfl
theorem aor:((Rows.fnMountedRow.lifted==Tryz.prog.liftsFinal))=true:=by kernel_rfl
theorem aos:((Tryz.prog.make==some Rows.fnMountedRow.make))=true:=by kernel_rfl
theorem aot:((Rows.fnMountedRow.kinds==(if Rows.fnMountedRow.domain.isEmpty then [] else Tryz.f6.params.toList.map λt=>match Tryz.prog.underlying t with|some (.int k)=>some k|_=>none)))=true:=by kernel_rfl
theorem aou:((Rows.fnMountedRow.pinned==Rows.fnMountedRow.pinnedBy))=true:=by kernel_rfl
theorem aow:((Rows.fnMountedRow.veiled==(Tryz.f6.params.toList++Rows.fnMountedSpec.plain.varTypes Tryz.prog++Tryz.f6.resultTypes.toList).any (Tryz.prog.veiledRec ·)))=true:=by kernel_rfl
theorem aox:(Rows.fnMountedRow.veiledFits Tryz.prog Tryz.f6.params.toList (Tryz.f6.params.toList++Rows.fnMountedSpec.plain.varTypes Tryz.prog++Tryz.f6.resultTypes.toList))=true:=by kernel_rfl
set_option maxRecDepth 100000 in
theorem jf:joinedFacts Tryz.prog 6 Tryz.f6 Rows.fnMountedSpec Rows.fnMountedRow=true:=by unfold joinedFacts;exact(jnn (jnn (jnn (jnn (jnn (jnn (jnn (jnn (jnn (jnn (jnn (jnn (jnn (jnn (jnn (jnn (jnn (jnn (jnn (jnn (jnn (jnn (jnn (jnn (jnn (jnn (jnn (jnn (jnn (jnn (jnn jf0 jf1) jf2) jf3) jf4) jf5) jf6) jf7) jf8) jf9) aoa) aob) aoc) aod) aoe) aof) aog) aoh) aoi) aoj) aol) aom) aon) aoo) aop) aoq) aor) aos) aot) aou) aow) aox)
theorem jcw:(Rows.fnMountedRow).wfByText (OpenSpec.ofChange Rows.fnMountedSpec)=true:=by kernel_rfl
theorem jcm:Tryz.pinned.checked.prog.mainIs=some ((true,"db45d5b6050289824d2850edf075e3fd43151ee4e6dd343443b9549b3cb7efca").1,(true,"db45d5b6050289824d2850edf075e3fd43151ee4e6dd343443b9549b3cb7efca").2.toList):=by kernel_rfl
theorem jcl:true=Tryz.pinned.checked.prog.looks []:=by kernel_rfl
theorem jcs:([22].all λu=> !Tryz.prog.wantsStandIn u)=true:=by kernel_rfl
theorem jcg:false=(Rows.fnMountedRow).goesBy Tryz.pinned.checked.prog:=by kernel_rfl
theorem jcf:Tryz.prog.funcNamed "loop.example/g00239/laws.FnMounted" =some 6:=by kernel_rfl
end Go.Proofs.YtaaeoialiegmeaaGreatDoor.anX
