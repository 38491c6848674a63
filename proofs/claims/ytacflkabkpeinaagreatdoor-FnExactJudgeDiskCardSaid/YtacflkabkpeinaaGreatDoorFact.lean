/- Closed facts of the program and the row; no conditions. -/
import Derived.Test.YtacflkabkpeinaaGreatDoorTie
import Derived.Test.YtacflkabkpeinaaGreatDoorCards
import Derived.Test.YtacflkabkpeinaaGreatDoorChecked
import Derived.WalkKit
import Derived.ProofKit
import Derived.OpenShut
import Derived.Handy
import Derived.Lay
import Derived.ChangeOld
import Derived.SizedLaws
import Derived.SevenTiedAt
set_option linter.unusedSectionVars false
set_option linter.unusedVariables false
set_option linter.unusedSimpArgs false
namespace Go.Proofs.YtacflkabkpeinaaGreatDoor.al3
open Go.ChangeShapes Go.WideShapes Go.ChangeAt Go.RowKit
theorem jnn {a b : Bool} (h : a = true) (k : b = true) : (a && b) = true:=by rw [h,k]; rfl
theorem jf0 : (Rows.fnExactJudgeDiskRow.wf (OpenSpec.ofChange Rows.fnExactJudgeDiskSpec)) = true:=by kernel_rfl
theorem jf1 : (laidOutB Tryz.prog) = true:=by kernel_rfl
theorem jf2 : (mapsRowed Tryz.prog) = true:=by kernel_rfl
theorem jf3 : (Tryz.f5.params.all (Tryz.prog.readableRec ·)) = true:=by kernel_rfl
theorem jf4 : (namedTie Tryz.prog Rows.fnExactJudgeDiskRow.named Rows.fnExactJudgeDiskSpec.vars) = true:=by kernel_rfl
theorem jf5 : ((Rows.fnExactJudgeDiskRow.stops == [])) = true:=by kernel_rfl
theorem jf6 : ((Tryz.prog.stops == [])) = true:=by kernel_rfl
theorem jf7 : ((Rows.fnExactJudgeDiskRow.knobs == [])) = true:=by kernel_rfl
theorem jf8 : ((Tryz.prog.stopKnobs == [])) = true:=by kernel_rfl
theorem jf9 : ((Rows.fnExactJudgeDiskRow.inPlace == Tryz.prog.inPlace 5)) = true:=by kernel_rfl
theorem amg : ((Rows.fnExactJudgeDiskRow.unfollowed == Tryz.prog.unfollowed 5)) = true:=by kernel_rfl
theorem amh : ((Rows.fnExactJudgeDiskRow.recurses == Tryz.prog.recurses 5)) = true:=by kernel_rfl
theorem ami : ((Rows.fnExactJudgeDiskRow.named == Tryz.prog.varsNamed 5)) = true:=by kernel_rfl
theorem amj : ((Rows.fnExactJudgeDiskRow.maps == (Tryz.f5.params.toList ++ Rows.fnExactJudgeDiskSpec.plain.varTypes Tryz.prog).any (Tryz.prog.mapsRec ·))) = true:=by kernel_rfl
theorem amk : ((Rows.fnExactJudgeDiskRow.ifaces == (Tryz.f5.params.toList ++ Rows.fnExactJudgeDiskSpec.plain.varTypes Tryz.prog).any (Tryz.prog.ifacesRec ·))) = true:=by kernel_rfl
theorem aml : ((Rows.fnExactJudgeDiskRow.mapsOut == Tryz.prog.mapsAmong Tryz.f5.resultTypes.toList)) = true:=by kernel_rfl
theorem amm : ((Rows.fnExactJudgeDiskRow.loops == (Tryz.f5.params.toList ++ Rows.fnExactJudgeDiskSpec.plain.varTypes Tryz.prog).any (Tryz.prog.loopsFrom ·))) = true:=by kernel_rfl
theorem amn : ((Rows.fnExactJudgeDiskRow.wideKeys == (Tryz.f5.params.toList ++ Rows.fnExactJudgeDiskSpec.plain.varTypes Tryz.prog ++ Tryz.f5.resultTypes.toList).any (Tryz.prog.wideKeysFrom ·))) = true:=by kernel_rfl
theorem amo : (Rows.fnExactJudgeDiskSpec.vars.all (Tryz.prog.varReadable ·)) = true:=by kernel_rfl
theorem amq : (Tryz.f5.resultTypes.all (fun t=>Tryz.prog.readableRec t && decide (t < Tryz.prog.types.size))) = true:=by kernel_rfl
theorem ams : ((Rows.fnExactJudgeDiskRow.ifacesOut == Tryz.f5.resultTypes.toList.any (Tryz.prog.ifacesRec ·))) = true:=by kernel_rfl
theorem amt : ((Rows.fnExactJudgeDiskRow.loopsOut == Tryz.f5.resultTypes.toList.any (Tryz.prog.loopsFrom ·))) = true:=by kernel_rfl
theorem amu : ((Rows.fnExactJudgeDiskRow.plainKeys == Tryz.prog.plainKeys)) = true:=by kernel_rfl
theorem amv : (Rows.fnExactJudgeDiskRow.shortTexts.isNone) = true:=by kernel_rfl
theorem amw : (Tryz.prog.stopsHeard) = true:=by kernel_rfl
theorem amx : (Tryz.prog.mayEnter) = true:=by kernel_rfl
theorem amy : ((Rows.fnExactJudgeDiskRow.lifted == Tryz.prog.liftsFinal)) = true:=by kernel_rfl
theorem amz : ((Tryz.prog.make == some Rows.fnExactJudgeDiskRow.make)) = true:=by kernel_rfl
theorem amA : ((Rows.fnExactJudgeDiskRow.kinds == (if Rows.fnExactJudgeDiskRow.domain.isEmpty then [] else Tryz.f5.params.toList.map fun t=>match Tryz.prog.underlying t with | some (.int k)=>some k | _=>none))) = true:=by kernel_rfl
theorem amB : ((Rows.fnExactJudgeDiskRow.pinned == Rows.fnExactJudgeDiskRow.pinnedBy)) = true:=by kernel_rfl
theorem amD : ((Rows.fnExactJudgeDiskRow.veiled == (Tryz.f5.params.toList ++ Rows.fnExactJudgeDiskSpec.plain.varTypes Tryz.prog ++ Tryz.f5.resultTypes.toList).any (Tryz.prog.veiledRec ·))) = true:=by kernel_rfl
theorem amE : (Rows.fnExactJudgeDiskRow.veiledFits Tryz.prog Tryz.f5.params.toList (Tryz.f5.params.toList ++ Rows.fnExactJudgeDiskSpec.plain.varTypes Tryz.prog ++ Tryz.f5.resultTypes.toList)) = true:=by kernel_rfl
set_option maxRecDepth 100000 in
theorem jf : joinedFacts Tryz.prog 5 Tryz.f5 Rows.fnExactJudgeDiskSpec Rows.fnExactJudgeDiskRow = true:=by
 unfold joinedFacts
 exact (jnn (jnn (jnn (jnn (jnn (jnn (jnn (jnn (jnn (jnn (jnn (jnn (jnn (jnn (jnn (jnn (jnn (jnn (jnn (jnn (jnn (jnn (jnn (jnn (jnn (jnn (jnn (jnn (jnn (jnn (jnn jf0 jf1) jf2) jf3) jf4) jf5) jf6) jf7) jf8) jf9) amg) amh) ami) amj) amk) aml) amm) amn) amo) amq) ams) amt) amu) amv) amw) amx) amy) amz) amA) amB) amD) amE)
theorem jcw : (Rows.fnExactJudgeDiskRow).wfByText (OpenSpec.ofChange Rows.fnExactJudgeDiskSpec) = true:=by kernel_rfl
theorem jcm : Tryz.pinned.checked.prog.mainIs = some ((true,"03c353e79602dd77614ffa24a260a12627f067e2c3dba3848aea5a06046e3dd1").1,(true,"03c353e79602dd77614ffa24a260a12627f067e2c3dba3848aea5a06046e3dd1").2.toList):=by kernel_rfl
theorem jcl : true = Tryz.pinned.checked.prog.looks []:=by kernel_rfl
theorem jcs : ([34].all fun u=>!Tryz.prog.wantsStandIn u) = true:=by kernel_rfl
theorem jcg : false = (Rows.fnExactJudgeDiskRow).goesBy Tryz.pinned.checked.prog:=by kernel_rfl
theorem jcf : Tryz.prog.funcNamed "loop.example/g00239/laws.FnExactJudgeDisk" = some 5:=by kernel_rfl
end Go.Proofs.YtacflkabkpeinaaGreatDoor.al3
