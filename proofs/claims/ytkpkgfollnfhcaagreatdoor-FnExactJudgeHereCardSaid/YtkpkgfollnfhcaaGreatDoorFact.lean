/- Closed facts of the program and the row; no conditions. -/
import Derived.Test.YtkpkgfollnfhcaaGreatDoorTie
import Derived.Test.YtkpkgfollnfhcaaGreatDoorCards
import Derived.Test.YtkpkgfollnfhcaaGreatDoorChecked
import Derived.WalkKit
import Derived.ProofKit
import Derived.OpenShut
import Derived.Handy
import Derived.Lay
import Derived.ChangeOld
import Derived.SizedLaws
import Derived.SevenTiedAt
set_option linter.unusedSectionVars false
set_option linter.unusedVariables false
set_option linter.unusedSimpArgs false
namespace Go.Proofs.YtkpkgfollnfhcaaGreatDoor.aax
open Go.ChangeShapes Go.WideShapes Go.ChangeAt Go.RowKit
theorem jnn {a b : Bool} (h : a = true) (k : b = true) : (a && b) = true:=by rw [h,k]; rfl
theorem jf0 : (Rows.fnExactJudgeHereRow.wf (OpenSpec.ofChange Rows.fnExactJudgeHereSpec)) = true:=by kernel_rfl
theorem jf1 : (laidOutB Tryz.prog) = true:=by kernel_rfl
theorem jf2 : (mapsRowed Tryz.prog) = true:=by kernel_rfl
theorem jf3 : (Tryz.f4.params.all (Tryz.prog.readableRec ·)) = true:=by kernel_rfl
theorem jf4 : (namedTie Tryz.prog Rows.fnExactJudgeHereRow.named Rows.fnExactJudgeHereSpec.vars) = true:=by kernel_rfl
theorem jf5 : ((Rows.fnExactJudgeHereRow.stops == [])) = true:=by kernel_rfl
theorem jf6 : ((Tryz.prog.stops == [])) = true:=by kernel_rfl
theorem jf7 : ((Rows.fnExactJudgeHereRow.knobs == [])) = true:=by kernel_rfl
theorem jf8 : ((Tryz.prog.stopKnobs == [])) = true:=by kernel_rfl
theorem jf9 : ((Rows.fnExactJudgeHereRow.inPlace == Tryz.prog.inPlace 4)) = true:=by kernel_rfl
theorem aaK : ((Rows.fnExactJudgeHereRow.unfollowed == Tryz.prog.unfollowed 4)) = true:=by kernel_rfl
theorem aaL : ((Rows.fnExactJudgeHereRow.recurses == Tryz.prog.recurses 4)) = true:=by kernel_rfl
theorem aaM : ((Rows.fnExactJudgeHereRow.named == Tryz.prog.varsNamed 4)) = true:=by kernel_rfl
theorem aaN : ((Rows.fnExactJudgeHereRow.maps == (Tryz.f4.params.toList ++ Rows.fnExactJudgeHereSpec.plain.varTypes Tryz.prog).any (Tryz.prog.mapsRec ·))) = true:=by kernel_rfl
theorem aaO : ((Rows.fnExactJudgeHereRow.ifaces == (Tryz.f4.params.toList ++ Rows.fnExactJudgeHereSpec.plain.varTypes Tryz.prog).any (Tryz.prog.ifacesRec ·))) = true:=by kernel_rfl
theorem aaP : ((Rows.fnExactJudgeHereRow.mapsOut == Tryz.prog.mapsAmong Tryz.f4.resultTypes.toList)) = true:=by kernel_rfl
theorem aaQ : ((Rows.fnExactJudgeHereRow.loops == (Tryz.f4.params.toList ++ Rows.fnExactJudgeHereSpec.plain.varTypes Tryz.prog).any (Tryz.prog.loopsFrom ·))) = true:=by kernel_rfl
theorem aaR : ((Rows.fnExactJudgeHereRow.wideKeys == (Tryz.f4.params.toList ++ Rows.fnExactJudgeHereSpec.plain.varTypes Tryz.prog ++ Tryz.f4.resultTypes.toList).any (Tryz.prog.wideKeysFrom ·))) = true:=by kernel_rfl
theorem aaS : (Rows.fnExactJudgeHereSpec.vars.all (Tryz.prog.varReadable ·)) = true:=by kernel_rfl
theorem aaT : (Tryz.f4.resultTypes.all (fun t=>Tryz.prog.readableRec t && decide (t < Tryz.prog.types.size))) = true:=by kernel_rfl
theorem aaV : ((Rows.fnExactJudgeHereRow.ifacesOut == Tryz.f4.resultTypes.toList.any (Tryz.prog.ifacesRec ·))) = true:=by kernel_rfl
theorem aaW : ((Rows.fnExactJudgeHereRow.loopsOut == Tryz.f4.resultTypes.toList.any (Tryz.prog.loopsFrom ·))) = true:=by kernel_rfl
theorem aaX : ((Rows.fnExactJudgeHereRow.plainKeys == Tryz.prog.plainKeys)) = true:=by kernel_rfl
theorem aaY : (Rows.fnExactJudgeHereRow.shortTexts.isNone) = true:=by kernel_rfl
theorem aaZ : (Tryz.prog.stopsHeard) = true:=by kernel_rfl
theorem aa0 : (Tryz.prog.mayEnter) = true:=by kernel_rfl
theorem aa1 : ((Rows.fnExactJudgeHereRow.lifted == Tryz.prog.liftsFinal)) = true:=by kernel_rfl
theorem aa2 : ((Tryz.prog.make == some Rows.fnExactJudgeHereRow.make)) = true:=by kernel_rfl
theorem aa3 : ((Rows.fnExactJudgeHereRow.kinds == (if Rows.fnExactJudgeHereRow.domain.isEmpty then [] else Tryz.f4.params.toList.map fun t=>match Tryz.prog.underlying t with | some (.int k)=>some k | _=>none))) = true:=by kernel_rfl
theorem aa4 : ((Rows.fnExactJudgeHereRow.pinned == Rows.fnExactJudgeHereRow.pinnedBy)) = true:=by kernel_rfl
theorem aa6 : ((Rows.fnExactJudgeHereRow.veiled == (Tryz.f4.params.toList ++ Rows.fnExactJudgeHereSpec.plain.varTypes Tryz.prog ++ Tryz.f4.resultTypes.toList).any (Tryz.prog.veiledRec ·))) = true:=by kernel_rfl
theorem aa7 : (Rows.fnExactJudgeHereRow.veiledFits Tryz.prog Tryz.f4.params.toList (Tryz.f4.params.toList ++ Rows.fnExactJudgeHereSpec.plain.varTypes Tryz.prog ++ Tryz.f4.resultTypes.toList)) = true:=by kernel_rfl
set_option maxRecDepth 100000 in
theorem jf : joinedFacts Tryz.prog 4 Tryz.f4 Rows.fnExactJudgeHereSpec Rows.fnExactJudgeHereRow = true:=by
 unfold joinedFacts
 exact (jnn (jnn (jnn (jnn (jnn (jnn (jnn (jnn (jnn (jnn (jnn (jnn (jnn (jnn (jnn (jnn (jnn (jnn (jnn (jnn (jnn (jnn (jnn (jnn (jnn (jnn (jnn (jnn (jnn (jnn (jnn jf0 jf1) jf2) jf3) jf4) jf5) jf6) jf7) jf8) jf9) aaK) aaL) aaM) aaN) aaO) aaP) aaQ) aaR) aaS) aaT) aaV) aaW) aaX) aaY) aaZ) aa0) aa1) aa2) aa3) aa4) aa6) aa7)
theorem jcw : (Rows.fnExactJudgeHereRow).wfByText (OpenSpec.ofChange Rows.fnExactJudgeHereSpec) = true:=by kernel_rfl
theorem jcm : Tryz.pinned.checked.prog.mainIs = some ((true,"12f7ecd7b3c2f0a2712a0988d2c876b9d267aa8cccabd8e156775ce65b2298da").1,(true,"12f7ecd7b3c2f0a2712a0988d2c876b9d267aa8cccabd8e156775ce65b2298da").2.toList):=by kernel_rfl
theorem jcl : true = Tryz.pinned.checked.prog.looks []:=by kernel_rfl
theorem jcs : ([34].all fun u=>!Tryz.prog.wantsStandIn u) = true:=by kernel_rfl
theorem jcg : false = (Rows.fnExactJudgeHereRow).goesBy Tryz.pinned.checked.prog:=by kernel_rfl
theorem jcf : Tryz.prog.funcNamed "loop.example/g00239/laws.FnExactJudgeHere" = some 4:=by kernel_rfl
end Go.Proofs.YtkpkgfollnfhcaaGreatDoor.aax
