/- Closed facts of the program and the row; no conditions. -/
import Derived.Test.YtkpkgfollnfhcaaGreatDoorTie
import Derived.Test.YtkpkgfollnfhcaaGreatDoorCards
import Derived.Test.YtkpkgfollnfhcaaGreatDoorChecked
import Derived.WalkKit
import Derived.ProofKit
import Derived.OpenShut
import Derived.Handy
import Derived.Lay
import Derived.ChangeOld
import Derived.SizedLaws
import Derived.SevenTiedAt
set_option linter.unusedSectionVars false
set_option linter.unusedVariables false
set_option linter.unusedSimpArgs false
namespace Go.Proofs.YtkpkgfollnfhcaaGreatDoor.aar
open Go.ChangeShapes Go.WideShapes Go.ChangeAt Go.RowKit
theorem jnn {a b : Bool} (h : a = true) (k : b = true) : (a && b) = true:=by rw [h,k]; rfl
theorem jf0 : (Rows.fnExactKeepRow.wf (OpenSpec.ofChange Rows.fnExactKeepSpec)) = true:=by kernel_rfl
theorem jf1 : (laidOutB Tryz.prog) = true:=by kernel_rfl
theorem jf2 : (mapsRowed Tryz.prog) = true:=by kernel_rfl
theorem jf3 : (Tryz.f8.params.all (Tryz.prog.readableRec ·)) = true:=by kernel_rfl
theorem jf4 : (namedTie Tryz.prog Rows.fnExactKeepRow.named Rows.fnExactKeepSpec.vars) = true:=by kernel_rfl
theorem jf5 : ((Rows.fnExactKeepRow.stops == [])) = true:=by kernel_rfl
theorem jf6 : ((Tryz.prog.stops == [])) = true:=by kernel_rfl
theorem jf7 : ((Rows.fnExactKeepRow.knobs == [])) = true:=by kernel_rfl
theorem jf8 : ((Tryz.prog.stopKnobs == [])) = true:=by kernel_rfl
theorem jf9 : ((Rows.fnExactKeepRow.inPlace == Tryz.prog.inPlace 8)) = true:=by kernel_rfl
theorem aaE : ((Rows.fnExactKeepRow.unfollowed == Tryz.prog.unfollowed 8)) = true:=by kernel_rfl
theorem aaF : ((Rows.fnExactKeepRow.recurses == Tryz.prog.recurses 8)) = true:=by kernel_rfl
theorem aaG : ((Rows.fnExactKeepRow.named == Tryz.prog.varsNamed 8)) = true:=by kernel_rfl
theorem aaH : ((Rows.fnExactKeepRow.maps == (Tryz.f8.params.toList ++ Rows.fnExactKeepSpec.plain.varTypes Tryz.prog).any (Tryz.prog.mapsRec ·))) = true:=by kernel_rfl
theorem aaI : ((Rows.fnExactKeepRow.ifaces == (Tryz.f8.params.toList ++ Rows.fnExactKeepSpec.plain.varTypes Tryz.prog).any (Tryz.prog.ifacesRec ·))) = true:=by kernel_rfl
theorem aaJ : ((Rows.fnExactKeepRow.mapsOut == Tryz.prog.mapsAmong Tryz.f8.resultTypes.toList)) = true:=by kernel_rfl
theorem aaK : ((Rows.fnExactKeepRow.loops == (Tryz.f8.params.toList ++ Rows.fnExactKeepSpec.plain.varTypes Tryz.prog).any (Tryz.prog.loopsFrom ·))) = true:=by kernel_rfl
theorem aaL : ((Rows.fnExactKeepRow.wideKeys == (Tryz.f8.params.toList ++ Rows.fnExactKeepSpec.plain.varTypes Tryz.prog ++ Tryz.f8.resultTypes.toList).any (Tryz.prog.wideKeysFrom ·))) = true:=by kernel_rfl
theorem aaM : (Rows.fnExactKeepSpec.vars.all (Tryz.prog.varReadable ·)) = true:=by kernel_rfl
theorem aaN : (Tryz.f8.resultTypes.all (fun t=>Tryz.prog.readableRec t && decide (t < Tryz.prog.types.size))) = true:=by kernel_rfl
theorem aaP : ((Rows.fnExactKeepRow.ifacesOut == Tryz.f8.resultTypes.toList.any (Tryz.prog.ifacesRec ·))) = true:=by kernel_rfl
theorem aaQ : ((Rows.fnExactKeepRow.loopsOut == Tryz.f8.resultTypes.toList.any (Tryz.prog.loopsFrom ·))) = true:=by kernel_rfl
theorem aaR : ((Rows.fnExactKeepRow.plainKeys == Tryz.prog.plainKeys)) = true:=by kernel_rfl
theorem aaS : (Rows.fnExactKeepRow.shortTexts.isNone) = true:=by kernel_rfl
theorem aaT : (Tryz.prog.stopsHeard) = true:=by kernel_rfl
theorem aaU : (Tryz.prog.mayEnter) = true:=by kernel_rfl
theorem aaV : ((Rows.fnExactKeepRow.lifted == Tryz.prog.liftsFinal)) = true:=by kernel_rfl
theorem aaW : ((Tryz.prog.make == some Rows.fnExactKeepRow.make)) = true:=by kernel_rfl
theorem aaX : ((Rows.fnExactKeepRow.kinds == (if Rows.fnExactKeepRow.domain.isEmpty then [] else Tryz.f8.params.toList.map fun t=>match Tryz.prog.underlying t with | some (.int k)=>some k | _=>none))) = true:=by kernel_rfl
theorem aaY : ((Rows.fnExactKeepRow.pinned == Rows.fnExactKeepRow.pinnedBy)) = true:=by kernel_rfl
theorem aa0 : ((Rows.fnExactKeepRow.veiled == (Tryz.f8.params.toList ++ Rows.fnExactKeepSpec.plain.varTypes Tryz.prog ++ Tryz.f8.resultTypes.toList).any (Tryz.prog.veiledRec ·))) = true:=by kernel_rfl
theorem aa1 : (Rows.fnExactKeepRow.veiledFits Tryz.prog Tryz.f8.params.toList (Tryz.f8.params.toList ++ Rows.fnExactKeepSpec.plain.varTypes Tryz.prog ++ Tryz.f8.resultTypes.toList)) = true:=by kernel_rfl
set_option maxRecDepth 100000 in
theorem jf : joinedFacts Tryz.prog 8 Tryz.f8 Rows.fnExactKeepSpec Rows.fnExactKeepRow = true:=by
 unfold joinedFacts
 exact (jnn (jnn (jnn (jnn (jnn (jnn (jnn (jnn (jnn (jnn (jnn (jnn (jnn (jnn (jnn (jnn (jnn (jnn (jnn (jnn (jnn (jnn (jnn (jnn (jnn (jnn (jnn (jnn (jnn (jnn (jnn jf0 jf1) jf2) jf3) jf4) jf5) jf6) jf7) jf8) jf9) aaE) aaF) aaG) aaH) aaI) aaJ) aaK) aaL) aaM) aaN) aaP) aaQ) aaR) aaS) aaT) aaU) aaV) aaW) aaX) aaY) aa0) aa1)
theorem jcw : (Rows.fnExactKeepRow).wfByText (OpenSpec.ofChange Rows.fnExactKeepSpec) = true:=by kernel_rfl
theorem jcm : Tryz.pinned.checked.prog.mainIs = some ((true,"12f7ecd7b3c2f0a2712a0988d2c876b9d267aa8cccabd8e156775ce65b2298da").1,(true,"12f7ecd7b3c2f0a2712a0988d2c876b9d267aa8cccabd8e156775ce65b2298da").2.toList):=by kernel_rfl
theorem jcl : true = Tryz.pinned.checked.prog.looks []:=by kernel_rfl
theorem jcs : ([29,89].all fun u=>!Tryz.prog.wantsStandIn u) = true:=by kernel_rfl
theorem jcg : false = (Rows.fnExactKeepRow).goesBy Tryz.pinned.checked.prog:=by kernel_rfl
theorem jcf : Tryz.prog.funcNamed "loop.example/g00239/laws.FnExactKeep" = some 8:=by kernel_rfl
end Go.Proofs.YtkpkgfollnfhcaaGreatDoor.aar
