/- Closed facts of the program and the row; no conditions. -/
import Derived.Test.YtkpkgfollnfhcaaGreatDoorTie
import Derived.Test.YtkpkgfollnfhcaaGreatDoorCards
import Derived.Test.YtkpkgfollnfhcaaGreatDoorChecked
import Derived.WalkKit
import Derived.ProofKit
import Derived.OpenShut
import Derived.Handy
import Derived.Lay
import Derived.ChangeOld
import Derived.SizedLaws
import Derived.SevenTiedAt
set_option linter.unusedSectionVars false
set_option linter.unusedVariables false
set_option linter.unusedSimpArgs false
namespace Go.Proofs.YtkpkgfollnfhcaaGreatDoor.afp
open Go.ChangeShapes Go.WideShapes Go.ChangeAt Go.RowKit
theorem jnn {a b : Bool} (h : a = true) (k : b = true) : (a && b) = true:=by rw [h,k]; rfl
theorem jf0 : (Rows.fnExactMountRow.wf (OpenSpec.ofChange Rows.fnExactMountSpec)) = true:=by kernel_rfl
theorem jf1 : (laidOutB Tryz.prog) = true:=by kernel_rfl
theorem jf2 : (mapsRowed Tryz.prog) = true:=by kernel_rfl
theorem jf3 : (Tryz.f10.params.all (Tryz.prog.readableRec ·)) = true:=by kernel_rfl
theorem jf4 : (namedTie Tryz.prog Rows.fnExactMountRow.named Rows.fnExactMountSpec.vars) = true:=by kernel_rfl
theorem jf5 : ((Rows.fnExactMountRow.stops == [])) = true:=by kernel_rfl
theorem jf6 : ((Tryz.prog.stops == [])) = true:=by kernel_rfl
theorem jf7 : ((Rows.fnExactMountRow.knobs == [])) = true:=by kernel_rfl
theorem jf8 : ((Tryz.prog.stopKnobs == [])) = true:=by kernel_rfl
theorem jf9 : ((Rows.fnExactMountRow.inPlace == Tryz.prog.inPlace 10)) = true:=by kernel_rfl
theorem afC : ((Rows.fnExactMountRow.unfollowed == Tryz.prog.unfollowed 10)) = true:=by kernel_rfl
theorem afD : ((Rows.fnExactMountRow.recurses == Tryz.prog.recurses 10)) = true:=by kernel_rfl
theorem afE : ((Rows.fnExactMountRow.named == Tryz.prog.varsNamed 10)) = true:=by kernel_rfl
theorem afF : ((Rows.fnExactMountRow.maps == (Tryz.f10.params.toList ++ Rows.fnExactMountSpec.plain.varTypes Tryz.prog).any (Tryz.prog.mapsRec ·))) = true:=by kernel_rfl
theorem afG : ((Rows.fnExactMountRow.ifaces == (Tryz.f10.params.toList ++ Rows.fnExactMountSpec.plain.varTypes Tryz.prog).any (Tryz.prog.ifacesRec ·))) = true:=by kernel_rfl
theorem afH : ((Rows.fnExactMountRow.mapsOut == Tryz.prog.mapsAmong Tryz.f10.resultTypes.toList)) = true:=by kernel_rfl
theorem afI : ((Rows.fnExactMountRow.loops == (Tryz.f10.params.toList ++ Rows.fnExactMountSpec.plain.varTypes Tryz.prog).any (Tryz.prog.loopsFrom ·))) = true:=by kernel_rfl
theorem afJ : ((Rows.fnExactMountRow.wideKeys == (Tryz.f10.params.toList ++ Rows.fnExactMountSpec.plain.varTypes Tryz.prog ++ Tryz.f10.resultTypes.toList).any (Tryz.prog.wideKeysFrom ·))) = true:=by kernel_rfl
theorem afK : (Rows.fnExactMountSpec.vars.all (Tryz.prog.varReadable ·)) = true:=by kernel_rfl
theorem afL : (Tryz.f10.resultTypes.all (fun t=>Tryz.prog.readableRec t && decide (t < Tryz.prog.types.size))) = true:=by kernel_rfl
theorem afN : ((Rows.fnExactMountRow.ifacesOut == Tryz.f10.resultTypes.toList.any (Tryz.prog.ifacesRec ·))) = true:=by kernel_rfl
theorem afO : ((Rows.fnExactMountRow.loopsOut == Tryz.f10.resultTypes.toList.any (Tryz.prog.loopsFrom ·))) = true:=by kernel_rfl
theorem afP : ((Rows.fnExactMountRow.plainKeys == Tryz.prog.plainKeys)) = true:=by kernel_rfl
theorem afQ : (Rows.fnExactMountRow.shortTexts.isNone) = true:=by kernel_rfl
theorem afR : (Tryz.prog.stopsHeard) = true:=by kernel_rfl
theorem afS : (Tryz.prog.mayEnter) = true:=by kernel_rfl
theorem afT : ((Rows.fnExactMountRow.lifted == Tryz.prog.liftsFinal)) = true:=by kernel_rfl
theorem afU : ((Tryz.prog.make == some Rows.fnExactMountRow.make)) = true:=by kernel_rfl
theorem afV : ((Rows.fnExactMountRow.kinds == (if Rows.fnExactMountRow.domain.isEmpty then [] else Tryz.f10.params.toList.map fun t=>match Tryz.prog.underlying t with | some (.int k)=>some k | _=>none))) = true:=by kernel_rfl
theorem afW : ((Rows.fnExactMountRow.pinned == Rows.fnExactMountRow.pinnedBy)) = true:=by kernel_rfl
theorem afY : ((Rows.fnExactMountRow.veiled == (Tryz.f10.params.toList ++ Rows.fnExactMountSpec.plain.varTypes Tryz.prog ++ Tryz.f10.resultTypes.toList).any (Tryz.prog.veiledRec ·))) = true:=by kernel_rfl
theorem afZ : (Rows.fnExactMountRow.veiledFits Tryz.prog Tryz.f10.params.toList (Tryz.f10.params.toList ++ Rows.fnExactMountSpec.plain.varTypes Tryz.prog ++ Tryz.f10.resultTypes.toList)) = true:=by kernel_rfl
set_option maxRecDepth 100000 in
theorem jf : joinedFacts Tryz.prog 10 Tryz.f10 Rows.fnExactMountSpec Rows.fnExactMountRow = true:=by
 unfold joinedFacts
 exact (jnn (jnn (jnn (jnn (jnn (jnn (jnn (jnn (jnn (jnn (jnn (jnn (jnn (jnn (jnn (jnn (jnn (jnn (jnn (jnn (jnn (jnn (jnn (jnn (jnn (jnn (jnn (jnn (jnn (jnn (jnn jf0 jf1) jf2) jf3) jf4) jf5) jf6) jf7) jf8) jf9) afC) afD) afE) afF) afG) afH) afI) afJ) afK) afL) afN) afO) afP) afQ) afR) afS) afT) afU) afV) afW) afY) afZ)
theorem jcw : (Rows.fnExactMountRow).wfByText (OpenSpec.ofChange Rows.fnExactMountSpec) = true:=by kernel_rfl
theorem jcm : Tryz.pinned.checked.prog.mainIs = some ((true,"12f7ecd7b3c2f0a2712a0988d2c876b9d267aa8cccabd8e156775ce65b2298da").1,(true,"12f7ecd7b3c2f0a2712a0988d2c876b9d267aa8cccabd8e156775ce65b2298da").2.toList):=by kernel_rfl
theorem jcl : true = Tryz.pinned.checked.prog.looks []:=by kernel_rfl
theorem jcs : ([25].all fun u=>!Tryz.prog.wantsStandIn u) = true:=by kernel_rfl
theorem jcg : false = (Rows.fnExactMountRow).goesBy Tryz.pinned.checked.prog:=by kernel_rfl
theorem jcf : Tryz.prog.funcNamed "loop.example/g00239/laws.FnExactMount" = some 10:=by kernel_rfl
end Go.Proofs.YtkpkgfollnfhcaaGreatDoor.afp
