/- Closed facts of the program and the row; no conditions. -/
import Derived.Test.YtkpkgfollnfhcaaGreatDoorTie
import Derived.Test.YtkpkgfollnfhcaaGreatDoorCards
import Derived.Test.YtkpkgfollnfhcaaGreatDoorChecked
import Derived.WalkKit
import Derived.ProofKit
import Derived.OpenShut
import Derived.Handy
import Derived.Lay
import Derived.ChangeOld
import Derived.SizedLaws
import Derived.SevenTiedAt
set_option linter.unusedSectionVars false
set_option linter.unusedVariables false
set_option linter.unusedSimpArgs false
namespace Go.Proofs.YtkpkgfollnfhcaaGreatDoor.Yn
open Go.ChangeShapes Go.WideShapes Go.ChangeAt Go.RowKit
theorem Ym {a b : Bool} (h : a = true) (k : b = true) : (a && b) = true:=by rw [h,k]; rfl
theorem Yy : (Rows.fnExactFindRow.wf (OpenSpec.ofChange Rows.fnExactFindSpec)) = true:=by kernel_rfl
theorem Yz : (laidOutB Tryz.prog) = true:=by kernel_rfl
theorem YK : (mapsRowed Tryz.prog) = true:=by kernel_rfl
theorem YV : (Tryz.f6.params.all (Tryz.prog.readableRec ·)) = true:=by kernel_rfl
theorem YY : (namedTie Tryz.prog Rows.fnExactFindRow.named Rows.fnExactFindSpec.vars) = true:=by kernel_rfl
theorem YZ : ((Rows.fnExactFindRow.stops == [])) = true:=by kernel_rfl
theorem Y0 : ((Tryz.prog.stops == [])) = true:=by kernel_rfl
theorem Y1 : ((Rows.fnExactFindRow.knobs == [])) = true:=by kernel_rfl
theorem Y2 : ((Tryz.prog.stopKnobs == [])) = true:=by kernel_rfl
theorem Y3 : ((Rows.fnExactFindRow.inPlace == Tryz.prog.inPlace 6)) = true:=by kernel_rfl
theorem YA : ((Rows.fnExactFindRow.unfollowed == Tryz.prog.unfollowed 6)) = true:=by kernel_rfl
theorem YB : ((Rows.fnExactFindRow.recurses == Tryz.prog.recurses 6)) = true:=by kernel_rfl
theorem YC : ((Rows.fnExactFindRow.named == Tryz.prog.varsNamed 6)) = true:=by kernel_rfl
theorem YD : ((Rows.fnExactFindRow.maps == (Tryz.f6.params.toList ++ Rows.fnExactFindSpec.plain.varTypes Tryz.prog).any (Tryz.prog.mapsRec ·))) = true:=by kernel_rfl
theorem YE : ((Rows.fnExactFindRow.ifaces == (Tryz.f6.params.toList ++ Rows.fnExactFindSpec.plain.varTypes Tryz.prog).any (Tryz.prog.ifacesRec ·))) = true:=by kernel_rfl
theorem YF : ((Rows.fnExactFindRow.mapsOut == Tryz.prog.mapsAmong Tryz.f6.resultTypes.toList)) = true:=by kernel_rfl
theorem YG : ((Rows.fnExactFindRow.loops == (Tryz.f6.params.toList ++ Rows.fnExactFindSpec.plain.varTypes Tryz.prog).any (Tryz.prog.loopsFrom ·))) = true:=by kernel_rfl
theorem YH : ((Rows.fnExactFindRow.wideKeys == (Tryz.f6.params.toList ++ Rows.fnExactFindSpec.plain.varTypes Tryz.prog ++ Tryz.f6.resultTypes.toList).any (Tryz.prog.wideKeysFrom ·))) = true:=by kernel_rfl
theorem YI : (Rows.fnExactFindSpec.vars.all (Tryz.prog.varReadable ·)) = true:=by kernel_rfl
theorem YJ : (Tryz.f6.resultTypes.all (fun t=>Tryz.prog.readableRec t && decide (t < Tryz.prog.types.size))) = true:=by kernel_rfl
theorem YL : ((Rows.fnExactFindRow.ifacesOut == Tryz.f6.resultTypes.toList.any (Tryz.prog.ifacesRec ·))) = true:=by kernel_rfl
theorem YM : ((Rows.fnExactFindRow.loopsOut == Tryz.f6.resultTypes.toList.any (Tryz.prog.loopsFrom ·))) = true:=by kernel_rfl
theorem YN : ((Rows.fnExactFindRow.plainKeys == Tryz.prog.plainKeys)) = true:=by kernel_rfl
theorem YO : (Rows.fnExactFindRow.shortTexts.isNone) = true:=by kernel_rfl
theorem YP : (Tryz.prog.stopsHeard) = true:=by kernel_rfl
theorem YQ : (Tryz.prog.mayEnter) = true:=by kernel_rfl
theorem YR : ((Rows.fnExactFindRow.lifted == Tryz.prog.liftsFinal)) = true:=by kernel_rfl
theorem YS : ((Tryz.prog.make == some Rows.fnExactFindRow.make)) = true:=by kernel_rfl
theorem YT : ((Rows.fnExactFindRow.kinds == (if Rows.fnExactFindRow.domain.isEmpty then [] else Tryz.f6.params.toList.map fun t=>match Tryz.prog.underlying t with | some (.int k)=>some k | _=>none))) = true:=by kernel_rfl
theorem YU : ((Rows.fnExactFindRow.pinned == Rows.fnExactFindRow.pinnedBy)) = true:=by kernel_rfl
theorem YW : ((Rows.fnExactFindRow.veiled == (Tryz.f6.params.toList ++ Rows.fnExactFindSpec.plain.varTypes Tryz.prog ++ Tryz.f6.resultTypes.toList).any (Tryz.prog.veiledRec ·))) = true:=by kernel_rfl
theorem YX : (Rows.fnExactFindRow.veiledFits Tryz.prog Tryz.f6.params.toList (Tryz.f6.params.toList ++ Rows.fnExactFindSpec.plain.varTypes Tryz.prog ++ Tryz.f6.resultTypes.toList)) = true:=by kernel_rfl
set_option maxRecDepth 100000 in
theorem jf : joinedFacts Tryz.prog 6 Tryz.f6 Rows.fnExactFindSpec Rows.fnExactFindRow = true:=by
 unfold joinedFacts
 exact (Ym (Ym (Ym (Ym (Ym (Ym (Ym (Ym (Ym (Ym (Ym (Ym (Ym (Ym (Ym (Ym (Ym (Ym (Ym (Ym (Ym (Ym (Ym (Ym (Ym (Ym (Ym (Ym (Ym (Ym (Ym Yy Yz) YK) YV) YY) YZ) Y0) Y1) Y2) Y3) YA) YB) YC) YD) YE) YF) YG) YH) YI) YJ) YL) YM) YN) YO) YP) YQ) YR) YS) YT) YU) YW) YX)
theorem Yx : (Rows.fnExactFindRow).wfByText (OpenSpec.ofChange Rows.fnExactFindSpec) = true:=by kernel_rfl
theorem Yv : Tryz.pinned.checked.prog.mainIs = some ((true,"12f7ecd7b3c2f0a2712a0988d2c876b9d267aa8cccabd8e156775ce65b2298da").1,(true,"12f7ecd7b3c2f0a2712a0988d2c876b9d267aa8cccabd8e156775ce65b2298da").2.toList):=by kernel_rfl
theorem Yu : true = Tryz.pinned.checked.prog.looks []:=by kernel_rfl
theorem Yw : ([29,54].all fun u=>!Tryz.prog.wantsStandIn u) = true:=by kernel_rfl
theorem Yt : false = (Rows.fnExactFindRow).goesBy Tryz.pinned.checked.prog:=by kernel_rfl
theorem Ys : Tryz.prog.funcNamed "loop.example/g00239/laws.FnExactFind" = some 6:=by kernel_rfl
end Go.Proofs.YtkpkgfollnfhcaaGreatDoor.Yn
