/- Closed facts of the program and the row; no conditions. -/
import Derived.Test.YtkpkgfollnfhcaaGreatDoorTie
import Derived.Test.YtkpkgfollnfhcaaGreatDoorCards
import Derived.Test.YtkpkgfollnfhcaaGreatDoorChecked
import Derived.WalkKit
import Derived.ProofKit
import Derived.OpenShut
import Derived.Handy
import Derived.Lay
import Derived.ChangeOld
import Derived.SizedLaws
import Derived.SevenTiedAt
set_option linter.unusedSectionVars false
set_option linter.unusedVariables false
set_option linter.unusedSimpArgs false
namespace Go.Proofs.YtkpkgfollnfhcaaGreatDoor.XR
open Go.ChangeShapes Go.WideShapes Go.ChangeAt Go.RowKit
theorem XQ {a b : Bool} (h : a = true) (k : b = true) : (a && b) = true:=by rw [h,k]; rfl
theorem X2 : (Rows.fnExactJudgeOnceRow.wf (OpenSpec.ofChange Rows.fnExactJudgeOnceSpec)) = true:=by kernel_rfl
theorem X3 : (laidOutB Tryz.prog) = true:=by kernel_rfl
theorem Ye : (mapsRowed Tryz.prog) = true:=by kernel_rfl
theorem Yp : (Tryz.f9.params.all (Tryz.prog.readableRec ·)) = true:=by kernel_rfl
theorem Ys : (namedTie Tryz.prog Rows.fnExactJudgeOnceRow.named Rows.fnExactJudgeOnceSpec.vars) = true:=by kernel_rfl
theorem Yt : ((Rows.fnExactJudgeOnceRow.stops == [])) = true:=by kernel_rfl
theorem Yu : ((Tryz.prog.stops == [])) = true:=by kernel_rfl
theorem Yv : ((Rows.fnExactJudgeOnceRow.knobs == [])) = true:=by kernel_rfl
theorem Yw : ((Tryz.prog.stopKnobs == [])) = true:=by kernel_rfl
theorem Yx : ((Rows.fnExactJudgeOnceRow.inPlace == Tryz.prog.inPlace 9)) = true:=by kernel_rfl
theorem X4 : ((Rows.fnExactJudgeOnceRow.unfollowed == Tryz.prog.unfollowed 9)) = true:=by kernel_rfl
theorem X5 : ((Rows.fnExactJudgeOnceRow.recurses == Tryz.prog.recurses 9)) = true:=by kernel_rfl
theorem X6 : ((Rows.fnExactJudgeOnceRow.named == Tryz.prog.varsNamed 9)) = true:=by kernel_rfl
theorem X7 : ((Rows.fnExactJudgeOnceRow.maps == (Tryz.f9.params.toList ++ Rows.fnExactJudgeOnceSpec.plain.varTypes Tryz.prog).any (Tryz.prog.mapsRec ·))) = true:=by kernel_rfl
theorem X8 : ((Rows.fnExactJudgeOnceRow.ifaces == (Tryz.f9.params.toList ++ Rows.fnExactJudgeOnceSpec.plain.varTypes Tryz.prog).any (Tryz.prog.ifacesRec ·))) = true:=by kernel_rfl
theorem X9 : ((Rows.fnExactJudgeOnceRow.mapsOut == Tryz.prog.mapsAmong Tryz.f9.resultTypes.toList)) = true:=by kernel_rfl
theorem Ya : ((Rows.fnExactJudgeOnceRow.loops == (Tryz.f9.params.toList ++ Rows.fnExactJudgeOnceSpec.plain.varTypes Tryz.prog).any (Tryz.prog.loopsFrom ·))) = true:=by kernel_rfl
theorem Yb : ((Rows.fnExactJudgeOnceRow.wideKeys == (Tryz.f9.params.toList ++ Rows.fnExactJudgeOnceSpec.plain.varTypes Tryz.prog ++ Tryz.f9.resultTypes.toList).any (Tryz.prog.wideKeysFrom ·))) = true:=by kernel_rfl
theorem Yc : (Rows.fnExactJudgeOnceSpec.vars.all (Tryz.prog.varReadable ·)) = true:=by kernel_rfl
theorem Yd : (Tryz.f9.resultTypes.all (fun t=>Tryz.prog.readableRec t && decide (t < Tryz.prog.types.size))) = true:=by kernel_rfl
theorem Yf : ((Rows.fnExactJudgeOnceRow.ifacesOut == Tryz.f9.resultTypes.toList.any (Tryz.prog.ifacesRec ·))) = true:=by kernel_rfl
theorem Yg : ((Rows.fnExactJudgeOnceRow.loopsOut == Tryz.f9.resultTypes.toList.any (Tryz.prog.loopsFrom ·))) = true:=by kernel_rfl
theorem Yh : ((Rows.fnExactJudgeOnceRow.plainKeys == Tryz.prog.plainKeys)) = true:=by kernel_rfl
theorem Yi : (Rows.fnExactJudgeOnceRow.shortTexts.isNone) = true:=by kernel_rfl
theorem Yj : (Tryz.prog.stopsHeard) = true:=by kernel_rfl
theorem Yk : (Tryz.prog.mayEnter) = true:=by kernel_rfl
theorem Yl : ((Rows.fnExactJudgeOnceRow.lifted == Tryz.prog.liftsFinal)) = true:=by kernel_rfl
theorem Ym : ((Tryz.prog.make == some Rows.fnExactJudgeOnceRow.make)) = true:=by kernel_rfl
theorem Yn : ((Rows.fnExactJudgeOnceRow.kinds == (if Rows.fnExactJudgeOnceRow.domain.isEmpty then [] else Tryz.f9.params.toList.map fun t=>match Tryz.prog.underlying t with | some (.int k)=>some k | _=>none))) = true:=by kernel_rfl
theorem Yo : ((Rows.fnExactJudgeOnceRow.pinned == Rows.fnExactJudgeOnceRow.pinnedBy)) = true:=by kernel_rfl
theorem Yq : ((Rows.fnExactJudgeOnceRow.veiled == (Tryz.f9.params.toList ++ Rows.fnExactJudgeOnceSpec.plain.varTypes Tryz.prog ++ Tryz.f9.resultTypes.toList).any (Tryz.prog.veiledRec ·))) = true:=by kernel_rfl
theorem Yr : (Rows.fnExactJudgeOnceRow.veiledFits Tryz.prog Tryz.f9.params.toList (Tryz.f9.params.toList ++ Rows.fnExactJudgeOnceSpec.plain.varTypes Tryz.prog ++ Tryz.f9.resultTypes.toList)) = true:=by kernel_rfl
set_option maxRecDepth 100000 in
theorem jf : joinedFacts Tryz.prog 9 Tryz.f9 Rows.fnExactJudgeOnceSpec Rows.fnExactJudgeOnceRow = true:=by
 unfold joinedFacts
 exact (XQ (XQ (XQ (XQ (XQ (XQ (XQ (XQ (XQ (XQ (XQ (XQ (XQ (XQ (XQ (XQ (XQ (XQ (XQ (XQ (XQ (XQ (XQ (XQ (XQ (XQ (XQ (XQ (XQ (XQ (XQ X2 X3) Ye) Yp) Ys) Yt) Yu) Yv) Yw) Yx) X4) X5) X6) X7) X8) X9) Ya) Yb) Yc) Yd) Yf) Yg) Yh) Yi) Yj) Yk) Yl) Ym) Yn) Yo) Yq) Yr)
theorem X1 : (Rows.fnExactJudgeOnceRow).wfByText (OpenSpec.ofChange Rows.fnExactJudgeOnceSpec) = true:=by kernel_rfl
theorem XZ : Tryz.pinned.checked.prog.mainIs = some ((true,"12f7ecd7b3c2f0a2712a0988d2c876b9d267aa8cccabd8e156775ce65b2298da").1,(true,"12f7ecd7b3c2f0a2712a0988d2c876b9d267aa8cccabd8e156775ce65b2298da").2.toList):=by kernel_rfl
theorem XY : true = Tryz.pinned.checked.prog.looks []:=by kernel_rfl
theorem X0 : ([34].all fun u=>!Tryz.prog.wantsStandIn u) = true:=by kernel_rfl
theorem XX : false = (Rows.fnExactJudgeOnceRow).goesBy Tryz.pinned.checked.prog:=by kernel_rfl
theorem XW : Tryz.prog.funcNamed "loop.example/g00239/laws.FnExactJudgeOnce" = some 9:=by kernel_rfl
end Go.Proofs.YtkpkgfollnfhcaaGreatDoor.XR
