/- Closed facts of the program and the row; no conditions. -/
import Derived.Test.YtkpkgfollnfhcaaGreatDoorTie
import Derived.Test.YtkpkgfollnfhcaaGreatDoorCards
import Derived.Test.YtkpkgfollnfhcaaGreatDoorChecked
import Derived.WalkKit
import Derived.ProofKit
import Derived.OpenShut
import Derived.Handy
import Derived.Lay
import Derived.ChangeOld
import Derived.SizedLaws
import Derived.SevenTiedAt
set_option linter.unusedSectionVars false
set_option linter.unusedVariables false
set_option linter.unusedSimpArgs false
namespace Go.Proofs.YtkpkgfollnfhcaaGreatDoor.Xn
open Go.ChangeShapes Go.WideShapes Go.ChangeAt Go.RowKit
theorem Xm {a b : Bool} (h : a = true) (k : b = true) : (a && b) = true:=by rw [h,k]; rfl
theorem Xy : (Rows.fnExactJudgeBansRow.wf (OpenSpec.ofChange Rows.fnExactJudgeBansSpec)) = true:=by kernel_rfl
theorem Xz : (laidOutB Tryz.prog) = true:=by kernel_rfl
theorem XK : (mapsRowed Tryz.prog) = true:=by kernel_rfl
theorem XW : (Tryz.f3.params.all (Tryz.prog.readableRec ·)) = true:=by kernel_rfl
theorem XZ : (namedTie Tryz.prog Rows.fnExactJudgeBansRow.named Rows.fnExactJudgeBansSpec.vars) = true:=by kernel_rfl
theorem X0 : ((Rows.fnExactJudgeBansRow.stops == [])) = true:=by kernel_rfl
theorem X1 : ((Tryz.prog.stops == [])) = true:=by kernel_rfl
theorem X2 : ((Rows.fnExactJudgeBansRow.knobs == [])) = true:=by kernel_rfl
theorem X3 : ((Tryz.prog.stopKnobs == [])) = true:=by kernel_rfl
theorem X4 : ((Rows.fnExactJudgeBansRow.inPlace == Tryz.prog.inPlace 3)) = true:=by kernel_rfl
theorem XA : ((Rows.fnExactJudgeBansRow.unfollowed == Tryz.prog.unfollowed 3)) = true:=by kernel_rfl
theorem XB : ((Rows.fnExactJudgeBansRow.recurses == Tryz.prog.recurses 3)) = true:=by kernel_rfl
theorem XC : ((Rows.fnExactJudgeBansRow.named == Tryz.prog.varsNamed 3)) = true:=by kernel_rfl
theorem XD : ((Rows.fnExactJudgeBansRow.maps == (Tryz.f3.params.toList ++ Rows.fnExactJudgeBansSpec.plain.varTypes Tryz.prog).any (Tryz.prog.mapsRec ·))) = true:=by kernel_rfl
theorem XE : ((Rows.fnExactJudgeBansRow.ifaces == (Tryz.f3.params.toList ++ Rows.fnExactJudgeBansSpec.plain.varTypes Tryz.prog).any (Tryz.prog.ifacesRec ·))) = true:=by kernel_rfl
theorem XF : ((Rows.fnExactJudgeBansRow.mapsOut == Tryz.prog.mapsAmong Tryz.f3.resultTypes.toList)) = true:=by kernel_rfl
theorem XG : ((Rows.fnExactJudgeBansRow.loops == (Tryz.f3.params.toList ++ Rows.fnExactJudgeBansSpec.plain.varTypes Tryz.prog).any (Tryz.prog.loopsFrom ·))) = true:=by kernel_rfl
theorem XH : ((Rows.fnExactJudgeBansRow.wideKeys == (Tryz.f3.params.toList ++ Rows.fnExactJudgeBansSpec.plain.varTypes Tryz.prog ++ Tryz.f3.resultTypes.toList).any (Tryz.prog.wideKeysFrom ·))) = true:=by kernel_rfl
theorem XI : (Rows.fnExactJudgeBansSpec.vars.all (Tryz.prog.varReadable ·)) = true:=by kernel_rfl
theorem XJ : (Tryz.f3.resultTypes.all (fun t=>Tryz.prog.readableRec t && decide (t < Tryz.prog.types.size))) = true:=by kernel_rfl
theorem XL : ((Rows.fnExactJudgeBansRow.ifacesOut == Tryz.f3.resultTypes.toList.any (Tryz.prog.ifacesRec ·))) = true:=by kernel_rfl
theorem XM : ((Rows.fnExactJudgeBansRow.loopsOut == Tryz.f3.resultTypes.toList.any (Tryz.prog.loopsFrom ·))) = true:=by kernel_rfl
theorem XO : ((Rows.fnExactJudgeBansRow.plainKeys == Tryz.prog.plainKeys)) = true:=by kernel_rfl
theorem XP : (Rows.fnExactJudgeBansRow.shortTexts.isNone) = true:=by kernel_rfl
theorem XQ : (Tryz.prog.stopsHeard) = true:=by kernel_rfl
theorem XR : (Tryz.prog.mayEnter) = true:=by kernel_rfl
theorem XS : ((Rows.fnExactJudgeBansRow.lifted == Tryz.prog.liftsFinal)) = true:=by kernel_rfl
theorem XT : ((Tryz.prog.make == some Rows.fnExactJudgeBansRow.make)) = true:=by kernel_rfl
theorem XU : ((Rows.fnExactJudgeBansRow.kinds == (if Rows.fnExactJudgeBansRow.domain.isEmpty then [] else Tryz.f3.params.toList.map fun t=>match Tryz.prog.underlying t with | some (.int k)=>some k | _=>none))) = true:=by kernel_rfl
theorem XV : ((Rows.fnExactJudgeBansRow.pinned == Rows.fnExactJudgeBansRow.pinnedBy)) = true:=by kernel_rfl
theorem XX : ((Rows.fnExactJudgeBansRow.veiled == (Tryz.f3.params.toList ++ Rows.fnExactJudgeBansSpec.plain.varTypes Tryz.prog ++ Tryz.f3.resultTypes.toList).any (Tryz.prog.veiledRec ·))) = true:=by kernel_rfl
theorem XY : (Rows.fnExactJudgeBansRow.veiledFits Tryz.prog Tryz.f3.params.toList (Tryz.f3.params.toList ++ Rows.fnExactJudgeBansSpec.plain.varTypes Tryz.prog ++ Tryz.f3.resultTypes.toList)) = true:=by kernel_rfl
set_option maxRecDepth 100000 in
theorem jf : joinedFacts Tryz.prog 3 Tryz.f3 Rows.fnExactJudgeBansSpec Rows.fnExactJudgeBansRow = true:=by
 unfold joinedFacts
 exact (Xm (Xm (Xm (Xm (Xm (Xm (Xm (Xm (Xm (Xm (Xm (Xm (Xm (Xm (Xm (Xm (Xm (Xm (Xm (Xm (Xm (Xm (Xm (Xm (Xm (Xm (Xm (Xm (Xm (Xm (Xm Xy Xz) XK) XW) XZ) X0) X1) X2) X3) X4) XA) XB) XC) XD) XE) XF) XG) XH) XI) XJ) XL) XM) XO) XP) XQ) XR) XS) XT) XU) XV) XX) XY)
theorem Xx : (Rows.fnExactJudgeBansRow).wfByText (OpenSpec.ofChange Rows.fnExactJudgeBansSpec) = true:=by kernel_rfl
theorem Xv : Tryz.pinned.checked.prog.mainIs = some ((true,"12f7ecd7b3c2f0a2712a0988d2c876b9d267aa8cccabd8e156775ce65b2298da").1,(true,"12f7ecd7b3c2f0a2712a0988d2c876b9d267aa8cccabd8e156775ce65b2298da").2.toList):=by kernel_rfl
theorem Xu : true = Tryz.pinned.checked.prog.looks []:=by kernel_rfl
theorem Xw : ([34].all fun u=>!Tryz.prog.wantsStandIn u) = true:=by kernel_rfl
theorem Xt : false = (Rows.fnExactJudgeBansRow).goesBy Tryz.pinned.checked.prog:=by kernel_rfl
theorem Xs : Tryz.prog.funcNamed "loop.example/g00239/laws.FnExactJudgeBans" = some 3:=by kernel_rfl
end Go.Proofs.YtkpkgfollnfhcaaGreatDoor.Xn
