/- Closed facts of the program and the row; no conditions. -/
import Derived.Test.YtkpkgfollnfhcaaGreatDoorTie
import Derived.Test.YtkpkgfollnfhcaaGreatDoorCards
import Derived.Test.YtkpkgfollnfhcaaGreatDoorChecked
import Derived.WalkKit
import Derived.ProofKit
import Derived.OpenShut
import Derived.Handy
import Derived.Lay
import Derived.ChangeOld
import Derived.SizedLaws
import Derived.SevenTiedAt
set_option linter.unusedSectionVars false
set_option linter.unusedVariables false
set_option linter.unusedSimpArgs false
namespace Go.Proofs.YtkpkgfollnfhcaaGreatDoor.YK
open Go.ChangeShapes Go.WideShapes Go.ChangeAt Go.RowKit
theorem YJ {a b : Bool} (h : a = true) (k : b = true) : (a && b) = true:=by rw [h,k]; rfl
theorem YV : (Rows.fnExactBanishRow.wf (OpenSpec.ofChange Rows.fnExactBanishSpec)) = true:=by kernel_rfl
theorem YW : (laidOutB Tryz.prog) = true:=by kernel_rfl
theorem Y7 : (mapsRowed Tryz.prog) = true:=by kernel_rfl
theorem Zj : (Tryz.f7.params.all (Tryz.prog.readableRec ·)) = true:=by kernel_rfl
theorem Zm : (namedTie Tryz.prog Rows.fnExactBanishRow.named Rows.fnExactBanishSpec.vars) = true:=by kernel_rfl
theorem Zn : ((Rows.fnExactBanishRow.stops == [])) = true:=by kernel_rfl
theorem Zo : ((Tryz.prog.stops == [])) = true:=by kernel_rfl
theorem Zp : ((Rows.fnExactBanishRow.knobs == [])) = true:=by kernel_rfl
theorem Zq : ((Tryz.prog.stopKnobs == [])) = true:=by kernel_rfl
theorem Zr : ((Rows.fnExactBanishRow.inPlace == Tryz.prog.inPlace 7)) = true:=by kernel_rfl
theorem YX : ((Rows.fnExactBanishRow.unfollowed == Tryz.prog.unfollowed 7)) = true:=by kernel_rfl
theorem YY : ((Rows.fnExactBanishRow.recurses == Tryz.prog.recurses 7)) = true:=by kernel_rfl
theorem YZ : ((Rows.fnExactBanishRow.named == Tryz.prog.varsNamed 7)) = true:=by kernel_rfl
theorem Y0 : ((Rows.fnExactBanishRow.maps == (Tryz.f7.params.toList ++ Rows.fnExactBanishSpec.plain.varTypes Tryz.prog).any (Tryz.prog.mapsRec ·))) = true:=by kernel_rfl
theorem Y1 : ((Rows.fnExactBanishRow.ifaces == (Tryz.f7.params.toList ++ Rows.fnExactBanishSpec.plain.varTypes Tryz.prog).any (Tryz.prog.ifacesRec ·))) = true:=by kernel_rfl
theorem Y2 : ((Rows.fnExactBanishRow.mapsOut == Tryz.prog.mapsAmong Tryz.f7.resultTypes.toList)) = true:=by kernel_rfl
theorem Y3 : ((Rows.fnExactBanishRow.loops == (Tryz.f7.params.toList ++ Rows.fnExactBanishSpec.plain.varTypes Tryz.prog).any (Tryz.prog.loopsFrom ·))) = true:=by kernel_rfl
theorem Y4 : ((Rows.fnExactBanishRow.wideKeys == (Tryz.f7.params.toList ++ Rows.fnExactBanishSpec.plain.varTypes Tryz.prog ++ Tryz.f7.resultTypes.toList).any (Tryz.prog.wideKeysFrom ·))) = true:=by kernel_rfl
theorem Y5 : (Rows.fnExactBanishSpec.vars.all (Tryz.prog.varReadable ·)) = true:=by kernel_rfl
theorem Y6 : (Tryz.f7.resultTypes.all (fun t=>Tryz.prog.readableRec t && decide (t < Tryz.prog.types.size))) = true:=by kernel_rfl
theorem Y8 : ((Rows.fnExactBanishRow.ifacesOut == Tryz.f7.resultTypes.toList.any (Tryz.prog.ifacesRec ·))) = true:=by kernel_rfl
theorem Y9 : ((Rows.fnExactBanishRow.loopsOut == Tryz.f7.resultTypes.toList.any (Tryz.prog.loopsFrom ·))) = true:=by kernel_rfl
theorem Za : ((Rows.fnExactBanishRow.plainKeys == Tryz.prog.plainKeys)) = true:=by kernel_rfl
theorem Zb : (Rows.fnExactBanishRow.shortTexts.isNone) = true:=by kernel_rfl
theorem Zc : (Tryz.prog.stopsHeard) = true:=by kernel_rfl
theorem Zd : (Tryz.prog.mayEnter) = true:=by kernel_rfl
theorem Ze : ((Rows.fnExactBanishRow.lifted == Tryz.prog.liftsFinal)) = true:=by kernel_rfl
theorem Zg : ((Tryz.prog.make == some Rows.fnExactBanishRow.make)) = true:=by kernel_rfl
theorem Zh : ((Rows.fnExactBanishRow.kinds == (if Rows.fnExactBanishRow.domain.isEmpty then [] else Tryz.f7.params.toList.map fun t=>match Tryz.prog.underlying t with | some (.int k)=>some k | _=>none))) = true:=by kernel_rfl
theorem Zi : ((Rows.fnExactBanishRow.pinned == Rows.fnExactBanishRow.pinnedBy)) = true:=by kernel_rfl
theorem Zk : ((Rows.fnExactBanishRow.veiled == (Tryz.f7.params.toList ++ Rows.fnExactBanishSpec.plain.varTypes Tryz.prog ++ Tryz.f7.resultTypes.toList).any (Tryz.prog.veiledRec ·))) = true:=by kernel_rfl
theorem Zl : (Rows.fnExactBanishRow.veiledFits Tryz.prog Tryz.f7.params.toList (Tryz.f7.params.toList ++ Rows.fnExactBanishSpec.plain.varTypes Tryz.prog ++ Tryz.f7.resultTypes.toList)) = true:=by kernel_rfl
set_option maxRecDepth 100000 in
theorem jf : joinedFacts Tryz.prog 7 Tryz.f7 Rows.fnExactBanishSpec Rows.fnExactBanishRow = true:=by
 unfold joinedFacts
 exact (YJ (YJ (YJ (YJ (YJ (YJ (YJ (YJ (YJ (YJ (YJ (YJ (YJ (YJ (YJ (YJ (YJ (YJ (YJ (YJ (YJ (YJ (YJ (YJ (YJ (YJ (YJ (YJ (YJ (YJ (YJ YV YW) Y7) Zj) Zm) Zn) Zo) Zp) Zq) Zr) YX) YY) YZ) Y0) Y1) Y2) Y3) Y4) Y5) Y6) Y8) Y9) Za) Zb) Zc) Zd) Ze) Zg) Zh) Zi) Zk) Zl)
theorem YU : (Rows.fnExactBanishRow).wfByText (OpenSpec.ofChange Rows.fnExactBanishSpec) = true:=by kernel_rfl
theorem YS : Tryz.pinned.checked.prog.mainIs = some ((true,"12f7ecd7b3c2f0a2712a0988d2c876b9d267aa8cccabd8e156775ce65b2298da").1,(true,"12f7ecd7b3c2f0a2712a0988d2c876b9d267aa8cccabd8e156775ce65b2298da").2.toList):=by kernel_rfl
theorem YR : true = Tryz.pinned.checked.prog.looks []:=by kernel_rfl
theorem YT : ([29,79].all fun u=>!Tryz.prog.wantsStandIn u) = true:=by kernel_rfl
theorem YQ : false = (Rows.fnExactBanishRow).goesBy Tryz.pinned.checked.prog:=by kernel_rfl
theorem YP : Tryz.prog.funcNamed "loop.example/g00239/laws.FnExactBanish" = some 7:=by kernel_rfl
end Go.Proofs.YtkpkgfollnfhcaaGreatDoor.YK
