/- Closed facts of the program and the row; no conditions. -/
import Derived.Test.YtkpkgfollnfhcaaGreatDoorTie
import Derived.Test.YtkpkgfollnfhcaaGreatDoorCards
import Derived.Test.YtkpkgfollnfhcaaGreatDoorChecked
import Derived.WalkKit
import Derived.ProofKit
import Derived.OpenShut
import Derived.Handy
import Derived.Lay
import Derived.ChangeOld
import Derived.SizedLaws
import Derived.SevenTiedAt
set_option linter.unusedSectionVars false
set_option linter.unusedVariables false
set_option linter.unusedSimpArgs false
namespace Go.Proofs.YtkpkgfollnfhcaaGreatDoor.abP
open Go.ChangeShapes Go.WideShapes Go.ChangeAt Go.RowKit
theorem jnn {a b : Bool} (h : a = true) (k : b = true) : (a && b) = true:=by rw [h,k]; rfl
theorem jf0 : (Rows.fnExactDecideRow.wf (OpenSpec.ofChange Rows.fnExactDecideSpec)) = true:=by kernel_rfl
theorem jf1 : (laidOutB Tryz.prog) = true:=by kernel_rfl
theorem jf2 : (mapsRowed Tryz.prog) = true:=by kernel_rfl
theorem jf3 : (Tryz.f5.params.all (Tryz.prog.readableRec ·)) = true:=by kernel_rfl
theorem jf4 : (namedTie Tryz.prog Rows.fnExactDecideRow.named Rows.fnExactDecideSpec.vars) = true:=by kernel_rfl
theorem jf5 : ((Rows.fnExactDecideRow.stops == [])) = true:=by kernel_rfl
theorem jf6 : ((Tryz.prog.stops == [])) = true:=by kernel_rfl
theorem jf7 : ((Rows.fnExactDecideRow.knobs == [])) = true:=by kernel_rfl
theorem jf8 : ((Tryz.prog.stopKnobs == [])) = true:=by kernel_rfl
theorem jf9 : ((Rows.fnExactDecideRow.inPlace == Tryz.prog.inPlace 5)) = true:=by kernel_rfl
theorem ab2 : ((Rows.fnExactDecideRow.unfollowed == Tryz.prog.unfollowed 5)) = true:=by kernel_rfl
theorem ab3 : ((Rows.fnExactDecideRow.recurses == Tryz.prog.recurses 5)) = true:=by kernel_rfl
theorem ab4 : ((Rows.fnExactDecideRow.named == Tryz.prog.varsNamed 5)) = true:=by kernel_rfl
theorem ab5 : ((Rows.fnExactDecideRow.maps == (Tryz.f5.params.toList ++ Rows.fnExactDecideSpec.plain.varTypes Tryz.prog).any (Tryz.prog.mapsRec ·))) = true:=by kernel_rfl
theorem ab6 : ((Rows.fnExactDecideRow.ifaces == (Tryz.f5.params.toList ++ Rows.fnExactDecideSpec.plain.varTypes Tryz.prog).any (Tryz.prog.ifacesRec ·))) = true:=by kernel_rfl
theorem ab7 : ((Rows.fnExactDecideRow.mapsOut == Tryz.prog.mapsAmong Tryz.f5.resultTypes.toList)) = true:=by kernel_rfl
theorem ab8 : ((Rows.fnExactDecideRow.loops == (Tryz.f5.params.toList ++ Rows.fnExactDecideSpec.plain.varTypes Tryz.prog).any (Tryz.prog.loopsFrom ·))) = true:=by kernel_rfl
theorem ab9 : ((Rows.fnExactDecideRow.wideKeys == (Tryz.f5.params.toList ++ Rows.fnExactDecideSpec.plain.varTypes Tryz.prog ++ Tryz.f5.resultTypes.toList).any (Tryz.prog.wideKeysFrom ·))) = true:=by kernel_rfl
theorem acd : (Rows.fnExactDecideSpec.vars.all (Tryz.prog.varReadable ·)) = true:=by kernel_rfl
theorem ace : (Tryz.f5.resultTypes.all (fun t=>Tryz.prog.readableRec t && decide (t < Tryz.prog.types.size))) = true:=by kernel_rfl
theorem acg : ((Rows.fnExactDecideRow.ifacesOut == Tryz.f5.resultTypes.toList.any (Tryz.prog.ifacesRec ·))) = true:=by kernel_rfl
theorem ach : ((Rows.fnExactDecideRow.loopsOut == Tryz.f5.resultTypes.toList.any (Tryz.prog.loopsFrom ·))) = true:=by kernel_rfl
theorem aci : ((Rows.fnExactDecideRow.plainKeys == Tryz.prog.plainKeys)) = true:=by kernel_rfl
theorem acj : (Rows.fnExactDecideRow.shortTexts.isNone) = true:=by kernel_rfl
theorem ack : (Tryz.prog.stopsHeard) = true:=by kernel_rfl
theorem acm : (Tryz.prog.mayEnter) = true:=by kernel_rfl
theorem acn : ((Rows.fnExactDecideRow.lifted == Tryz.prog.liftsFinal)) = true:=by kernel_rfl
theorem aco : ((Tryz.prog.make == some Rows.fnExactDecideRow.make)) = true:=by kernel_rfl
theorem acp : ((Rows.fnExactDecideRow.kinds == (if Rows.fnExactDecideRow.domain.isEmpty then [] else Tryz.f5.params.toList.map fun t=>match Tryz.prog.underlying t with | some (.int k)=>some k | _=>none))) = true:=by kernel_rfl
theorem acq : ((Rows.fnExactDecideRow.pinned == Rows.fnExactDecideRow.pinnedBy)) = true:=by kernel_rfl
theorem acs : ((Rows.fnExactDecideRow.veiled == (Tryz.f5.params.toList ++ Rows.fnExactDecideSpec.plain.varTypes Tryz.prog ++ Tryz.f5.resultTypes.toList).any (Tryz.prog.veiledRec ·))) = true:=by kernel_rfl
theorem acu : (Rows.fnExactDecideRow.veiledFits Tryz.prog Tryz.f5.params.toList (Tryz.f5.params.toList ++ Rows.fnExactDecideSpec.plain.varTypes Tryz.prog ++ Tryz.f5.resultTypes.toList)) = true:=by kernel_rfl
set_option maxRecDepth 100000 in
theorem jf : joinedFacts Tryz.prog 5 Tryz.f5 Rows.fnExactDecideSpec Rows.fnExactDecideRow = true:=by
 unfold joinedFacts
 exact (jnn (jnn (jnn (jnn (jnn (jnn (jnn (jnn (jnn (jnn (jnn (jnn (jnn (jnn (jnn (jnn (jnn (jnn (jnn (jnn (jnn (jnn (jnn (jnn (jnn (jnn (jnn (jnn (jnn (jnn (jnn jf0 jf1) jf2) jf3) jf4) jf5) jf6) jf7) jf8) jf9) ab2) ab3) ab4) ab5) ab6) ab7) ab8) ab9) acd) ace) acg) ach) aci) acj) ack) acm) acn) aco) acp) acq) acs) acu)
theorem jcw : (Rows.fnExactDecideRow).wfByText (OpenSpec.ofChange Rows.fnExactDecideSpec) = true:=by kernel_rfl
theorem jcm : Tryz.pinned.checked.prog.mainIs = some ((true,"12f7ecd7b3c2f0a2712a0988d2c876b9d267aa8cccabd8e156775ce65b2298da").1,(true,"12f7ecd7b3c2f0a2712a0988d2c876b9d267aa8cccabd8e156775ce65b2298da").2.toList):=by kernel_rfl
theorem jcl : true = Tryz.pinned.checked.prog.looks []:=by kernel_rfl
theorem jcs : ([29,54,3].all fun u=>!Tryz.prog.wantsStandIn u) = true:=by kernel_rfl
theorem jcg : false = (Rows.fnExactDecideRow).goesBy Tryz.pinned.checked.prog:=by kernel_rfl
theorem jcf : Tryz.prog.funcNamed "loop.example/g00239/laws.FnExactDecide" = some 5:=by kernel_rfl
end Go.Proofs.YtkpkgfollnfhcaaGreatDoor.abP
