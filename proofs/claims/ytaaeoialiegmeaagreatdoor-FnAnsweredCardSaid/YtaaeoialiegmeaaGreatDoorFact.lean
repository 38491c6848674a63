/- Closed facts of the program and the row; no conditions. -/
import Derived.Test.YtaaeoialiegmeaaGreatDoorTie
import Derived.Test.YtaaeoialiegmeaaGreatDoorCards
import Derived.Test.YtaaeoialiegmeaaGreatDoorChecked
import Derived.WalkKit
import Derived.ProofKit
import Derived.OpenShut
import Derived.Handy
import Derived.Lay
import Derived.ChangeOld
import Derived.SizedLaws
import Derived.SevenTiedAt
set_option linter.defProp false
set_option linter.unusedSectionVars false
set_option linter.unusedVariables false
set_option linter.unusedSimpArgs false
namespace Go.Proofs.YtaaeoialiegmeaaGreatDoor.X2
open Go.ChangeShapes Go.WideShapes Go.ChangeAt Go.RowKit
theorem X1{a b:Bool}(h:a=true)(k:b=true):(a && b)=true:=by rw[h,k];rfl
theorem Yd:(Rows.fnAnsweredRow.wf (OpenSpec.ofChange Rows.fnAnsweredSpec))=true:=by kernel_rfl
theorem Ye:(laidOutB Tryz.prog)=true:=by kernel_rfl
theorem Yp:(mapsRowed Tryz.prog)=true:=by kernel_rfl
theorem YA:(Tryz.f3.params.all (Tryz.prog.readableRec ·))=true:=by kernel_rfl
theorem YD:(namedTie Tryz.prog Rows.fnAnsweredRow.named Rows.fnAnsweredSpec.vars)=true:=by kernel_rfl
theorem YE:((Rows.fnAnsweredRow.stops==[]))=true:=by kernel_rfl
theorem YF:((Tryz.prog.stops==[]))=true:=by kernel_rfl
theorem YG:((Rows.fnAnsweredRow.knobs==[]))=true:=by kernel_rfl
theorem YH:((Tryz.prog.stopKnobs==[]))=true:=by kernel_rfl
theorem YI:((Rows.fnAnsweredRow.inPlace==Tryz.prog.inPlace 3))=true:=by kernel_rfl
theorem Yf:((Rows.fnAnsweredRow.unfollowed==Tryz.prog.unfollowed 3))=true:=by kernel_rfl
theorem Yg:((Rows.fnAnsweredRow.recurses==Tryz.prog.recurses 3))=true:=by kernel_rfl
theorem Yh:((Rows.fnAnsweredRow.named==Tryz.prog.varsNamed 3))=true:=by kernel_rfl
theorem Yi:((Rows.fnAnsweredRow.maps==(Tryz.f3.params.toList++Rows.fnAnsweredSpec.plain.varTypes Tryz.prog).any (Tryz.prog.mapsRec ·)))=true:=by kernel_rfl
theorem Yj:((Rows.fnAnsweredRow.ifaces==(Tryz.f3.params.toList++Rows.fnAnsweredSpec.plain.varTypes Tryz.prog).any (Tryz.prog.ifacesRec ·)))=true:=by kernel_rfl
theorem Yk:((Rows.fnAnsweredRow.mapsOut==Tryz.prog.mapsAmong Tryz.f3.resultTypes.toList))=true:=by kernel_rfl
theorem Yl:((Rows.fnAnsweredRow.loops==(Tryz.f3.params.toList++Rows.fnAnsweredSpec.plain.varTypes Tryz.prog).any (Tryz.prog.loopsFrom ·)))=true:=by kernel_rfl
theorem Ym:((Rows.fnAnsweredRow.wideKeys==(Tryz.f3.params.toList++Rows.fnAnsweredSpec.plain.varTypes Tryz.prog++Tryz.f3.resultTypes.toList).any (Tryz.prog.wideKeysFrom ·)))=true:=by kernel_rfl
theorem Yn:(Rows.fnAnsweredSpec.vars.all (Tryz.prog.varReadable ·))=true:=by kernel_rfl
theorem Yo:(Tryz.f3.resultTypes.all (λt=>Tryz.prog.readableRec t && decide (t<Tryz.prog.types.size)))=true:=by kernel_rfl
theorem Yq:((Rows.fnAnsweredRow.ifacesOut==Tryz.f3.resultTypes.toList.any (Tryz.prog.ifacesRec ·)))=true:=by kernel_rfl
theorem Yr:((Rows.fnAnsweredRow.loopsOut==Tryz.f3.resultTypes.toList.any (Tryz.prog.loopsFrom ·)))=true:=by kernel_rfl
theorem Ys:((Rows.fnAnsweredRow.plainKeys==Tryz.prog.plainKeys))=true:=by kernel_rfl
theorem Yt:(Rows.fnAnsweredRow.shortTexts.isNone)=true:=by kernel_rfl
theorem Yu:(Tryz.prog.stopsHeard)=true:=by kernel_rfl
theorem Yv:(Tryz.prog.mayEnter)=true:=by kernel_rfl
theorem Yw:((Rows.fnAnsweredRow.lifted==Tryz.prog.liftsFinal))=true:=by kernel_rfl
theorem Yx:((Tryz.prog.make==some Rows.fnAnsweredRow.make))=true:=by kernel_rfl
theorem Yy:((Rows.fnAnsweredRow.kinds==(if Rows.fnAnsweredRow.domain.isEmpty then [] else Tryz.f3.params.toList.map λt=>match Tryz.prog.underlying t with|some (.int k)=>some k|_=>none)))=true:=by kernel_rfl
theorem Yz:((Rows.fnAnsweredRow.pinned==Rows.fnAnsweredRow.pinnedBy))=true:=by kernel_rfl
theorem YB:((Rows.fnAnsweredRow.veiled==(Tryz.f3.params.toList++Rows.fnAnsweredSpec.plain.varTypes Tryz.prog++Tryz.f3.resultTypes.toList).any (Tryz.prog.veiledRec ·)))=true:=by kernel_rfl
theorem YC:(Rows.fnAnsweredRow.veiledFits Tryz.prog Tryz.f3.params.toList (Tryz.f3.params.toList++Rows.fnAnsweredSpec.plain.varTypes Tryz.prog++Tryz.f3.resultTypes.toList))=true:=by kernel_rfl
set_option maxRecDepth 100000 in
theorem jf:joinedFacts Tryz.prog 3 Tryz.f3 Rows.fnAnsweredSpec Rows.fnAnsweredRow=true:=by unfold joinedFacts;exact(X1 (X1 (X1 (X1 (X1 (X1 (X1 (X1 (X1 (X1 (X1 (X1 (X1 (X1 (X1 (X1 (X1 (X1 (X1 (X1 (X1 (X1 (X1 (X1 (X1 (X1 (X1 (X1 (X1 (X1 (X1 Yd Ye) Yp) YA) YD) YE) YF) YG) YH) YI) Yf) Yg) Yh) Yi) Yj) Yk) Yl) Ym) Yn) Yo) Yq) Yr) Ys) Yt) Yu) Yv) Yw) Yx) Yy) Yz) YB) YC)
theorem Yc:(Rows.fnAnsweredRow).wfByText (OpenSpec.ofChange Rows.fnAnsweredSpec)=true:=by kernel_rfl
theorem Ya:Tryz.pinned.checked.prog.mainIs=some ((true,"db45d5b6050289824d2850edf075e3fd43151ee4e6dd343443b9549b3cb7efca").1,(true,"db45d5b6050289824d2850edf075e3fd43151ee4e6dd343443b9549b3cb7efca").2.toList):=by kernel_rfl
theorem X9:true=Tryz.pinned.checked.prog.looks []:=by kernel_rfl
theorem Yb:([22].all λu=> !Tryz.prog.wantsStandIn u)=true:=by kernel_rfl
theorem X8:false=(Rows.fnAnsweredRow).goesBy Tryz.pinned.checked.prog:=by kernel_rfl
theorem X7:Tryz.prog.funcNamed "loop.example/g00239/laws.FnAnswered" =some 3:=by kernel_rfl
end Go.Proofs.YtaaeoialiegmeaaGreatDoor.X2
