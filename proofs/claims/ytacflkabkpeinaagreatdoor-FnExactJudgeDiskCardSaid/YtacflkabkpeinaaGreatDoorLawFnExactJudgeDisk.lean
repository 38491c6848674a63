/- The statement FnExactJudgeDisk of this seat's rows is proved; no conditions. -/
import Derived.Test.YtacflkabkpeinaaGreatDoorTie
import Derived.Test.YtacflkabkpeinaaGreatDoorCards
import Derived.Test.YtacflkabkpeinaaGreatDoorFact
import Derived.Test.YtacflkabkpeinaaGreatDoorTold
import Derived.Test.YtacflkabkpeinaaGreatDoorConb
import Derived.WalkKit
import Derived.ProofKit
import Derived.OpenShut
import Derived.Handy
import Derived.Lay
import Derived.ChangeOld
import Derived.SizedLaws
import Derived.SevenTiedAt
import Derived.Stop.LaidErr
import Derived.Shelf.Vars
set_option linter.unusedSectionVars false
set_option linter.unusedVariables false
set_option linter.unusedSimpArgs false
namespace Go.Proofs.YtacflkabkpeinaaGreatDoor.al3
open Go.ChangeShapes Go.WideShapes Go.ChangeAt Go.RowKit
theorem own : ownKnob Tryz.prog.godebug = none:=by kernel_rfl
theorem tys : Tryz.f5.params.toList.map (M.qx Tryz.prog) = [M.kR.agg M.tCa].map some:=by kernel_rfl
theorem ac (W : World) (htab : Lib.TabIs Tryz.prog W "internal/strconv.uint64pow10" .u64 Lib.pow10Tab) (hmax : ∃ m,W.cell? ⟨0,0,none⟩ = some (.int .i64 m)) (GR : ∃ te pe,W.var? Tryz.prog "strconv.ErrSyntax" = some #[.iface te pe]) (js : ∃ te pe,W.var? Tryz.prog "strconv.ErrRange" = some #[.iface te pe]) : ∀ xs,M.sF [M.kR.agg M.tCa] xs→@M.AC ⟨W⟩ Tryz.prog 5 xs fun r _=>r = .bool true:=by
 intro xs hx
 obtain ⟨x0,xs0,rfl,h0,hx0⟩:=M.ajH hx
 obtain ⟨a0,rfl,k0⟩:=M.ajJ h0
 obtain rfl:=M.ajI hx0
 letI : M.Bs:=⟨W⟩
 obtain ⟨ps,he⟩:=M.akN (a0) (k0)
 exact (M.akj (L:=M.LI) (T:=M.TT) (M.aiI htab hmax GR js) M.aiJ _ _ _ he).mono fun r ps h=>h.1
theorem tab {W : World} (h : laidMetH Tryz.prog Rows.fnExactJudgeDiskRow.laid W) : Lib.TabIs Tryz.prog W "internal/strconv.uint64pow10" .u64 Lib.pow10Tab:=by
 rw [MakeChecks.laidMetH_plain _ _ _ (by kernel_rfl)] at h
 obtain ⟨ps,h,_⟩:=h
 exact M.aex (g:=5) (t:=440) (e:=295) (n:=20) (by kernel_rfl) (by kernel_rfl) Tryz.underlying440 Tryz.underlying295 (by kernel_rfl) (by kernel_rfl) h (by unfold Rows.fnExactJudgeDiskRow; exact List.mem_cons_of_mem _ (List.mem_cons_of_mem _ (List.mem_cons_self ..)))
theorem star : "*" ++ "errors.errorString" = "*errors.errorString":=by decide
theorem uU (u : TypeId) (h : Tryz.prog.typeName? 3 u = some "*errors.errorString") : u = 436 :=
 typeName_ptr_named (nm:= "errors.errorString") (by rw [star]; kernel_rfl) (by kernel_rfl) (by decide) u (by rw [star]; exact h)
theorem es {W : World} (h : laidMetH Tryz.prog Rows.fnExactJudgeDiskRow.laid W) : ∃ te pe,W.var? Tryz.prog "strconv.ErrSyntax" = some #[.iface te pe]:=by
 rw [MakeChecks.laidMetH_plain _ _ _ (by kernel_rfl)] at h
 unfold Rows.fnExactJudgeDiskRow at h
 obtain ⟨a,s,hv,-,-,-⟩:=laid_sentinel (laidMet.tail (laidMet.tail (laidMet.tail (laidMet.tail (laidMet.tail h))))) (show Tryz.prog.globalNamed "strconv.ErrSyntax" = some 3 by kernel_rfl) (show (Tryz.prog.globals[3]?).map (·.type) = some 138 by kernel_rfl) Tryz.underlying138 uU Tryz.underlying436 Tryz.underlying438 rfl rfl Tryz.underlying9 (by kernel_rfl) (by kernel_rfl)
 exact ⟨_,_,hv⟩
theorem er {W : World} (h : laidMetH Tryz.prog Rows.fnExactJudgeDiskRow.laid W) : ∃ te pe,W.var? Tryz.prog "strconv.ErrRange" = some #[.iface te pe]:=by
 rw [MakeChecks.laidMetH_plain _ _ _ (by kernel_rfl)] at h
 unfold Rows.fnExactJudgeDiskRow at h
 obtain ⟨a,s,hv,-,-,-⟩:=laid_sentinel (laidMet.tail (laidMet.tail (laidMet.tail (laidMet.tail h)))) (show Tryz.prog.globalNamed "strconv.ErrRange" = some 4 by kernel_rfl) (show (Tryz.prog.globals[4]?).map (·.type) = some 138 by kernel_rfl) Tryz.underlying138 uU Tryz.underlying436 Tryz.underlying438 rfl rfl Tryz.underlying9 (by kernel_rfl) (by kernel_rfl)
 exact ⟨_,_,hv⟩
theorem mx {W : World} (h : W.ShapedOpen Tryz.prog) : ∃ m,W.cell? ⟨0,0,none⟩ = some (.int .i64 m) :=
 Go.Proofs.cell_of_shapedOpen_int (zero:=#[.int .i64 0]) (t:=3) h (of_decide_eq_true (by kernel_rfl)) (by kernel_rfl) rfl (by kernel_rfl) (by kernel_rfl) Tryz.underlying3
set_option maxRecDepth 100000 in
theorem lifted (os : Os) (started : os.Started) (H : Type) (enc : TypeId×Value→H) :
  ReturnsInHanded {} Tryz.checked os 5 .any (fun w args=>(Rows.fnExactJudgeDiskSpec.pre enc Tryz.prog Tryz.f5 Rows.fnExactJudgeDiskRow.domain false w args∧laidMetH Tryz.prog Rows.fnExactJudgeDiskRow.laid w)∧sizedMet enc Tryz.prog Tryz.f5 (OpenSpec.ofChange Rows.fnExactJudgeDiskSpec) false w args)
   (Rows.fnExactJudgeDiskSpec.post enc Tryz.prog Tryz.f5 false true false false):=by
 refine alw (C:=Tryz.checked) (X:=fun w _=>laidMetH Tryz.prog Rows.fnExactJudgeDiskRow.laid w) (fun _ _ _ hh h=>h.of_heap hh) own started (by kernel_rfl) Tryz.func5
  (ChangeSpec.witness_shaped (enc:=enc) (C:=Tryz.checked) (os:=os) (X:=fun w _=>laidMetH Tryz.prog Rows.fnExactJudgeDiskRow.laid w) false (World.laidAll Tryz.prog os Rows.fnExactJudgeDiskRow.laid) #[.agg #[.slice none 0 0,.slice none 0 0,.slice none 0 0,.slice none 0 0,.int .i64 0,.int .i64 0,.slice none 0 0,.int .i64 0,.slice none 0 0,.slice none 0 0]] 8 (World.laidAll_os _ _ _)
   (World.shaped_of_ZipB (by kernel_rfl) (by kernel_rfl)) (by kernel_rfl) (by kernel_rfl) (by kernel_rfl)
   (by rw [MakeChecks.laidMetH_plain _ _ _ (by kernel_rfl)]; exact laidMet_laidAll _ (by kernel_rfl) (by kernel_rfl))) ?_
 intro W base args ds gs before al7 hW amO amP hL hsh _
 have hW':=hW
 obtain ⟨p,q,hA0,hV,rfl,hfz,hnd⟩:=hW
 obtain ⟨rfl,rfl⟩:=trodVars_none hV
 have hval : ∀ (j : Nat) t v,Tryz.f5.params.toList[j]? = some t→args.toList[j]? = some v→Value.okWide Tryz.prog W .any base t v:=fun j t v h1 h2=>al7 j t v (by simpa using h1) (by simpa using h2)
 have h:=M.ajb tys hval hA0 (ac W (tab hL) (mx hsh) (es hL) (er hL))
 rw [Array.toArray_toList] at h
 refine h.mono fun e W' ⟨he,bel⟩=>?_
 subst he
 have nr:=M.aia bel tys hA0
 obtain ⟨v0,vs0,d0,ds0,p0,q0,amN,rfl,rfl,t0,r0⟩:=trodAll_cons hA0
 obtain ⟨rfl,rfl,rfl⟩:=trodAll_nil r0
 exact ⟨_,rfl,_,_,_,[],_,[],hW',trodAll_mk1 (shut_bool Tryz.underlying4 _),nr,rfl,bel.frame _,fun h=>by cases h⟩
theorem over : Rows.fnExactJudgeDiskRow.holds Tryz.pinned (OpenSpec.ofChange Rows.fnExactJudgeDiskSpec) :=
 OpenClaim.holds_of_wide 5 Tryz.f5 rfl rfl rfl rfl rfl rfl rfl ⟨rfl,rfl,rfl,rfl,rfl⟩ rfl rfl rfl rfl rfl (by kernel_rfl) Tryz.func5 jf
  (of_decide_eq_true (by kernel_rfl)) (by unfold Func.isWrapper; first | (rw [if_pos (by decide +kernel)]; kernel_rfl) | (rw [if_neg (by decide +kernel)]; exact ⟨rfl,rfl⟩))
  (fun os started H enc _=>lifted os started H enc)
theorem card : Claim7.holds Tryz.pinned (.plain (OpenSpec.ofChange Rows.fnExactJudgeDiskSpec)) Rows.fnExactJudgeDiskCard :=
 Claim7.holds_tied_plain_at .later [] [.data,.data,.data,.data,.sentinel,.sentinel,.pinned] true (true,"03c353e79602dd77614ffa24a260a12627f067e2c3dba3848aea5a06046e3dd1") true over (fun _ h=>by cases h) jcw (fun _ h=>by cases h) fnExactJudgeDisk_row_tie rfl ⟨rfl,rfl⟩ jcm rfl
  (fun f fn hf hfn=>by
   obtain rfl : f = 5:=Option.some.inj (jcf.symm.trans hf) |>.symm
   obtain rfl : fn = Tryz.f5:=(Option.some.inj (Tryz.func5.symm.trans hfn)).symm
   exact ⟨jcl,fun j t ht=>by
    rw [Tryz.params5] at ht
    have hm : t∈[34]:=by simpa using Array.mem_of_getElem? ht
    exact (show Tryz.prog.wantsStandIn t = false by simpa using List.all_eq_true.1 jcs t hm)⟩)
  jcg
end Go.Proofs.YtacflkabkpeinaaGreatDoor.al3
namespace Go.Proofs.YtacflkabkpeinaaGreatDoor
theorem fnExactJudgeDisk_holds : Rows.FnExactJudgeDiskCardSaid:=al3.card
#print axioms fnExactJudgeDisk_holds
end Go.Proofs.YtacflkabkpeinaaGreatDoor
