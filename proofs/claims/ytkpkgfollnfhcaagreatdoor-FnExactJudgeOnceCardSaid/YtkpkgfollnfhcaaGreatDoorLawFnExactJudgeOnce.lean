/- The statement FnExactJudgeOnce of this seat's rows is proved; no conditions. -/
import Derived.Test.YtkpkgfollnfhcaaGreatDoorTie
import Derived.Test.YtkpkgfollnfhcaaGreatDoorCards
import Derived.Test.YtkpkgfollnfhcaaGreatDoorFact
import Derived.Test.YtkpkgfollnfhcaaGreatDoorTold
import Derived.Test.YtkpkgfollnfhcaaGreatDoorCona
import Derived.WalkKit
import Derived.ProofKit
import Derived.OpenShut
import Derived.Handy
import Derived.Lay
import Derived.ChangeOld
import Derived.SizedLaws
import Derived.SevenTiedAt
import Derived.Stop.LaidErr
import Derived.Shelf.Vars
set_option linter.unusedSectionVars false
set_option linter.unusedVariables false
set_option linter.unusedSimpArgs false
namespace Go.Proofs.YtkpkgfollnfhcaaGreatDoor.XR
open Go.ChangeShapes Go.WideShapes Go.ChangeAt Go.RowKit
theorem own : ownKnob Tryz.prog.godebug = none:=by kernel_rfl
theorem tys : Tryz.f9.params.toList.map (M.mo Tryz.prog) = [M.iE.agg M.Rz].map some:=by kernel_rfl
theorem ac (W : World) (htab : Lib.TabIs Tryz.prog W "internal/strconv.uint64pow10" .u64 Lib.pow10Tab) (hmax : ∃ m,W.cell? ⟨1,0,none⟩ = some (.int .i64 m)) (zT : ∃ te pe,W.var? Tryz.prog "strconv.ErrSyntax" = some #[.iface te pe]) (gj : ∃ te pe,W.var? Tryz.prog "strconv.ErrRange" = some #[.iface te pe]) : ∀ xs,M.nV [M.iE.agg M.Rz] xs→@M.AC ⟨W⟩ Tryz.prog 9 xs fun r _=>r = .bool true:=by
 intro xs hx
 obtain ⟨x0,YE,rfl,h0,hx0⟩:=M.Vs hx
 obtain ⟨a0,rfl,k0⟩:=M.Vu h0
 obtain rfl:=M.Vt hx0
 letI : M.Bs:=⟨W⟩
 obtain ⟨ps,he⟩:=M.Ww (a0) (k0)
 exact (M.V4 (L:=M.LI) (T:=M.TT) (M.Uv htab hmax zT gj) M.Uw _ _ _ he).mono fun r ps h=>h.1
theorem Yy {W : World} (h : laidMetH Tryz.prog Rows.fnExactJudgeOnceRow.laid W) : Lib.TabIs Tryz.prog W "internal/strconv.uint64pow10" .u64 Lib.pow10Tab:=by
 rw [MakeChecks.laidMetH_plain _ _ _ (by kernel_rfl)] at h
 obtain ⟨ps,h,_⟩:=h
 exact M.RA (g:=0) (t:=357) (e:=288) (n:=20) (by kernel_rfl) (by kernel_rfl) Tryz.underlying357 Tryz.underlying288 (by kernel_rfl) (by kernel_rfl) h (by unfold Rows.fnExactJudgeOnceRow; exact List.mem_cons_of_mem _ (List.mem_cons_of_mem _ (List.mem_cons_self ..)))
theorem star : "*" ++ "errors.errorString" = "*errors.errorString":=by decide
theorem pT (u : TypeId) (h : Tryz.prog.typeName? 3 u = some "*errors.errorString") : u = 371 :=
 typeName_ptr_named (nm:= "errors.errorString") (by rw [star]; kernel_rfl) (by kernel_rfl) (by decide) u (by rw [star]; exact h)
theorem es {W : World} (h : laidMetH Tryz.prog Rows.fnExactJudgeOnceRow.laid W) : ∃ te pe,W.var? Tryz.prog "strconv.ErrSyntax" = some #[.iface te pe]:=by
 rw [MakeChecks.laidMetH_plain _ _ _ (by kernel_rfl)] at h
 unfold Rows.fnExactJudgeOnceRow at h
 obtain ⟨a,s,hv,-,-,-⟩:=laid_sentinel (laidMet.tail (laidMet.tail (laidMet.tail (laidMet.tail (laidMet.tail h))))) (show Tryz.prog.globalNamed "strconv.ErrSyntax" = some 2 by kernel_rfl) (show (Tryz.prog.globals[2]?).map (·.type) = some 314 by kernel_rfl) Tryz.underlying314 pT Tryz.underlying371 Tryz.underlying373 rfl rfl Tryz.underlying9 (by kernel_rfl) (by kernel_rfl)
 exact ⟨_,_,hv⟩
theorem er {W : World} (h : laidMetH Tryz.prog Rows.fnExactJudgeOnceRow.laid W) : ∃ te pe,W.var? Tryz.prog "strconv.ErrRange" = some #[.iface te pe]:=by
 rw [MakeChecks.laidMetH_plain _ _ _ (by kernel_rfl)] at h
 unfold Rows.fnExactJudgeOnceRow at h
 obtain ⟨a,s,hv,-,-,-⟩:=laid_sentinel (laidMet.tail (laidMet.tail (laidMet.tail (laidMet.tail h)))) (show Tryz.prog.globalNamed "strconv.ErrRange" = some 3 by kernel_rfl) (show (Tryz.prog.globals[3]?).map (·.type) = some 314 by kernel_rfl) Tryz.underlying314 pT Tryz.underlying371 Tryz.underlying373 rfl rfl Tryz.underlying9 (by kernel_rfl) (by kernel_rfl)
 exact ⟨_,_,hv⟩
theorem mx {W : World} (h : W.ShapedOpen Tryz.prog) : ∃ m,W.cell? ⟨1,0,none⟩ = some (.int .i64 m) :=
 Go.Proofs.cell_of_shapedOpen_int (zero:=#[.int .i64 0]) (t:=3) h (of_decide_eq_true (by kernel_rfl)) (by kernel_rfl) rfl (by kernel_rfl) (by kernel_rfl) Tryz.underlying3
set_option maxRecDepth 100000 in
theorem lifted (os : Os) (started : os.Started) (H : Type) (enc : TypeId×Value→H) :
  ReturnsInHanded {} Tryz.checked os 9 .any (fun w args=>(Rows.fnExactJudgeOnceSpec.pre enc Tryz.prog Tryz.f9 Rows.fnExactJudgeOnceRow.domain false w args∧laidMetH Tryz.prog Rows.fnExactJudgeOnceRow.laid w)∧sizedMet enc Tryz.prog Tryz.f9 (OpenSpec.ofChange Rows.fnExactJudgeOnceSpec) false w args)
   (Rows.fnExactJudgeOnceSpec.post enc Tryz.prog Tryz.f9 false true false false):=by
 refine Xi (C:=Tryz.checked) (X:=fun w _=>laidMetH Tryz.prog Rows.fnExactJudgeOnceRow.laid w) (fun _ _ _ hh h=>h.of_heap hh) own started (by kernel_rfl) Tryz.func9
  (ChangeSpec.witness_shaped (enc:=enc) (C:=Tryz.checked) (os:=os) (X:=fun w _=>laidMetH Tryz.prog Rows.fnExactJudgeOnceRow.laid w) false (World.laidAll Tryz.prog os Rows.fnExactJudgeOnceRow.laid) #[.agg #[.slice none 0 0,.slice none 0 0,.slice none 0 0,.slice none 0 0,.int .i64 0,.int .i64 0,.slice none 0 0,.int .i64 0,.slice none 0 0,.slice none 0 0]] 8 (World.laidAll_os _ _ _)
   (World.shaped_of_ZipB (by kernel_rfl) (by kernel_rfl)) (by kernel_rfl) (by kernel_rfl) (by kernel_rfl)
   (by rw [MakeChecks.laidMetH_plain _ _ _ (by kernel_rfl)]; exact laidMet_laidAll _ (by kernel_rfl) (by kernel_rfl))) ?_
 intro W base args ds gs before XV hW YB YC hL hsh _
 have XU:=hW
 obtain ⟨p,q,XS,hV,rfl,hfz,hnd⟩:=hW
 obtain ⟨rfl,rfl⟩:=trodVars_none hV
 have hval : ∀ (j : Nat) t v,Tryz.f9.params.toList[j]? = some t→args.toList[j]? = some v→Value.okWide Tryz.prog W .any base t v:=fun j t v h1 h2=>XV j t v (by simpa using h1) (by simpa using h2)
 have h:=M.UW tys hval XS (ac W (Yy hL) (mx hsh) (es hL) (er hL))
 rw [Array.toArray_toList] at h
 refine h.mono fun e W' ⟨he,XT⟩=>?_
 subst he
 have j6:=M.Uf XT tys XS
 obtain ⟨v0,YD,d0,Yz,p0,q0,YA,rfl,rfl,t0,r0⟩:=trodAll_cons XS
 obtain ⟨rfl,rfl,rfl⟩:=trodAll_nil r0
 exact ⟨_,rfl,_,_,_,[],_,[],XU,trodAll_mk1 (shut_bool Tryz.underlying4 _),j6,rfl,XT.frame _,fun h=>by cases h⟩
theorem over : Rows.fnExactJudgeOnceRow.holds Tryz.pinned (OpenSpec.ofChange Rows.fnExactJudgeOnceSpec) :=
 OpenClaim.holds_of_wide 9 Tryz.f9 rfl rfl rfl rfl rfl rfl rfl ⟨rfl,rfl,rfl,rfl,rfl⟩ rfl rfl rfl rfl rfl (by kernel_rfl) Tryz.func9 jf
  (of_decide_eq_true (by kernel_rfl)) (by unfold Func.isWrapper; first | (rw [if_pos (by decide +kernel)]; kernel_rfl) | (rw [if_neg (by decide +kernel)]; exact ⟨rfl,rfl⟩))
  (fun os started H enc _=>lifted os started H enc)
theorem card : Claim7.holds Tryz.pinned (.plain (OpenSpec.ofChange Rows.fnExactJudgeOnceSpec)) Rows.fnExactJudgeOnceCard :=
 Claim7.holds_tied_plain_at .later [] [.data,.data,.data,.data,.sentinel,.sentinel,.pinned] true (true,"12f7ecd7b3c2f0a2712a0988d2c876b9d267aa8cccabd8e156775ce65b2298da") true over (fun _ h=>by cases h) X1 (fun _ h=>by cases h) fnExactJudgeOnce_row_tie rfl ⟨rfl,rfl⟩ XZ rfl
  (fun f fn hf hfn=>by
   obtain rfl : f = 9:=Option.some.inj (XW.symm.trans hf) |>.symm
   obtain rfl : fn = Tryz.f9:=(Option.some.inj (Tryz.func9.symm.trans hfn)).symm
   exact ⟨XY,fun j t ht=>by
    rw [Tryz.params9] at ht
    have hm : t∈[34]:=by simpa using Array.mem_of_getElem? ht
    exact (show Tryz.prog.wantsStandIn t = false by simpa using List.all_eq_true.1 X0 t hm)⟩)
  XX
end Go.Proofs.YtkpkgfollnfhcaaGreatDoor.XR
namespace Go.Proofs.YtkpkgfollnfhcaaGreatDoor
theorem fnExactJudgeOnce_holds : Rows.FnExactJudgeOnceCardSaid:=XR.card
#print axioms fnExactJudgeOnce_holds
end Go.Proofs.YtkpkgfollnfhcaaGreatDoor
