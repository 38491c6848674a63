/- The statement FnExactJudgeHere of this seat's rows is proved; no conditions. -/
import Derived.Test.YtkpkgfollnfhcaaGreatDoorTie
import Derived.Test.YtkpkgfollnfhcaaGreatDoorCards
import Derived.Test.YtkpkgfollnfhcaaGreatDoorFact
import Derived.Test.YtkpkgfollnfhcaaGreatDoorTold
import Derived.Test.YtkpkgfollnfhcaaGreatDoorCona
import Derived.WalkKit
import Derived.ProofKit
import Derived.OpenShut
import Derived.Handy
import Derived.Lay
import Derived.ChangeOld
import Derived.SizedLaws
import Derived.SevenTiedAt
import Derived.Stop.LaidErr
import Derived.Shelf.Vars
set_option linter.unusedSectionVars false
set_option linter.unusedVariables false
set_option linter.unusedSimpArgs false
namespace Go.Proofs.YtkpkgfollnfhcaaGreatDoor.aax
open Go.ChangeShapes Go.WideShapes Go.ChangeAt Go.RowKit
theorem own : ownKnob Tryz.prog.godebug = none:=by kernel_rfl
theorem tys : Tryz.f4.params.toList.map (M.ni Tryz.prog) = [M.iK.agg M.TN].map some:=by kernel_rfl
theorem ac (W : World) (htab : Lib.TabIs Tryz.prog W "internal/strconv.uint64pow10" .u64 Lib.pow10Tab) (hmax : ∃ m,W.cell? ⟨1,0,none⟩ = some (.int .i64 m)) (Bl : ∃ te pe,W.var? Tryz.prog "strconv.ErrSyntax" = some #[.iface te pe]) (gv : ∃ te pe,W.var? Tryz.prog "strconv.ErrRange" = some #[.iface te pe]) : ∀ xs,M.oL [M.iK.agg M.TN] xs→@M.AC ⟨W⟩ Tryz.prog 4 xs fun r _=>r = .bool true:=by
 intro xs hx
 obtain ⟨x0,xs0,rfl,h0,hx0⟩:=M.Yb hx
 obtain ⟨a0,rfl,k0⟩:=M.Yd h0
 obtain rfl:=M.Yc hx0
 letI : M.Bs:=⟨W⟩
 obtain ⟨ps,he⟩:=M.Ze (a0) (k0)
 exact (M.YN (L:=M.LI) (T:=M.TT) (M.Xc htab hmax Bl gv) M.Xd _ _ _ he).mono fun r ps h=>h.1
theorem tab {W : World} (h : laidMetH Tryz.prog Rows.fnExactJudgeHereRow.laid W) : Lib.TabIs Tryz.prog W "internal/strconv.uint64pow10" .u64 Lib.pow10Tab:=by
 rw [MakeChecks.laidMetH_plain _ _ _ (by kernel_rfl)] at h
 obtain ⟨ps,h,_⟩:=h
 exact M.TO (g:=0) (t:=357) (e:=288) (n:=20) (by kernel_rfl) (by kernel_rfl) Tryz.underlying357 Tryz.underlying288 (by kernel_rfl) (by kernel_rfl) h (by unfold Rows.fnExactJudgeHereRow; exact List.mem_cons_of_mem _ (List.mem_cons_of_mem _ (List.mem_cons_self ..)))
theorem star : "*" ++ "errors.errorString" = "*errors.errorString":=by decide
theorem qL (u : TypeId) (h : Tryz.prog.typeName? 3 u = some "*errors.errorString") : u = 371 :=
 typeName_ptr_named (nm:= "errors.errorString") (by rw [star]; kernel_rfl) (by kernel_rfl) (by decide) u (by rw [star]; exact h)
theorem es {W : World} (h : laidMetH Tryz.prog Rows.fnExactJudgeHereRow.laid W) : ∃ te pe,W.var? Tryz.prog "strconv.ErrSyntax" = some #[.iface te pe]:=by
 rw [MakeChecks.laidMetH_plain _ _ _ (by kernel_rfl)] at h
 unfold Rows.fnExactJudgeHereRow at h
 obtain ⟨a,s,hv,-,-,-⟩:=laid_sentinel (laidMet.tail (laidMet.tail (laidMet.tail (laidMet.tail (laidMet.tail h))))) (show Tryz.prog.globalNamed "strconv.ErrSyntax" = some 2 by kernel_rfl) (show (Tryz.prog.globals[2]?).map (·.type) = some 314 by kernel_rfl) Tryz.underlying314 qL Tryz.underlying371 Tryz.underlying373 rfl rfl Tryz.underlying9 (by kernel_rfl) (by kernel_rfl)
 exact ⟨_,_,hv⟩
theorem er {W : World} (h : laidMetH Tryz.prog Rows.fnExactJudgeHereRow.laid W) : ∃ te pe,W.var? Tryz.prog "strconv.ErrRange" = some #[.iface te pe]:=by
 rw [MakeChecks.laidMetH_plain _ _ _ (by kernel_rfl)] at h
 unfold Rows.fnExactJudgeHereRow at h
 obtain ⟨a,s,hv,-,-,-⟩:=laid_sentinel (laidMet.tail (laidMet.tail (laidMet.tail (laidMet.tail h)))) (show Tryz.prog.globalNamed "strconv.ErrRange" = some 3 by kernel_rfl) (show (Tryz.prog.globals[3]?).map (·.type) = some 314 by kernel_rfl) Tryz.underlying314 qL Tryz.underlying371 Tryz.underlying373 rfl rfl Tryz.underlying9 (by kernel_rfl) (by kernel_rfl)
 exact ⟨_,_,hv⟩
theorem mx {W : World} (h : W.ShapedOpen Tryz.prog) : ∃ m,W.cell? ⟨1,0,none⟩ = some (.int .i64 m) :=
 Go.Proofs.cell_of_shapedOpen_int (zero:=#[.int .i64 0]) (t:=3) h (of_decide_eq_true (by kernel_rfl)) (by kernel_rfl) rfl (by kernel_rfl) (by kernel_rfl) Tryz.underlying3
set_option maxRecDepth 100000 in
theorem lifted (os : Os) (started : os.Started) (H : Type) (enc : TypeId×Value→H) :
  ReturnsInHanded {} Tryz.checked os 4 .any (fun w args=>(Rows.fnExactJudgeHereSpec.pre enc Tryz.prog Tryz.f4 Rows.fnExactJudgeHereRow.domain false w args∧laidMetH Tryz.prog Rows.fnExactJudgeHereRow.laid w)∧sizedMet enc Tryz.prog Tryz.f4 (OpenSpec.ofChange Rows.fnExactJudgeHereSpec) false w args)
   (Rows.fnExactJudgeHereSpec.post enc Tryz.prog Tryz.f4 false true false false):=by
 refine ZX (C:=Tryz.checked) (X:=fun w _=>laidMetH Tryz.prog Rows.fnExactJudgeHereRow.laid w) (fun _ _ _ hh h=>h.of_heap hh) own started (by kernel_rfl) Tryz.func4
  (ChangeSpec.witness_shaped (enc:=enc) (C:=Tryz.checked) (os:=os) (X:=fun w _=>laidMetH Tryz.prog Rows.fnExactJudgeHereRow.laid w) false (World.laidAll Tryz.prog os Rows.fnExactJudgeHereRow.laid) #[.agg #[.slice none 0 0,.slice none 0 0,.slice none 0 0,.slice none 0 0,.int .i64 0,.int .i64 0,.slice none 0 0,.int .i64 0,.slice none 0 0,.slice none 0 0]] 8 (World.laidAll_os _ _ _)
   (World.shaped_of_ZipB (by kernel_rfl) (by kernel_rfl)) (by kernel_rfl) (by kernel_rfl) (by kernel_rfl)
   (by rw [MakeChecks.laidMetH_plain _ _ _ (by kernel_rfl)]; exact laidMet_laidAll _ (by kernel_rfl) (by kernel_rfl))) ?_
 intro W base args ds gs before aaB hW abj abk hL hsh _
 have hW':=hW
 obtain ⟨p,q,hA0,hV,rfl,hfz,hnd⟩:=hW
 obtain ⟨rfl,rfl⟩:=trodVars_none hV
 have hval : ∀ (j : Nat) t v,Tryz.f4.params.toList[j]? = some t→args.toList[j]? = some v→Value.okWide Tryz.prog W .any base t v:=fun j t v h1 h2=>aaB j t v (by simpa using h1) (by simpa using h2)
 have h:=M.XE tys hval hA0 (ac W (tab hL) (mx hsh) (es hL) (er hL))
 rw [Array.toArray_toList] at h
 refine h.mono fun e W' ⟨he,bel⟩=>?_
 subst he
 have kB:=M.WT bel tys hA0
 obtain ⟨v0,vs0,d0,ds0,p0,q0,abi,rfl,rfl,t0,r0⟩:=trodAll_cons hA0
 obtain ⟨rfl,rfl,rfl⟩:=trodAll_nil r0
 exact ⟨_,rfl,_,_,_,[],_,[],hW',trodAll_mk1 (shut_bool Tryz.underlying4 _),kB,rfl,bel.frame _,fun h=>by cases h⟩
theorem over : Rows.fnExactJudgeHereRow.holds Tryz.pinned (OpenSpec.ofChange Rows.fnExactJudgeHereSpec) :=
 OpenClaim.holds_of_wide 4 Tryz.f4 rfl rfl rfl rfl rfl rfl rfl ⟨rfl,rfl,rfl,rfl,rfl⟩ rfl rfl rfl rfl rfl (by kernel_rfl) Tryz.func4 jf
  (of_decide_eq_true (by kernel_rfl)) (by unfold Func.isWrapper; first | (rw [if_pos (by decide +kernel)]; kernel_rfl) | (rw [if_neg (by decide +kernel)]; exact ⟨rfl,rfl⟩))
  (fun os started H enc _=>lifted os started H enc)
theorem card : Claim7.holds Tryz.pinned (.plain (OpenSpec.ofChange Rows.fnExactJudgeHereSpec)) Rows.fnExactJudgeHereCard :=
 Claim7.holds_tied_plain_at .later [] [.data,.data,.data,.data,.sentinel,.sentinel,.pinned] true (true,"12f7ecd7b3c2f0a2712a0988d2c876b9d267aa8cccabd8e156775ce65b2298da") true over (fun _ h=>by cases h) jcw (fun _ h=>by cases h) fnExactJudgeHere_row_tie rfl ⟨rfl,rfl⟩ jcm rfl
  (fun f fn hf hfn=>by
   obtain rfl : f = 4:=Option.some.inj (jcf.symm.trans hf) |>.symm
   obtain rfl : fn = Tryz.f4:=(Option.some.inj (Tryz.func4.symm.trans hfn)).symm
   exact ⟨jcl,fun j t ht=>by
    rw [Tryz.params4] at ht
    have hm : t∈[34]:=by simpa using Array.mem_of_getElem? ht
    exact (show Tryz.prog.wantsStandIn t = false by simpa using List.all_eq_true.1 jcs t hm)⟩)
  jcg
end Go.Proofs.YtkpkgfollnfhcaaGreatDoor.aax
namespace Go.Proofs.YtkpkgfollnfhcaaGreatDoor
theorem fnExactJudgeHere_holds : Rows.FnExactJudgeHereCardSaid:=aax.card
#print axioms fnExactJudgeHere_holds
end Go.Proofs.YtkpkgfollnfhcaaGreatDoor
