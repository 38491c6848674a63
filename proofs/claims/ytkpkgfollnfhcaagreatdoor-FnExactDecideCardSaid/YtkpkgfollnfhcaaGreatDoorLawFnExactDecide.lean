/- The statement FnExactDecide of this seat's rows is proved; no conditions. -/
import Derived.Test.YtkpkgfollnfhcaaGreatDoorTie
import Derived.Test.YtkpkgfollnfhcaaGreatDoorCards
import Derived.Test.YtkpkgfollnfhcaaGreatDoorFact
import Derived.Test.YtkpkgfollnfhcaaGreatDoorFind
import Derived.Test.YtkpkgfollnfhcaaGreatDoorTold
import Derived.Test.YtkpkgfollnfhcaaGreatDoorCona
import Derived.WalkKit
import Derived.ProofKit
import Derived.OpenShut
import Derived.Handy
import Derived.Lay
import Derived.ChangeOld
import Derived.SizedLaws
import Derived.SevenTiedAt
import Derived.Stop.LaidErr
import Derived.Shelf.Vars
set_option linter.unusedSectionVars false
set_option linter.unusedVariables false
set_option linter.unusedSimpArgs false
namespace Go.Proofs.YtkpkgfollnfhcaaGreatDoor.abP
open Go.ChangeShapes Go.WideShapes Go.ChangeAt Go.RowKit
theorem own : ownKnob Tryz.prog.godebug = none:=by kernel_rfl
theorem tys : Tryz.f5.params.toList.map (M.nS Tryz.prog) = [M.jr.agg M.U0,M.jr.agg M.UZ,M.jr.one (.int .i64)].map some:=by kernel_rfl
theorem ac (W : World) (htab : Lib.TabIs Tryz.prog W "internal/strconv.uint64pow10" .u64 Lib.pow10Tab) (hmax : ∃ m,W.cell? ⟨1,0,none⟩ = some (.int .i64 m)) (BM : ∃ te pe,W.var? Tryz.prog "strconv.ErrSyntax" = some #[.iface te pe]) (gS : ∃ te pe,W.var? Tryz.prog "strconv.ErrRange" = some #[.iface te pe]) : ∀ xs,M.pJ [M.jr.agg M.U0,M.jr.agg M.UZ,M.jr.one (.int .i64)] xs→@M.AC ⟨W⟩ Tryz.prog 5 xs fun r _=>r = .bool true:=by
 intro xs hx
 obtain ⟨x0,xs0,rfl,h0,hx0⟩:=M.Zg hx
 obtain ⟨a0,rfl,k0⟩:=M.Zj h0
 obtain ⟨x1,xs1,rfl,h1,hx1⟩:=M.Zg hx0
 obtain ⟨a1,rfl,k1⟩:=M.Zi h1
 obtain ⟨x2,xs2,rfl,h2,hx2⟩:=M.Zg hx1
 obtain ⟨a2,rfl,k2⟩:=M.j7 (M.Ze h2)
 obtain rfl:=M.Zh hx2
 letI : M.Bs:=⟨W⟩
 obtain ⟨ps,he⟩:=@M.aay M.ZU (a0) (k0) (a1) (k1) (a2) (k2)
 exact (M.NA (L:=M.vY) (T:=M.TT) (M.Yd (M.Yc htab hmax BM gS) M.Ye) M.Ye _ _ _ he).mono fun r ps h=>h.1
theorem tab {W : World} (h : laidMetH Tryz.prog Rows.fnExactDecideRow.laid W) : Lib.TabIs Tryz.prog W "internal/strconv.uint64pow10" .u64 Lib.pow10Tab:=by
 rw [MakeChecks.laidMetH_plain _ _ _ (by kernel_rfl)] at h
 obtain ⟨ps,h,_⟩:=h
 exact M.U4 (g:=0) (t:=357) (e:=288) (n:=20) (by kernel_rfl) (by kernel_rfl) Tryz.underlying357 Tryz.underlying288 (by kernel_rfl) (by kernel_rfl) h (by unfold Rows.fnExactDecideRow; exact List.mem_cons_of_mem _ (List.mem_cons_of_mem _ (List.mem_cons_self ..)))
theorem star : "*" ++ "errors.errorString" = "*errors.errorString":=by decide
theorem rB (u : TypeId) (h : Tryz.prog.typeName? 3 u = some "*errors.errorString") : u = 371 :=
 typeName_ptr_named (nm:= "errors.errorString") (by rw [star]; kernel_rfl) (by kernel_rfl) (by decide) u (by rw [star]; exact h)
theorem es {W : World} (h : laidMetH Tryz.prog Rows.fnExactDecideRow.laid W) : ∃ te pe,W.var? Tryz.prog "strconv.ErrSyntax" = some #[.iface te pe]:=by
 rw [MakeChecks.laidMetH_plain _ _ _ (by kernel_rfl)] at h
 unfold Rows.fnExactDecideRow at h
 obtain ⟨a,s,hv,-,-,-⟩:=laid_sentinel (laidMet.tail (laidMet.tail (laidMet.tail (laidMet.tail (laidMet.tail h))))) (show Tryz.prog.globalNamed "strconv.ErrSyntax" = some 2 by kernel_rfl) (show (Tryz.prog.globals[2]?).map (·.type) = some 314 by kernel_rfl) Tryz.underlying314 rB Tryz.underlying371 Tryz.underlying373 rfl rfl Tryz.underlying9 (by kernel_rfl) (by kernel_rfl)
 exact ⟨_,_,hv⟩
theorem er {W : World} (h : laidMetH Tryz.prog Rows.fnExactDecideRow.laid W) : ∃ te pe,W.var? Tryz.prog "strconv.ErrRange" = some #[.iface te pe]:=by
 rw [MakeChecks.laidMetH_plain _ _ _ (by kernel_rfl)] at h
 unfold Rows.fnExactDecideRow at h
 obtain ⟨a,s,hv,-,-,-⟩:=laid_sentinel (laidMet.tail (laidMet.tail (laidMet.tail (laidMet.tail h)))) (show Tryz.prog.globalNamed "strconv.ErrRange" = some 3 by kernel_rfl) (show (Tryz.prog.globals[3]?).map (·.type) = some 314 by kernel_rfl) Tryz.underlying314 rB Tryz.underlying371 Tryz.underlying373 rfl rfl Tryz.underlying9 (by kernel_rfl) (by kernel_rfl)
 exact ⟨_,_,hv⟩
theorem mx {W : World} (h : W.ShapedOpen Tryz.prog) : ∃ m,W.cell? ⟨1,0,none⟩ = some (.int .i64 m) :=
 Go.Proofs.cell_of_shapedOpen_int (zero:=#[.int .i64 0]) (t:=3) h (of_decide_eq_true (by kernel_rfl)) (by kernel_rfl) rfl (by kernel_rfl) (by kernel_rfl) Tryz.underlying3
set_option maxRecDepth 100000 in
theorem lifted (os : Os) (started : os.Started) (H : Type) (enc : TypeId×Value→H) :
  ReturnsInHanded {} Tryz.checked os 5 .any (fun w args=>(Rows.fnExactDecideSpec.pre enc Tryz.prog Tryz.f5 Rows.fnExactDecideRow.domain false w args∧laidMetH Tryz.prog Rows.fnExactDecideRow.laid w)∧sizedMet enc Tryz.prog Tryz.f5 (OpenSpec.ofChange Rows.fnExactDecideSpec) false w args)
   (Rows.fnExactDecideSpec.post enc Tryz.prog Tryz.f5 false true false false):=by
 refine abh (C:=Tryz.checked) (X:=fun w _=>laidMetH Tryz.prog Rows.fnExactDecideRow.laid w) (fun _ _ _ hh h=>h.of_heap hh) own started (by kernel_rfl) Tryz.func5
  (ChangeSpec.witness_shaped (enc:=enc) (C:=Tryz.checked) (os:=os) (X:=fun w _=>laidMetH Tryz.prog Rows.fnExactDecideRow.laid w) false (World.laidAll Tryz.prog os Rows.fnExactDecideRow.laid) #[.agg #[.slice none 0 0,.slice none 0 0,.slice none 0 0,.slice none 0 0,.int .i64 0,.int .i64 0],.agg #[.int .i64 0,.string ByteArray.empty,.slice none 0 0,.string ByteArray.empty],.int .i64 0] 8 (World.laidAll_os _ _ _)
   (World.shaped_of_ZipB (by kernel_rfl) (by kernel_rfl)) (by kernel_rfl) (by kernel_rfl) (by kernel_rfl)
   (by rw [MakeChecks.laidMetH_plain _ _ _ (by kernel_rfl)]; exact laidMet_laidAll _ (by kernel_rfl) (by kernel_rfl))) ?_
 intro W base args ds gs before abT hW acJ acK hL hsh _
 have hW':=hW
 obtain ⟨p,q,hA0,hV,rfl,hfz,hnd⟩:=hW
 obtain ⟨rfl,rfl⟩:=trodVars_none hV
 have hval : ∀ (j : Nat) t v,Tryz.f5.params.toList[j]? = some t→args.toList[j]? = some v→Value.okWide Tryz.prog W .any base t v:=fun j t v h1 h2=>abT j t v (by simpa using h1) (by simpa using h2)
 have h:=M.YG tys hval hA0 (ac W (tab hL) (mx hsh) (es hL) (er hL))
 rw [Array.toArray_toList] at h
 refine h.mono fun e W' ⟨he,bel⟩=>?_
 subst he
 have lg:=M.XU bel tys hA0
 obtain ⟨v0,vs0,d0,ds0,p0,q0,acG,rfl,rfl,t0,r0⟩:=trodAll_cons hA0
 obtain ⟨v1,vs1,d1,ds1,p1,q1,acH,rfl,rfl,t1,r1⟩:=trodAll_cons r0
 obtain ⟨v2,vs2,d2,ds2,p2,q2,acI,rfl,rfl,t2,r2⟩:=trodAll_cons r1
 obtain ⟨rfl,rfl,rfl⟩:=trodAll_nil r2
 exact ⟨_,rfl,_,_,_,[],_,[],hW',trodAll_mk1 (shut_bool Tryz.underlying4 _),lg,rfl,bel.frame _,fun h=>by cases h⟩
theorem over : Rows.fnExactDecideRow.holds Tryz.pinned (OpenSpec.ofChange Rows.fnExactDecideSpec) :=
 OpenClaim.holds_of_wide 5 Tryz.f5 rfl rfl rfl rfl rfl rfl rfl ⟨rfl,rfl,rfl,rfl,rfl⟩ rfl rfl rfl rfl rfl (by kernel_rfl) Tryz.func5 jf
  (of_decide_eq_true (by kernel_rfl)) (by unfold Func.isWrapper; first | (rw [if_pos (by decide +kernel)]; kernel_rfl) | (rw [if_neg (by decide +kernel)]; exact ⟨rfl,rfl⟩))
  (fun os started H enc _=>lifted os started H enc)
theorem card : Claim7.holds Tryz.pinned (.plain (OpenSpec.ofChange Rows.fnExactDecideSpec)) Rows.fnExactDecideCard :=
 Claim7.holds_tied_plain_at .later [] [.data,.data,.data,.data,.sentinel,.sentinel,.pinned] true (true,"12f7ecd7b3c2f0a2712a0988d2c876b9d267aa8cccabd8e156775ce65b2298da") true over (fun _ h=>by cases h) jcw (fun _ h=>by cases h) fnExactDecide_row_tie rfl ⟨rfl,rfl⟩ jcm rfl
  (fun f fn hf hfn=>by
   obtain rfl : f = 5:=Option.some.inj (jcf.symm.trans hf) |>.symm
   obtain rfl : fn = Tryz.f5:=(Option.some.inj (Tryz.func5.symm.trans hfn)).symm
   exact ⟨jcl,fun j t ht=>by
    rw [Tryz.params5] at ht
    have hm : t∈[29,54,3]:=by simpa using Array.mem_of_getElem? ht
    exact (show Tryz.prog.wantsStandIn t = false by simpa using List.all_eq_true.1 jcs t hm)⟩)
  jcg
end Go.Proofs.YtkpkgfollnfhcaaGreatDoor.abP
namespace Go.Proofs.YtkpkgfollnfhcaaGreatDoor
theorem fnExactDecide_holds : Rows.FnExactDecideCardSaid:=abP.card
#print axioms fnExactDecide_holds
end Go.Proofs.YtkpkgfollnfhcaaGreatDoor
