/- The statement FnExactMount of this seat's rows is proved; no conditions. -/
import Derived.Test.YtkpkgfollnfhcaaGreatDoorTie
import Derived.Test.YtkpkgfollnfhcaaGreatDoorCards
import Derived.Test.YtkpkgfollnfhcaaGreatDoorFact
import Derived.Test.YtkpkgfollnfhcaaGreatDoorTold
import Derived.Test.YtkpkgfollnfhcaaGreatDoorConb
import Derived.WalkKit
import Derived.ProofKit
import Derived.OpenShut
import Derived.Handy
import Derived.Lay
import Derived.ChangeOld
import Derived.SizedLaws
import Derived.SevenTiedAt
import Derived.Stop.LaidErr
import Derived.Shelf.Vars
set_option linter.unusedSectionVars false
set_option linter.unusedVariables false
set_option linter.unusedSimpArgs false
namespace Go.Proofs.YtkpkgfollnfhcaaGreatDoor.afp
open Go.ChangeShapes Go.WideShapes Go.ChangeAt Go.RowKit
theorem own : ownKnob Tryz.prog.godebug = none:=by kernel_rfl
theorem tys : Tryz.f10.params.toList.map (M.pg Tryz.prog) = [M.kn.agg M.Yt].map some:=by kernel_rfl
theorem ac (W : World) (htab : Lib.TabIs Tryz.prog W "internal/strconv.uint64pow10" .u64 Lib.pow10Tab) (hmax : ∃ m,W.cell? ⟨1,0,none⟩ = some (.int .i64 m)) (Dy : ∃ te pe,W.var? Tryz.prog "strconv.ErrSyntax" = some #[.iface te pe]) (iN : ∃ te pe,W.var? Tryz.prog "strconv.ErrRange" = some #[.iface te pe]) : ∀ xs,M.qT [M.kn.agg M.Yt] xs→@M.AC ⟨W⟩ Tryz.prog 10 xs fun r _=>r = .bool true:=by
 intro xs hx
 obtain ⟨x0,xs0,rfl,h0,hx0⟩:=M.acM hx
 obtain ⟨a0,rfl,k0⟩:=M.acO h0
 obtain rfl:=M.acN hx0
 letI : M.Bs:=⟨W⟩
 obtain ⟨ps,he⟩:=M.aea (a0) (k0)
 exact (M.adu (L:=M.LI) (T:=M.TT) (M.abH htab hmax Dy iN) M.abJ _ _ _ he).mono fun r ps h=>h.1
theorem tab {W : World} (h : laidMetH Tryz.prog Rows.fnExactMountRow.laid W) : Lib.TabIs Tryz.prog W "internal/strconv.uint64pow10" .u64 Lib.pow10Tab:=by
 rw [MakeChecks.laidMetH_plain _ _ _ (by kernel_rfl)] at h
 obtain ⟨ps,h,_⟩:=h
 exact M.Yw (g:=0) (t:=357) (e:=288) (n:=20) (by kernel_rfl) (by kernel_rfl) Tryz.underlying357 Tryz.underlying288 (by kernel_rfl) (by kernel_rfl) h (by unfold Rows.fnExactMountRow; exact List.mem_cons_of_mem _ (List.mem_cons_of_mem _ (List.mem_cons_self ..)))
theorem star : "*" ++ "errors.errorString" = "*errors.errorString":=by decide
theorem sR (u : TypeId) (h : Tryz.prog.typeName? 3 u = some "*errors.errorString") : u = 371 :=
 typeName_ptr_named (nm:= "errors.errorString") (by rw [star]; kernel_rfl) (by kernel_rfl) (by decide) u (by rw [star]; exact h)
theorem es {W : World} (h : laidMetH Tryz.prog Rows.fnExactMountRow.laid W) : ∃ te pe,W.var? Tryz.prog "strconv.ErrSyntax" = some #[.iface te pe]:=by
 rw [MakeChecks.laidMetH_plain _ _ _ (by kernel_rfl)] at h
 unfold Rows.fnExactMountRow at h
 obtain ⟨a,s,hv,-,-,-⟩:=laid_sentinel (laidMet.tail (laidMet.tail (laidMet.tail (laidMet.tail (laidMet.tail h))))) (show Tryz.prog.globalNamed "strconv.ErrSyntax" = some 2 by kernel_rfl) (show (Tryz.prog.globals[2]?).map (·.type) = some 314 by kernel_rfl) Tryz.underlying314 sR Tryz.underlying371 Tryz.underlying373 rfl rfl Tryz.underlying9 (by kernel_rfl) (by kernel_rfl)
 exact ⟨_,_,hv⟩
theorem er {W : World} (h : laidMetH Tryz.prog Rows.fnExactMountRow.laid W) : ∃ te pe,W.var? Tryz.prog "strconv.ErrRange" = some #[.iface te pe]:=by
 rw [MakeChecks.laidMetH_plain _ _ _ (by kernel_rfl)] at h
 unfold Rows.fnExactMountRow at h
 obtain ⟨a,s,hv,-,-,-⟩:=laid_sentinel (laidMet.tail (laidMet.tail (laidMet.tail (laidMet.tail h)))) (show Tryz.prog.globalNamed "strconv.ErrRange" = some 3 by kernel_rfl) (show (Tryz.prog.globals[3]?).map (·.type) = some 314 by kernel_rfl) Tryz.underlying314 sR Tryz.underlying371 Tryz.underlying373 rfl rfl Tryz.underlying9 (by kernel_rfl) (by kernel_rfl)
 exact ⟨_,_,hv⟩
theorem mx {W : World} (h : W.ShapedOpen Tryz.prog) : ∃ m,W.cell? ⟨1,0,none⟩ = some (.int .i64 m) :=
 Go.Proofs.cell_of_shapedOpen_int (zero:=#[.int .i64 0]) (t:=3) h (of_decide_eq_true (by kernel_rfl)) (by kernel_rfl) rfl (by kernel_rfl) (by kernel_rfl) Tryz.underlying3
set_option maxRecDepth 100000 in
theorem lifted (os : Os) (started : os.Started) (H : Type) (enc : TypeId×Value→H) :
  ReturnsInHanded {} Tryz.checked os 10 .any (fun w args=>(Rows.fnExactMountSpec.pre enc Tryz.prog Tryz.f10 Rows.fnExactMountRow.domain false w args∧laidMetH Tryz.prog Rows.fnExactMountRow.laid w)∧sizedMet enc Tryz.prog Tryz.f10 (OpenSpec.ofChange Rows.fnExactMountSpec) false w args)
   (Rows.fnExactMountSpec.post enc Tryz.prog Tryz.f10 false true false false):=by
 refine aeS (C:=Tryz.checked) (X:=fun w _=>laidMetH Tryz.prog Rows.fnExactMountRow.laid w) (fun _ _ _ hh h=>h.of_heap hh) own started (by kernel_rfl) Tryz.func10
  (ChangeSpec.witness_shaped (enc:=enc) (C:=Tryz.checked) (os:=os) (X:=fun w _=>laidMetH Tryz.prog Rows.fnExactMountRow.laid w) false (World.laidAll Tryz.prog os Rows.fnExactMountRow.laid) #[.agg #[.slice none 0 0,.slice none 0 0]] 8 (World.laidAll_os _ _ _)
   (World.shaped_of_ZipB (by kernel_rfl) (by kernel_rfl)) (by kernel_rfl) (by kernel_rfl) (by kernel_rfl)
   (by rw [MakeChecks.laidMetH_plain _ _ _ (by kernel_rfl)]; exact laidMet_laidAll _ (by kernel_rfl) (by kernel_rfl))) ?_
 intro W base args ds gs before aft hW af9 aga hL hsh _
 have hW':=hW
 obtain ⟨p,q,hA0,hV,rfl,hfz,hnd⟩:=hW
 obtain ⟨rfl,rfl⟩:=trodVars_none hV
 have hval : ∀ (j : Nat) t v,Tryz.f10.params.toList[j]? = some t→args.toList[j]? = some v→Value.okWide Tryz.prog W .any base t v:=fun j t v h1 h2=>aft j t v (by simpa using h1) (by simpa using h2)
 have h:=M.ab9 tys hval hA0 (ac W (tab hL) (mx hsh) (es hL) (er hL))
 rw [Array.toArray_toList] at h
 refine h.mono fun e W' ⟨he,bel⟩=>?_
 subst he
 have mj:=M.aa8 bel tys hA0
 obtain ⟨v0,vs0,d0,ds0,p0,q0,af8,rfl,rfl,t0,r0⟩:=trodAll_cons hA0
 obtain ⟨rfl,rfl,rfl⟩:=trodAll_nil r0
 exact ⟨_,rfl,_,_,_,[],_,[],hW',trodAll_mk1 (shut_bool Tryz.underlying4 _),mj,rfl,bel.frame _,fun h=>by cases h⟩
theorem over : Rows.fnExactMountRow.holds Tryz.pinned (OpenSpec.ofChange Rows.fnExactMountSpec) :=
 OpenClaim.holds_of_wide 10 Tryz.f10 rfl rfl rfl rfl rfl rfl rfl ⟨rfl,rfl,rfl,rfl,rfl⟩ rfl rfl rfl rfl rfl (by kernel_rfl) Tryz.func10 jf
  (of_decide_eq_true (by kernel_rfl)) (by unfold Func.isWrapper; first | (rw [if_pos (by decide +kernel)]; kernel_rfl) | (rw [if_neg (by decide +kernel)]; exact ⟨rfl,rfl⟩))
  (fun os started H enc _=>lifted os started H enc)
theorem card : Claim7.holds Tryz.pinned (.plain (OpenSpec.ofChange Rows.fnExactMountSpec)) Rows.fnExactMountCard :=
 Claim7.holds_tied_plain_at .later [] [.data,.data,.data,.data,.sentinel,.sentinel,.pinned] true (true,"12f7ecd7b3c2f0a2712a0988d2c876b9d267aa8cccabd8e156775ce65b2298da") true over (fun _ h=>by cases h) jcw (fun _ h=>by cases h) fnExactMount_row_tie rfl ⟨rfl,rfl⟩ jcm rfl
  (fun f fn hf hfn=>by
   obtain rfl : f = 10:=Option.some.inj (jcf.symm.trans hf) |>.symm
   obtain rfl : fn = Tryz.f10:=(Option.some.inj (Tryz.func10.symm.trans hfn)).symm
   exact ⟨jcl,fun j t ht=>by
    rw [Tryz.params10] at ht
    have hm : t∈[25]:=by simpa using Array.mem_of_getElem? ht
    exact (show Tryz.prog.wantsStandIn t = false by simpa using List.all_eq_true.1 jcs t hm)⟩)
  jcg
end Go.Proofs.YtkpkgfollnfhcaaGreatDoor.afp
namespace Go.Proofs.YtkpkgfollnfhcaaGreatDoor
theorem fnExactMount_holds : Rows.FnExactMountCardSaid:=afp.card
#print axioms fnExactMount_holds
end Go.Proofs.YtkpkgfollnfhcaaGreatDoor
