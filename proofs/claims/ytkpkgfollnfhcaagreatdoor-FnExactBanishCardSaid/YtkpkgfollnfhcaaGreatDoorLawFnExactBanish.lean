/- The statement FnExactBanish of this seat's rows is proved; no conditions. -/
import Derived.Test.YtkpkgfollnfhcaaGreatDoorTie
import Derived.Test.YtkpkgfollnfhcaaGreatDoorCards
import Derived.Test.YtkpkgfollnfhcaaGreatDoorFact
import Derived.Test.YtkpkgfollnfhcaaGreatDoorTold
import Derived.Test.YtkpkgfollnfhcaaGreatDoorCona
import Derived.WalkKit
import Derived.ProofKit
import Derived.OpenShut
import Derived.Handy
import Derived.Lay
import Derived.ChangeOld
import Derived.SizedLaws
import Derived.SevenTiedAt
import Derived.Shelf.Vars
set_option linter.unusedSectionVars false
set_option linter.unusedVariables false
set_option linter.unusedSimpArgs false
namespace Go.Proofs.YtkpkgfollnfhcaaGreatDoor.YK
open Go.ChangeShapes Go.WideShapes Go.ChangeAt Go.RowKit
theorem own : ownKnob Tryz.prog.godebug = none:=by kernel_rfl
theorem tys : Tryz.f7.params.toList.map (M.mB Tryz.prog) = [M.iK.agg M.Sg,M.iK.agg M.Sf].map some:=by kernel_rfl
theorem ac (W : World) (htab : Lib.TabIs Tryz.prog W "internal/strconv.uint64pow10" .u64 Lib.pow10Tab) (hmax : ∃ m,W.cell? ⟨1,0,none⟩ = some (.int .i64 m)) : ∀ xs,M.nX [M.iK.agg M.Sg,M.iK.agg M.Sf] xs→@M.AC ⟨W⟩ Tryz.prog 7 xs fun r _=>r = .bool true:=by
 intro xs hx
 obtain ⟨x0,ZB,rfl,h0,hx0⟩:=M.Wb hx
 obtain ⟨a0,rfl,k0⟩:=M.We h0
 obtain ⟨x1,ZC,rfl,h1,hx1⟩:=M.Wb hx0
 obtain ⟨a1,rfl,k1⟩:=M.Wd h1
 obtain rfl:=M.Wc hx1
 letI : M.Bs:=⟨W⟩
 obtain ⟨ps,he⟩:=M.Xs (a0) (k0) (a1) (k1)
 exact (M.WT (L:=M.LI) (T:=M.TT) (M.Vc htab hmax) M.Vf _ _ _ he).mono fun r ps h=>h.1
theorem Zs {W : World} (h : laidMetH Tryz.prog Rows.fnExactBanishRow.laid W) : Lib.TabIs Tryz.prog W "internal/strconv.uint64pow10" .u64 Lib.pow10Tab:=by
 rw [MakeChecks.laidMetH_plain _ _ _ (by kernel_rfl)] at h
 obtain ⟨ps,h,_⟩:=h
 exact M.Si (g:=0) (t:=357) (e:=288) (n:=20) (by kernel_rfl) (by kernel_rfl) Tryz.underlying357 Tryz.underlying288 (by kernel_rfl) (by kernel_rfl) h (by unfold Rows.fnExactBanishRow; exact List.mem_cons_of_mem _ (List.mem_cons_of_mem _ (List.mem_cons_self ..)))
theorem mx {W : World} (h : W.ShapedOpen Tryz.prog) : ∃ m,W.cell? ⟨1,0,none⟩ = some (.int .i64 m) :=
 Go.Proofs.cell_of_shapedOpen_int (zero:=#[.int .i64 0]) (t:=3) h (of_decide_eq_true (by kernel_rfl)) (by kernel_rfl) rfl (by kernel_rfl) (by kernel_rfl) Tryz.underlying3
set_option maxRecDepth 100000 in
theorem lifted (os : Os) (started : os.Started) (H : Type) (enc : TypeId×Value→H) :
  ReturnsInHanded {} Tryz.checked os 7 .any (fun w args=>(Rows.fnExactBanishSpec.pre enc Tryz.prog Tryz.f7 Rows.fnExactBanishRow.domain false w args∧laidMetH Tryz.prog Rows.fnExactBanishRow.laid w)∧sizedMet enc Tryz.prog Tryz.f7 (OpenSpec.ofChange Rows.fnExactBanishSpec) false w args)
   (Rows.fnExactBanishSpec.post enc Tryz.prog Tryz.f7 false true false false):=by
 refine Ya (C:=Tryz.checked) (X:=fun w _=>laidMetH Tryz.prog Rows.fnExactBanishRow.laid w) (fun _ _ _ hh h=>h.of_heap hh) own started (by kernel_rfl) Tryz.func7
  (ChangeSpec.witness_shaped (enc:=enc) (C:=Tryz.checked) (os:=os) (X:=fun w _=>laidMetH Tryz.prog Rows.fnExactBanishRow.laid w) false (World.laidAll Tryz.prog os Rows.fnExactBanishRow.laid) #[.agg #[.slice none 0 0,.slice none 0 0,.slice none 0 0,.slice none 0 0,.int .i64 0,.int .i64 0],.agg #[.int .i64 0,.string ByteArray.empty,.string ByteArray.empty,.int .i64 0]] 8 (World.laidAll_os _ _ _)
   (World.shaped_of_ZipB (by kernel_rfl) (by kernel_rfl)) (by kernel_rfl) (by kernel_rfl) (by kernel_rfl)
   (by rw [MakeChecks.laidMetH_plain _ _ _ (by kernel_rfl)]; exact laidMet_laidAll _ (by kernel_rfl) (by kernel_rfl))) ?_
 intro W base args ds gs before YO hW Zx Zy hL hsh _
 have YN:=hW
 obtain ⟨p,q,YL,hV,rfl,hfz,hnd⟩:=hW
 obtain ⟨rfl,rfl⟩:=trodVars_none hV
 have hval : ∀ (j : Nat) t v,Tryz.f7.params.toList[j]? = some t→args.toList[j]? = some v→Value.okWide Tryz.prog W .any base t v:=fun j t v h1 h2=>YO j t v (by simpa using h1) (by simpa using h2)
 have h:=M.VE tys hval YL (ac W (Zs hL) (mx hsh))
 rw [Array.toArray_toList] at h
 refine h.mono fun e W' ⟨he,YM⟩=>?_
 subst he
 have kg:=M.UU YM tys YL
 obtain ⟨v0,Zz,d0,Zt,p0,q0,Zv,rfl,rfl,t0,r0⟩:=trodAll_cons YL
 obtain ⟨v1,ZA,d1,Zu,p1,q1,Zw,rfl,rfl,t1,r1⟩:=trodAll_cons r0
 obtain ⟨rfl,rfl,rfl⟩:=trodAll_nil r1
 exact ⟨_,rfl,_,_,_,[],_,[],YN,trodAll_mk1 (shut_bool Tryz.underlying4 _),kg,rfl,YM.frame _,fun h=>by cases h⟩
theorem over : Rows.fnExactBanishRow.holds Tryz.pinned (OpenSpec.ofChange Rows.fnExactBanishSpec) :=
 OpenClaim.holds_of_wide 7 Tryz.f7 rfl rfl rfl rfl rfl rfl rfl ⟨rfl,rfl,rfl,rfl,rfl⟩ rfl rfl rfl rfl rfl (by kernel_rfl) Tryz.func7 jf
  (of_decide_eq_true (by kernel_rfl)) (by unfold Func.isWrapper; first | (rw [if_pos (by decide +kernel)]; kernel_rfl) | (rw [if_neg (by decide +kernel)]; exact ⟨rfl,rfl⟩))
  (fun os started H enc _=>lifted os started H enc)
theorem card : Claim7.holds Tryz.pinned (.plain (OpenSpec.ofChange Rows.fnExactBanishSpec)) Rows.fnExactBanishCard :=
 Claim7.holds_tied_plain_at .later [] [.data,.data,.data,.data,.pinned] true (true,"12f7ecd7b3c2f0a2712a0988d2c876b9d267aa8cccabd8e156775ce65b2298da") true over (fun _ h=>by cases h) YU (fun _ h=>by cases h) fnExactBanish_row_tie rfl ⟨rfl,rfl⟩ YS rfl
  (fun f fn hf hfn=>by
   obtain rfl : f = 7:=Option.some.inj (YP.symm.trans hf) |>.symm
   obtain rfl : fn = Tryz.f7:=(Option.some.inj (Tryz.func7.symm.trans hfn)).symm
   exact ⟨YR,fun j t ht=>by
    rw [Tryz.params7] at ht
    have hm : t∈[29,79]:=by simpa using Array.mem_of_getElem? ht
    exact (show Tryz.prog.wantsStandIn t = false by simpa using List.all_eq_true.1 YT t hm)⟩)
  YQ
end Go.Proofs.YtkpkgfollnfhcaaGreatDoor.YK
namespace Go.Proofs.YtkpkgfollnfhcaaGreatDoor
theorem fnExactBanish_holds : Rows.FnExactBanishCardSaid:=YK.card
#print axioms fnExactBanish_holds
end Go.Proofs.YtkpkgfollnfhcaaGreatDoor
