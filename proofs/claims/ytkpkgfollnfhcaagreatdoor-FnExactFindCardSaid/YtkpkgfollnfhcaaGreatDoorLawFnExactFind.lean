/- The statement FnExactFind of this seat's rows is proved; no conditions. -/
import Derived.Test.YtkpkgfollnfhcaaGreatDoorTie
import Derived.Test.YtkpkgfollnfhcaaGreatDoorCards
import Derived.Test.YtkpkgfollnfhcaaGreatDoorFact
import Derived.Test.YtkpkgfollnfhcaaGreatDoorFind
import Derived.Test.YtkpkgfollnfhcaaGreatDoorTold
import Derived.Test.YtkpkgfollnfhcaaGreatDoorCona
import Derived.WalkKit
import Derived.ProofKit
import Derived.OpenShut
import Derived.Handy
import Derived.Lay
import Derived.ChangeOld
import Derived.SizedLaws
import Derived.SevenTiedAt
import Derived.Shelf.Vars
set_option linter.unusedSectionVars false
set_option linter.unusedVariables false
set_option linter.unusedSimpArgs false
namespace Go.Proofs.YtkpkgfollnfhcaaGreatDoor.Yn
open Go.ChangeShapes Go.WideShapes Go.ChangeAt Go.RowKit
theorem own : ownKnob Tryz.prog.godebug = none:=by kernel_rfl
theorem tys : Tryz.f6.params.toList.map (M.mT Tryz.prog) = [M.iS.agg M.RT,M.iS.agg M.RS].map some:=by kernel_rfl
theorem ac (W : World) (hmax : ∃ m,W.cell? ⟨1,0,none⟩ = some (.int .i64 m)) : ∀ xs,M.ov [M.iS.agg M.RT,M.iS.agg M.RS] xs→@M.AC ⟨W⟩ Tryz.prog 6 xs fun r _=>r = .bool true:=by
 intro xs hx
 obtain ⟨x0,Zc,rfl,h0,hx0⟩:=M.VL hx
 obtain ⟨a0,rfl,k0⟩:=M.VO h0
 obtain ⟨x1,Zd,rfl,h1,hx1⟩:=M.VL hx0
 obtain ⟨a1,rfl,k1⟩:=M.VN h1
 obtain rfl:=M.VM hx1
 letI : M.Bs:=⟨W⟩
 obtain ⟨ps,he⟩:=@M.W8 M.Wp (a0) (k0) (a1) (k1)
 exact (M.La (L:=M.uJ) (T:=M.TT) (M.UJ (M.UI hmax) M.UK) M.UK _ _ _ he).mono fun r ps h=>h.1
theorem mx {W : World} (h : W.ShapedOpen Tryz.prog) : ∃ m,W.cell? ⟨1,0,none⟩ = some (.int .i64 m) :=
 Go.Proofs.cell_of_shapedOpen_int (zero:=#[.int .i64 0]) (t:=3) h (of_decide_eq_true (by kernel_rfl)) (by kernel_rfl) rfl (by kernel_rfl) (by kernel_rfl) Tryz.underlying3
set_option maxRecDepth 100000 in
theorem lifted (os : Os) (started : os.Started) (H : Type) (enc : TypeId×Value→H) :
  ReturnsInHanded {} Tryz.checked os 6 .any (fun w args=>(Rows.fnExactFindSpec.pre enc Tryz.prog Tryz.f6 Rows.fnExactFindRow.domain false w args∧laidMetH Tryz.prog Rows.fnExactFindRow.laid w)∧sizedMet enc Tryz.prog Tryz.f6 (OpenSpec.ofChange Rows.fnExactFindSpec) false w args)
   (Rows.fnExactFindSpec.post enc Tryz.prog Tryz.f6 false true false false):=by
 refine XQ (C:=Tryz.checked) (X:=fun w _=>laidMetH Tryz.prog Rows.fnExactFindRow.laid w) (fun _ _ _ hh h=>h.of_heap hh) own started (by kernel_rfl) Tryz.func6
  (ChangeSpec.witness_shaped (enc:=enc) (C:=Tryz.checked) (os:=os) (X:=fun w _=>laidMetH Tryz.prog Rows.fnExactFindRow.laid w) false (World.laidAll Tryz.prog os Rows.fnExactFindRow.laid) #[.agg #[.slice none 0 0,.slice none 0 0,.slice none 0 0,.slice none 0 0,.int .i64 0,.int .i64 0],.agg #[.int .i64 0,.string ByteArray.empty,.slice none 0 0,.string ByteArray.empty]] 8 (World.laidAll_os _ _ _)
   (World.shaped_of_ZipB (by kernel_rfl) (by kernel_rfl)) (by kernel_rfl) (by kernel_rfl) (by kernel_rfl)
   (by rw [MakeChecks.laidMetH_plain _ _ _ (by kernel_rfl)]; exact laidMet_laidAll _ (by kernel_rfl) (by kernel_rfl))) ?_
 intro W base args ds gs before Yr hW Y8 Y9 hL hsh _
 have Yq:=hW
 obtain ⟨p,q,Yo,hV,rfl,hfz,hnd⟩:=hW
 obtain ⟨rfl,rfl⟩:=trodVars_none hV
 have hval : ∀ (j : Nat) t v,Tryz.f6.params.toList[j]? = some t→args.toList[j]? = some v→Value.okWide Tryz.prog W .any base t v:=fun j t v h1 h2=>Yr j t v (by simpa using h1) (by simpa using h2)
 have h:=M.Vd tys hval Yo (ac W (mx hsh))
 rw [Array.toArray_toList] at h
 refine h.mono fun e W' ⟨he,Yp⟩=>?_
 subst he
 have kF:=M.Up Yp tys Yo
 obtain ⟨v0,Za,d0,Y4,p0,q0,Y6,rfl,rfl,t0,r0⟩:=trodAll_cons Yo
 obtain ⟨v1,Zb,d1,Y5,p1,q1,Y7,rfl,rfl,t1,r1⟩:=trodAll_cons r0
 obtain ⟨rfl,rfl,rfl⟩:=trodAll_nil r1
 exact ⟨_,rfl,_,_,_,[],_,[],Yq,trodAll_mk1 (shut_bool Tryz.underlying4 _),kF,rfl,Yp.frame _,fun h=>by cases h⟩
theorem over : Rows.fnExactFindRow.holds Tryz.pinned (OpenSpec.ofChange Rows.fnExactFindSpec) :=
 OpenClaim.holds_of_wide 6 Tryz.f6 rfl rfl rfl rfl rfl rfl rfl ⟨rfl,rfl,rfl,rfl,rfl⟩ rfl rfl rfl rfl rfl (by kernel_rfl) Tryz.func6 jf
  (of_decide_eq_true (by kernel_rfl)) (by unfold Func.isWrapper; first | (rw [if_pos (by decide +kernel)]; kernel_rfl) | (rw [if_neg (by decide +kernel)]; exact ⟨rfl,rfl⟩))
  (fun os started H enc _=>lifted os started H enc)
theorem card : Claim7.holds Tryz.pinned (.plain (OpenSpec.ofChange Rows.fnExactFindSpec)) Rows.fnExactFindCard :=
 Claim7.holds_tied_plain_at .later [] [.data,.pinned] true (true,"12f7ecd7b3c2f0a2712a0988d2c876b9d267aa8cccabd8e156775ce65b2298da") true over (fun _ h=>by cases h) Yx (fun _ h=>by cases h) fnExactFind_row_tie rfl ⟨rfl,rfl⟩ Yv rfl
  (fun f fn hf hfn=>by
   obtain rfl : f = 6:=Option.some.inj (Ys.symm.trans hf) |>.symm
   obtain rfl : fn = Tryz.f6:=(Option.some.inj (Tryz.func6.symm.trans hfn)).symm
   exact ⟨Yu,fun j t ht=>by
    rw [Tryz.params6] at ht
    have hm : t∈[29,54]:=by simpa using Array.mem_of_getElem? ht
    exact (show Tryz.prog.wantsStandIn t = false by simpa using List.all_eq_true.1 Yw t hm)⟩)
  Yt
end Go.Proofs.YtkpkgfollnfhcaaGreatDoor.Yn
namespace Go.Proofs.YtkpkgfollnfhcaaGreatDoor
theorem fnExactFind_holds : Rows.FnExactFindCardSaid:=Yn.card
#print axioms fnExactFind_holds
end Go.Proofs.YtkpkgfollnfhcaaGreatDoor
