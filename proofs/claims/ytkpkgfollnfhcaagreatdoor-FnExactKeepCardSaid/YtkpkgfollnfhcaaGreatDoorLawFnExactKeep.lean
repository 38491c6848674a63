/- The statement FnExactKeep of this seat's rows is proved; no conditions. -/
import Derived.Test.YtkpkgfollnfhcaaGreatDoorTie
import Derived.Test.YtkpkgfollnfhcaaGreatDoorCards
import Derived.Test.YtkpkgfollnfhcaaGreatDoorFact
import Derived.Test.YtkpkgfollnfhcaaGreatDoorTold
import Derived.Test.YtkpkgfollnfhcaaGreatDoorCona
import Derived.WalkKit
import Derived.ProofKit
import Derived.OpenShut
import Derived.Handy
import Derived.Lay
import Derived.ChangeOld
import Derived.SizedLaws
import Derived.SevenTiedAt
import Derived.Shelf.Vars
set_option linter.unusedSectionVars false
set_option linter.unusedVariables false
set_option linter.unusedSimpArgs false
namespace Go.Proofs.YtkpkgfollnfhcaaGreatDoor.aar
open Go.ChangeShapes Go.WideShapes Go.ChangeAt Go.RowKit
theorem own : ownKnob Tryz.prog.godebug = none:=by kernel_rfl
theorem tys : Tryz.f8.params.toList.map (M.mV Tryz.prog) = [M.iT.agg M.TV,M.iT.agg M.TU].map some:=by kernel_rfl
theorem ac (W : World) (htab : Lib.TabIs Tryz.prog W "internal/strconv.uint64pow10" .u64 Lib.pow10Tab) (hmax : ∃ m,W.cell? ⟨1,0,none⟩ = some (.int .i64 m)) : ∀ xs,M.ow [M.iT.agg M.TV,M.iT.agg M.TU] xs→@M.AC ⟨W⟩ Tryz.prog 8 xs fun r _=>r = .bool true:=by
 intro xs hx
 obtain ⟨x0,xs0,rfl,h0,hx0⟩:=M.XW hx
 obtain ⟨a0,rfl,k0⟩:=M.XZ h0
 obtain ⟨x1,xs1,rfl,h1,hx1⟩:=M.XW hx0
 obtain ⟨a1,rfl,k1⟩:=M.XY h1
 obtain rfl:=M.XX hx1
 letI : M.Bs:=⟨W⟩
 obtain ⟨ps,he⟩:=M.Y8 (a0) (k0) (a1) (k1)
 exact (M.YB (L:=M.LI) (T:=M.TT) (M.WT htab hmax) M.WU _ _ _ he).mono fun r ps h=>h.1
theorem tab {W : World} (h : laidMetH Tryz.prog Rows.fnExactKeepRow.laid W) : Lib.TabIs Tryz.prog W "internal/strconv.uint64pow10" .u64 Lib.pow10Tab:=by
 rw [MakeChecks.laidMetH_plain _ _ _ (by kernel_rfl)] at h
 obtain ⟨ps,h,_⟩:=h
 exact M.TW (g:=0) (t:=357) (e:=288) (n:=20) (by kernel_rfl) (by kernel_rfl) Tryz.underlying357 Tryz.underlying288 (by kernel_rfl) (by kernel_rfl) h (by unfold Rows.fnExactKeepRow; exact List.mem_cons_of_mem _ (List.mem_cons_of_mem _ (List.mem_cons_self ..)))
theorem mx {W : World} (h : W.ShapedOpen Tryz.prog) : ∃ m,W.cell? ⟨1,0,none⟩ = some (.int .i64 m) :=
 Go.Proofs.cell_of_shapedOpen_int (zero:=#[.int .i64 0]) (t:=3) h (of_decide_eq_true (by kernel_rfl)) (by kernel_rfl) rfl (by kernel_rfl) (by kernel_rfl) Tryz.underlying3
set_option maxRecDepth 100000 in
theorem lifted (os : Os) (started : os.Started) (H : Type) (enc : TypeId×Value→H) :
  ReturnsInHanded {} Tryz.checked os 8 .any (fun w args=>(Rows.fnExactKeepSpec.pre enc Tryz.prog Tryz.f8 Rows.fnExactKeepRow.domain false w args∧laidMetH Tryz.prog Rows.fnExactKeepRow.laid w)∧sizedMet enc Tryz.prog Tryz.f8 (OpenSpec.ofChange Rows.fnExactKeepSpec) false w args)
   (Rows.fnExactKeepSpec.post enc Tryz.prog Tryz.f8 false true false false):=by
 refine ZQ (C:=Tryz.checked) (X:=fun w _=>laidMetH Tryz.prog Rows.fnExactKeepRow.laid w) (fun _ _ _ hh h=>h.of_heap hh) own started (by kernel_rfl) Tryz.func8
  (ChangeSpec.witness_shaped (enc:=enc) (C:=Tryz.checked) (os:=os) (X:=fun w _=>laidMetH Tryz.prog Rows.fnExactKeepRow.laid w) false (World.laidAll Tryz.prog os Rows.fnExactKeepRow.laid) #[.agg #[.slice none 0 0,.slice none 0 0,.slice none 0 0,.slice none 0 0,.int .i64 0,.int .i64 0],.agg #[.string ByteArray.empty,.slice none 0 0,.slice none 0 0,.int .i64 0,.slice none 0 0,.string ByteArray.empty,.int .i64 0]] 8 (World.laidAll_os _ _ _)
   (World.shaped_of_ZipB (by kernel_rfl) (by kernel_rfl)) (by kernel_rfl) (by kernel_rfl) (by kernel_rfl)
   (by rw [MakeChecks.laidMetH_plain _ _ _ (by kernel_rfl)]; exact laidMet_laidAll _ (by kernel_rfl) (by kernel_rfl))) ?_
 intro W base args ds gs before aav hW abf abg hL hsh _
 have hW':=hW
 obtain ⟨p,q,hA0,hV,rfl,hfz,hnd⟩:=hW
 obtain ⟨rfl,rfl⟩:=trodVars_none hV
 have hval : ∀ (j : Nat) t v,Tryz.f8.params.toList[j]? = some t→args.toList[j]? = some v→Value.okWide Tryz.prog W .any base t v:=fun j t v h1 h2=>aav j t v (by simpa using h1) (by simpa using h2)
 have h:=M.Xn tys hval hA0 (ac W (tab hL) (mx hsh))
 rw [Array.toArray_toList] at h
 refine h.mono fun e W' ⟨he,bel⟩=>?_
 subst he
 have kB:=M.WB bel tys hA0
 obtain ⟨v0,vs0,d0,ds0,p0,q0,abd,rfl,rfl,t0,r0⟩:=trodAll_cons hA0
 obtain ⟨v1,vs1,d1,ds1,p1,q1,abe,rfl,rfl,t1,r1⟩:=trodAll_cons r0
 obtain ⟨rfl,rfl,rfl⟩:=trodAll_nil r1
 exact ⟨_,rfl,_,_,_,[],_,[],hW',trodAll_mk1 (shut_bool Tryz.underlying4 _),kB,rfl,bel.frame _,fun h=>by cases h⟩
theorem over : Rows.fnExactKeepRow.holds Tryz.pinned (OpenSpec.ofChange Rows.fnExactKeepSpec) :=
 OpenClaim.holds_of_wide 8 Tryz.f8 rfl rfl rfl rfl rfl rfl rfl ⟨rfl,rfl,rfl,rfl,rfl⟩ rfl rfl rfl rfl rfl (by kernel_rfl) Tryz.func8 jf
  (of_decide_eq_true (by kernel_rfl)) (by unfold Func.isWrapper; first | (rw [if_pos (by decide +kernel)]; kernel_rfl) | (rw [if_neg (by decide +kernel)]; exact ⟨rfl,rfl⟩))
  (fun os started H enc _=>lifted os started H enc)
theorem card : Claim7.holds Tryz.pinned (.plain (OpenSpec.ofChange Rows.fnExactKeepSpec)) Rows.fnExactKeepCard :=
 Claim7.holds_tied_plain_at .later [] [.data,.data,.data,.data,.pinned] true (true,"12f7ecd7b3c2f0a2712a0988d2c876b9d267aa8cccabd8e156775ce65b2298da") true over (fun _ h=>by cases h) jcw (fun _ h=>by cases h) fnExactKeep_row_tie rfl ⟨rfl,rfl⟩ jcm rfl
  (fun f fn hf hfn=>by
   obtain rfl : f = 8:=Option.some.inj (jcf.symm.trans hf) |>.symm
   obtain rfl : fn = Tryz.f8:=(Option.some.inj (Tryz.func8.symm.trans hfn)).symm
   exact ⟨jcl,fun j t ht=>by
    rw [Tryz.params8] at ht
    have hm : t∈[29,89]:=by simpa using Array.mem_of_getElem? ht
    exact (show Tryz.prog.wantsStandIn t = false by simpa using List.all_eq_true.1 jcs t hm)⟩)
  jcg
end Go.Proofs.YtkpkgfollnfhcaaGreatDoor.aar
namespace Go.Proofs.YtkpkgfollnfhcaaGreatDoor
theorem fnExactKeep_holds : Rows.FnExactKeepCardSaid:=aar.card
#print axioms fnExactKeep_holds
end Go.Proofs.YtkpkgfollnfhcaaGreatDoor
