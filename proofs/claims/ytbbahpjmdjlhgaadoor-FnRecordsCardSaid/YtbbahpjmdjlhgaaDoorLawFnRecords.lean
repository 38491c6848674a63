/- The statement FnRecords of this seat's rows is proved; no conditions. -/
import Derived.Test.YtbbahpjmdjlhgaaDoorTie
import Derived.Test.YtbbahpjmdjlhgaaDoorCards
import Derived.Test.YtbbahpjmdjlhgaaDoorTold
import Derived.Test.YtbbahpjmdjlhgaaDoorCona
import Derived.WalkKit
import Derived.ProofKit
import Derived.OpenShut
import Derived.Handy
import Derived.Lay
import Derived.ChangeOld
import Derived.SizedLaws
import Derived.SevenTiedAt
import Derived.Stop.LaidErr
import Derived.Shelf.Vars
set_option linter.unusedSectionVars false
set_option linter.unusedVariables false
set_option linter.unusedSimpArgs false
namespace Go.Proofs.YtbbahpjmdjlhgaaDoor.wJ
open Go.ChangeShapes Go.WideShapes Go.ChangeAt Go.RowKit
theorem own : ownKnob Tryd.prog.godebug = none:=by kernel_rfl
theorem tys : Tryd.f3.params.toList.map (M.iA Tryd.prog) = [M.eE.one (.row [.int .u8])].map some:=by kernel_rfl
theorem ac (W : World) (htab : Lib.TabIs Tryd.prog W "internal/strconv.uint64pow10" .u64 Lib.pow10Tab) (hmax : ∃ m,W.cell? ⟨0,0,none⟩ = some (.int .i64 m)) (mU : ∃ te pe,W.var? Tryd.prog "strconv.ErrSyntax" = some #[.iface te pe]) (dL : ∃ te pe,W.var? Tryd.prog "strconv.ErrRange" = some #[.iface te pe]) : ∀ xs,M.jq [M.eE.one (.row [.int .u8])] xs→@M.AC ⟨W⟩ Tryd.prog 3 xs fun r _=>r = .bool true:=by
 intro xs hx
 obtain ⟨x0,JX,rfl,h0,hx0⟩:=M.AP hx
 obtain ⟨a0,rfl,k0⟩:=M.AU (M.AO h0)
 obtain rfl:=M.AQ hx0
 letI : M.Bs:=⟨W⟩
 obtain ⟨ps,he⟩:=M.Dn (a0) (k0)
 exact (M.Ba (L:=M.LI) (T:=M.TT) (M.zP htab hmax mU dL) M.z7 _ _ _ he).mono fun r ps h=>h.1
theorem Fx {W : World} (h : laidMetH Tryd.prog Rows.fnRecordsRow.laid W) : Lib.TabIs Tryd.prog W "internal/strconv.uint64pow10" .u64 Lib.pow10Tab:=by
 rw [MakeChecks.laidMetH_plain _ _ _ (by kernel_rfl)] at h
 obtain ⟨ps,h,_⟩:=h
 exact M.zu (g:=1) (t:=110) (e:=95) (n:=20) (by kernel_rfl) (by kernel_rfl) Tryd.underlying110 Tryd.underlying95 (by kernel_rfl) (by kernel_rfl) h (by unfold Rows.fnRecordsRow; exact List.mem_cons_of_mem _ (List.mem_cons_of_mem _ (List.mem_cons_self ..)))
theorem star : "*" ++ "errors.errorString" = "*errors.errorString":=by decide
theorem gZ (u : TypeId) (h : Tryd.prog.typeName? 3 u = some "*errors.errorString") : u = 129 :=
 typeName_ptr_named (nm:= "errors.errorString") (by rw [star]; kernel_rfl) (by kernel_rfl) (by decide) u (by rw [star]; exact h)
theorem es {W : World} (h : laidMetH Tryd.prog Rows.fnRecordsRow.laid W) : ∃ te pe,W.var? Tryd.prog "strconv.ErrSyntax" = some #[.iface te pe]:=by
 rw [MakeChecks.laidMetH_plain _ _ _ (by kernel_rfl)] at h
 unfold Rows.fnRecordsRow at h
 obtain ⟨a,s,hv,-,-,-⟩:=laid_sentinel (laidMet.tail (laidMet.tail (laidMet.tail (laidMet.tail (laidMet.tail h))))) (show Tryd.prog.globalNamed "strconv.ErrSyntax" = some 2 by kernel_rfl) (show (Tryd.prog.globals[2]?).map (·.type) = some 62 by kernel_rfl) Tryd.underlying62 gZ Tryd.underlying129 Tryd.underlying131 rfl rfl Tryd.underlying9 (by kernel_rfl) (by kernel_rfl)
 exact ⟨_,_,hv⟩
theorem er {W : World} (h : laidMetH Tryd.prog Rows.fnRecordsRow.laid W) : ∃ te pe,W.var? Tryd.prog "strconv.ErrRange" = some #[.iface te pe]:=by
 rw [MakeChecks.laidMetH_plain _ _ _ (by kernel_rfl)] at h
 unfold Rows.fnRecordsRow at h
 obtain ⟨a,s,hv,-,-,-⟩:=laid_sentinel (laidMet.tail (laidMet.tail (laidMet.tail (laidMet.tail h)))) (show Tryd.prog.globalNamed "strconv.ErrRange" = some 3 by kernel_rfl) (show (Tryd.prog.globals[3]?).map (·.type) = some 62 by kernel_rfl) Tryd.underlying62 gZ Tryd.underlying129 Tryd.underlying131 rfl rfl Tryd.underlying9 (by kernel_rfl) (by kernel_rfl)
 exact ⟨_,_,hv⟩
theorem mx {W : World} (h : W.ShapedOpen Tryd.prog) : ∃ m,W.cell? ⟨0,0,none⟩ = some (.int .i64 m) :=
 Go.Proofs.cell_of_shapedOpen_int (zero:=#[.int .i64 0]) (t:=3) h (of_decide_eq_true (by kernel_rfl)) (by kernel_rfl) rfl (by kernel_rfl) (by kernel_rfl) Tryd.underlying3
set_option maxRecDepth 100000 in
theorem lifted (os : Os) (started : os.Started) (H : Type) (enc : TypeId×Value→H) :
  ReturnsInHanded {} Tryd.checked os 3 .any (fun w args=>(Rows.fnRecordsSpec.pre enc Tryd.prog Tryd.f3 Rows.fnRecordsRow.domain false w args∧laidMetH Tryd.prog Rows.fnRecordsRow.laid w)∧sizedMet enc Tryd.prog Tryd.f3 (OpenSpec.ofChange Rows.fnRecordsSpec) false w args)
   (Rows.fnRecordsSpec.post enc Tryd.prog Tryd.f3 false true false false):=by
 refine E4 (C:=Tryd.checked) (X:=fun w _=>laidMetH Tryd.prog Rows.fnRecordsRow.laid w) (fun _ _ _ hh h=>h.of_heap hh) own started (by kernel_rfl) Tryd.func3
  (ChangeSpec.witness_shaped (enc:=enc) (C:=Tryd.checked) (os:=os) (X:=fun w _=>laidMetH Tryd.prog Rows.fnRecordsRow.laid w) false (World.laidAll Tryd.prog os Rows.fnRecordsRow.laid) #[.slice none 0 0] 8 (World.laidAll_os _ _ _)
   (World.shaped_of_ZipB (by kernel_rfl) (by kernel_rfl)) (by kernel_rfl) (by kernel_rfl) (by kernel_rfl)
   (by rw [MakeChecks.laidMetH_plain _ _ _ (by kernel_rfl)]; exact laidMet_laidAll _ (by kernel_rfl) (by kernel_rfl))) ?_
 intro W base args ds gs before CV hW Iv Ix hL hsh _
 have Cb:=hW
 obtain ⟨p,q,sU,hV,rfl,hfz,hnd⟩:=hW
 obtain ⟨rfl,rfl⟩:=trodVars_none hV
 have hval : ∀ (j : Nat) t v,Tryd.f3.params.toList[j]? = some t→args.toList[j]? = some v→Value.okWide Tryd.prog W .any base t v:=fun j t v h1 h2=>CV j t v (by simpa using h1) (by simpa using h2)
 have h:=M.AH tys hval sU (ac W (Fx hL) (mx hsh) (es hL) (er hL))
 rw [Array.toArray_toList] at h
 refine h.mono fun e W' ⟨he,vm⟩=>?_
 subst he
 have fL:=M.zA vm tys sU
 obtain ⟨v0,JV,d0,HA,p0,q0,Iu,rfl,rfl,t0,r0⟩:=trodAll_cons sU
 obtain ⟨rfl,rfl,rfl⟩:=trodAll_nil r0
 exact ⟨_,rfl,_,_,_,[],_,[],Cb,trodAll_mk1 (shut_bool Tryd.underlying4 _),fL,rfl,vm.frame _,fun h=>by cases h⟩
theorem over : Rows.fnRecordsRow.holds Tryd.pinned (OpenSpec.ofChange Rows.fnRecordsSpec) :=
 OpenClaim.holds_of_wide 3 Tryd.f3 rfl rfl rfl rfl rfl rfl rfl ⟨rfl,rfl,rfl,rfl,rfl⟩ rfl rfl rfl rfl rfl (by kernel_rfl) Tryd.func3 (by kernel_rfl)
  (of_decide_eq_true (by kernel_rfl)) (by unfold Func.isWrapper; first | (rw [if_pos (by decide +kernel)]; kernel_rfl) | (rw [if_neg (by decide +kernel)]; exact ⟨rfl,rfl⟩))
  (fun os started H enc _=>lifted os started H enc)
theorem card : Claim7.holds Tryd.pinned (.plain (OpenSpec.ofChange Rows.fnRecordsSpec)) Rows.fnRecordsCard :=
 Claim7.holds_tied_plain_at .later [] [.data,.data,.data,.data,.sentinel,.sentinel,.pinned] true (true,"4b662ce4595a6604f1a8849e6532f6f0b80f72db55e4e717423cec94ee961948") true over (fun _ h=>by cases h) (by kernel_rfl) (fun _ h=>by cases h) fnRecords_row_tie rfl ⟨rfl,rfl⟩ (by kernel_rfl) rfl
  (fun f fn hf hfn=>by
   obtain rfl : f = 3:=Option.some.inj ((show Tryd.prog.funcNamed "loop.example/g00239/laws.FnRecords" = some 3 by kernel_rfl).symm.trans hf) |>.symm
   obtain rfl : fn = Tryd.f3:=(Option.some.inj (Tryd.func3.symm.trans hfn)).symm
   exact ⟨by kernel_rfl,fun j t ht=>by
    rw [Tryd.params3] at ht
    have hm : t∈[22]:=by simpa using Array.mem_of_getElem? ht
    have hall : ([22].all fun u=>!Tryd.prog.wantsStandIn u) = true:=by kernel_rfl
    exact (show Tryd.prog.wantsStandIn t = false by simpa using List.all_eq_true.1 hall t hm)⟩)
  (by kernel_rfl)
end Go.Proofs.YtbbahpjmdjlhgaaDoor.wJ
namespace Go.Proofs.YtbbahpjmdjlhgaaDoor
theorem fnRecords_holds : Rows.FnRecordsCardSaid:=wJ.card
#print axioms fnRecords_holds
end Go.Proofs.YtbbahpjmdjlhgaaDoor
