/- The statement FnExactBanRead of this seat's rows is proved; no conditions. -/
import Derived.Test.YtcldaglhkhfhaaaDoorTie
import Derived.Test.YtcldaglhkhfhaaaDoorCards
import Derived.Test.YtcldaglhkhfhaaaDoorTold
import Derived.Test.YtcldaglhkhfhaaaDoorCona
import Derived.WalkKit
import Derived.ProofKit
import Derived.OpenShut
import Derived.Handy
import Derived.Lay
import Derived.ChangeOld
import Derived.SizedLaws
import Derived.SevenTiedAt
import Derived.Stop.LaidErr
import Derived.Shelf.Vars
set_option linter.unusedSectionVars false
namespace Go.Proofs.YtcldaglhkhfhaaaDoor.fnExactBanRead
open Go.ChangeShapes Go.WideShapes Go.ChangeAt Go.RowKit
set_option linter.unusedVariables false
theorem own : ownKnob Tryd.prog.godebug = none := by kernel_rfl
theorem tys : Tryd.f8.params.toList.map (M.argT Tryd.prog) = [M.ArgT.one .str].map some := by kernel_rfl
theorem ac (W : World) (htab : Lib.TabIs Tryd.prog W "internal/strconv.uint64pow10" .u64 Lib.pow10Tab) (hmax : ∃ m, W.cell? ⟨1, 0, none⟩ = some (.int .i64 m)) (hes : ∃ te pe, W.var? Tryd.prog "strconv.ErrSyntax" = some #[.iface te pe]) (her : ∃ te pe, W.var? Tryd.prog "strconv.ErrRange" = some #[.iface te pe]) : ∀ xs, M.ConfAs [M.ArgT.one .str] xs → @M.AC ⟨W⟩ Tryd.prog 8 xs fun r _ => r = .bool true := by
  intro xs hx
  obtain ⟨x0, xs0, rfl, h0, hx0⟩ := M.confAs_cons hx
  obtain ⟨a0, rfl, k0⟩ := M.conf_str (M.confA_one h0)
  obtain rfl := M.confAs_nil hx0
  letI : M.Bs := ⟨W⟩
  obtain ⟨ps, he⟩ := M.law_FnExactBanRead (a0) (k0)
  exact (M.ev_sound (L := M.LI) (T := M.TT) (M.LI_sound htab hmax hes her) M.TT_ok _ _ _ he).mono fun r ps h => h.1
theorem tab {W : World} (h : laidMetH Tryd.prog Rows.fnExactBanReadRow.laid W) : Lib.TabIs Tryd.prog W "internal/strconv.uint64pow10" .u64 Lib.pow10Tab := by
  rw [MakeChecks.laidMetH_plain _ _ _ (by kernel_rfl)] at h
  obtain ⟨ps, h, _⟩ := h
  exact M.tabIs_of_mem (g := 0) (t := 162) (e := 144) (n := 20) (by kernel_rfl) (by kernel_rfl) Tryd.underlying162 Tryd.underlying144 (by kernel_rfl) (by kernel_rfl) h (by unfold Rows.fnExactBanReadRow; exact List.mem_cons_of_mem _ (List.mem_cons_of_mem _ (List.mem_cons_self ..)))
theorem star : "*" ++ "errors.errorString" = "*errors.errorString" := by decide
theorem rowE (u : TypeId) (h : Tryd.prog.typeName? 3 u = some "*errors.errorString") : u = 191 :=
  typeName_ptr_named (nm := "errors.errorString") (by rw [star]; kernel_rfl) (by kernel_rfl) (by decide) u (by rw [star]; exact h)
theorem es {W : World} (h : laidMetH Tryd.prog Rows.fnExactBanReadRow.laid W) : ∃ te pe, W.var? Tryd.prog "strconv.ErrSyntax" = some #[.iface te pe] := by
  rw [MakeChecks.laidMetH_plain _ _ _ (by kernel_rfl)] at h
  unfold Rows.fnExactBanReadRow at h
  obtain ⟨a, s, hv, -, -, -⟩ := laid_sentinel (laidMet.tail (laidMet.tail (laidMet.tail (laidMet.tail (laidMet.tail h))))) (show Tryd.prog.globalNamed "strconv.ErrSyntax" = some 2 by kernel_rfl) (show (Tryd.prog.globals[2]?).map (·.type) = some 78 by kernel_rfl) Tryd.underlying78 rowE Tryd.underlying191 Tryd.underlying193 rfl rfl Tryd.underlying9 (by kernel_rfl) (by kernel_rfl)
  exact ⟨_, _, hv⟩
theorem er {W : World} (h : laidMetH Tryd.prog Rows.fnExactBanReadRow.laid W) : ∃ te pe, W.var? Tryd.prog "strconv.ErrRange" = some #[.iface te pe] := by
  rw [MakeChecks.laidMetH_plain _ _ _ (by kernel_rfl)] at h
  unfold Rows.fnExactBanReadRow at h
  obtain ⟨a, s, hv, -, -, -⟩ := laid_sentinel (laidMet.tail (laidMet.tail (laidMet.tail (laidMet.tail h)))) (show Tryd.prog.globalNamed "strconv.ErrRange" = some 3 by kernel_rfl) (show (Tryd.prog.globals[3]?).map (·.type) = some 78 by kernel_rfl) Tryd.underlying78 rowE Tryd.underlying191 Tryd.underlying193 rfl rfl Tryd.underlying9 (by kernel_rfl) (by kernel_rfl)
  exact ⟨_, _, hv⟩
theorem mx {W : World} (h : W.ShapedOpen Tryd.prog) : ∃ m, W.cell? ⟨1, 0, none⟩ = some (.int .i64 m) :=
  Go.Proofs.cell_of_shapedOpen_int (zero := #[.int .i64 0]) (t := 3) h (of_decide_eq_true (by kernel_rfl)) (by kernel_rfl) rfl (by kernel_rfl) (by kernel_rfl) Tryd.underlying3
set_option maxRecDepth 100000 in
theorem lifted (os : Os) (started : os.Started) (H : Type) (enc : TypeId × Value → H) :
    ReturnsInHanded {} Tryd.checked os 8 .any (fun w args => (Rows.fnExactBanReadSpec.pre enc Tryd.prog Tryd.f8 Rows.fnExactBanReadRow.domain false w args ∧ laidMetH Tryd.prog Rows.fnExactBanReadRow.laid w) ∧ sizedMet enc Tryd.prog Tryd.f8 (OpenSpec.ofChange Rows.fnExactBanReadSpec) false w args)
      (Rows.fnExactBanReadSpec.post enc Tryd.prog Tryd.f8 false true false false) := by
  refine returnsInHanded_of_change_and_shaped (C := Tryd.checked) (X := fun w _ => laidMetH Tryd.prog Rows.fnExactBanReadRow.laid w) (fun _ _ _ hh h => h.of_heap hh) own started (by kernel_rfl) Tryd.func8
    (ChangeSpec.witness_shaped (enc := enc) (C := Tryd.checked) (os := os) (X := fun w _ => laidMetH Tryd.prog Rows.fnExactBanReadRow.laid w) false (World.laidAll Tryd.prog os Rows.fnExactBanReadRow.laid) #[.string ByteArray.empty] 8 (World.laidAll_os _ _ _)
      (World.shaped_of_ZipB (by kernel_rfl) (by kernel_rfl)) (by kernel_rfl) (by kernel_rfl) (by kernel_rfl)
      (by rw [MakeChecks.laidMetH_plain _ _ _ (by kernel_rfl)]; exact laidMet_laidAll _ (by kernel_rfl) (by kernel_rfl))) ?_
  intro W base args ds gs before hval0 hW hcnd hsz0 hL hsh _
  have hW' := hW
  obtain ⟨p, q, hA0, hV, rfl, hfz, hnd⟩ := hW
  obtain ⟨rfl, rfl⟩ := trodVars_none hV
  have hval : ∀ (j : Nat) t v, Tryd.f8.params.toList[j]? = some t → args.toList[j]? = some v → Value.okWide Tryd.prog W .any base t v := fun j t v h1 h2 => hval0 j t v (by simpa using h1) (by simpa using h2)
  have h := M.calls_of_ac tys hval hA0 (ac W (tab hL) (mx hsh) (es hL) (er hL))
  rw [Array.toArray_toList] at h
  refine h.mono fun e W' ⟨he, bel⟩ => ?_
  subst he
  have hA1 := M.trodAll_after bel tys hA0
  obtain ⟨v0, vs0, d0, ds0, p0, q0, hargs0, rfl, rfl, t0, r0⟩ := trodAll_cons hA0
  obtain ⟨rfl, rfl, rfl⟩ := trodAll_nil r0
  exact ⟨_, rfl, _, _, _, [], _, [], hW', trodAll_mk1 (shut_bool Tryd.underlying4 _), hA1, rfl, bel.frame _, fun h => by cases h⟩
theorem over : Rows.fnExactBanReadRow.holds Tryd.pinned (OpenSpec.ofChange Rows.fnExactBanReadSpec) :=
  OpenClaim.holds_of_wide 8 Tryd.f8 rfl rfl rfl rfl rfl rfl rfl ⟨rfl, rfl, rfl, rfl, rfl⟩ rfl rfl rfl rfl rfl (by kernel_rfl) Tryd.func8 (by kernel_rfl)
    (of_decide_eq_true (by kernel_rfl)) (by unfold Func.isWrapper; first | (rw [if_pos (by decide +kernel)]; kernel_rfl) | (rw [if_neg (by decide +kernel)]; exact ⟨rfl, rfl⟩))
    (fun os started H enc _ => lifted os started H enc)
theorem card : Claim7.holds Tryd.pinned (.plain (OpenSpec.ofChange Rows.fnExactBanReadSpec)) Rows.fnExactBanReadCard :=
  Claim7.holds_tied_plain_at .later [] [.data, .data, .data, .data, .sentinel, .sentinel, .pinned] true (true, "18078221071e102810635311980380e00da414f8cab881d8fbc3d5656a3db903") true over (fun _ h => by cases h) (by kernel_rfl) (fun _ h => by cases h) fnExactBanRead_row_tie rfl ⟨rfl, rfl⟩ (by kernel_rfl) rfl
    (fun f fn hf hfn => by
      obtain rfl : f = 8 := Option.some.inj ((show Tryd.prog.funcNamed "loop.example/g00239/laws.FnExactBanRead" = some 8 by kernel_rfl).symm.trans hf) |>.symm
      obtain rfl : fn = Tryd.f8 := (Option.some.inj (Tryd.func8.symm.trans hfn)).symm
      exact ⟨by kernel_rfl, fun j t ht => by
        rw [Tryd.params8] at ht
        have hm : t ∈ [9] := by simpa using Array.mem_of_getElem? ht
        have hall : ([9].all fun u => !Tryd.prog.wantsStandIn u) = true := by kernel_rfl
        exact (show Tryd.prog.wantsStandIn t = false by simpa using List.all_eq_true.1 hall t hm)⟩)
    (by kernel_rfl)
end Go.Proofs.YtcldaglhkhfhaaaDoor.fnExactBanRead
namespace Go.Proofs.YtcldaglhkhfhaaaDoor
/-- The tied card, under a short name, for the claim. -/
theorem fnExactBanRead_holds : Rows.FnExactBanReadCardSaid := fnExactBanRead.card
#print axioms fnExactBanRead_holds
end Go.Proofs.YtcldaglhkhfhaaaDoor
