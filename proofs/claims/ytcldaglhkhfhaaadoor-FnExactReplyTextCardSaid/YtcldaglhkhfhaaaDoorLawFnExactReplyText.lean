/- The statement FnExactReplyText of this seat's rows is proved; no conditions. -/
import Derived.Test.YtcldaglhkhfhaaaDoorTie
import Derived.Test.YtcldaglhkhfhaaaDoorCards
import Derived.Test.YtcldaglhkhfhaaaDoorTold
import Derived.Test.YtcldaglhkhfhaaaDoorCona
import Derived.WalkKit
import Derived.ProofKit
import Derived.OpenShut
import Derived.Handy
import Derived.Lay
import Derived.ChangeOld
import Derived.SizedLaws
import Derived.SevenTiedAt
set_option linter.unusedSectionVars false
namespace Go.Proofs.YtcldaglhkhfhaaaDoor.fnExactReplyText
open Go.ChangeShapes Go.WideShapes Go.ChangeAt Go.RowKit
set_option linter.unusedVariables false
theorem own : ownKnob Tryd.prog.godebug = none := by kernel_rfl
theorem tys : Tryd.f5.params.toList.map (M.argT Tryd.prog) = [M.ArgT.agg M.tRp].map some := by kernel_rfl
theorem ac (W : World) (htab : Lib.TabIs Tryd.prog W "internal/strconv.uint64pow10" .u64 Lib.pow10Tab) : ∀ xs, M.ConfAs [M.ArgT.agg M.tRp] xs → @M.AC ⟨W⟩ Tryd.prog 5 xs fun r _ => r = .bool true := by
  intro xs hx
  obtain ⟨x0, xs0, rfl, h0, hx0⟩ := M.confAs_cons hx
  obtain ⟨a0, rfl, k0⟩ := M.conf_Rp h0
  obtain rfl := M.confAs_nil hx0
  letI : M.Bs := ⟨W⟩
  obtain ⟨ps, he⟩ := M.law_FnExactReplyText (a0) (k0)
  exact (M.ev_sound (L := M.LI) (T := M.TT) (M.LI_sound htab) M.TT_ok _ _ _ he).mono fun r ps h => h.1
theorem tab {W : World} (h : laidMetH Tryd.prog Rows.fnExactReplyTextRow.laid W) : Lib.TabIs Tryd.prog W "internal/strconv.uint64pow10" .u64 Lib.pow10Tab := by
  rw [MakeChecks.laidMetH_plain _ _ _ (by kernel_rfl)] at h
  obtain ⟨ps, h, _⟩ := h
  exact M.tabIs_of_mem (g := 0) (t := 162) (e := 144) (n := 20) (by kernel_rfl) (by kernel_rfl) Tryd.underlying162 Tryd.underlying144 (by kernel_rfl) (by kernel_rfl) h (by unfold Rows.fnExactReplyTextRow; exact List.mem_cons_of_mem _ (List.mem_cons_of_mem _ (List.mem_cons_self ..)))
set_option maxRecDepth 100000 in
theorem lifted (os : Os) (started : os.Started) (H : Type) (enc : TypeId × Value → H) :
    ReturnsInHanded {} Tryd.checked os 5 .any (fun w args => (Rows.fnExactReplyTextSpec.pre enc Tryd.prog Tryd.f5 Rows.fnExactReplyTextRow.domain false w args ∧ laidMetH Tryd.prog Rows.fnExactReplyTextRow.laid w) ∧ sizedMet enc Tryd.prog Tryd.f5 (OpenSpec.ofChange Rows.fnExactReplyTextSpec) false w args)
      (Rows.fnExactReplyTextSpec.post enc Tryd.prog Tryd.f5 false true false false) := by
  refine returnsInHanded_of_change_and_shaped (C := Tryd.checked) (X := fun w _ => laidMetH Tryd.prog Rows.fnExactReplyTextRow.laid w) (fun _ _ _ hh h => h.of_heap hh) own started (by kernel_rfl) Tryd.func5
    (ChangeSpec.witness_shaped (enc := enc) (C := Tryd.checked) (os := os) (X := fun w _ => laidMetH Tryd.prog Rows.fnExactReplyTextRow.laid w) false (World.laidAll Tryd.prog os Rows.fnExactReplyTextRow.laid) #[.agg #[.int .i64 0, .int .i64 0, .string ByteArray.empty, .slice none 0 0, .string ByteArray.empty, .int .i64 0, .slice none 0 0, .string ByteArray.empty, .int .i64 0, .int .i64 0, .string ByteArray.empty, .slice none 0 0, .slice none 0 0, .int .i64 0, .slice none 0 0, .string ByteArray.empty, .int .i64 0, .int .i64 0]] 8 (World.laidAll_os _ _ _)
      (World.shaped_of_ZipB (by kernel_rfl) (by kernel_rfl)) (by kernel_rfl) (by kernel_rfl) (by kernel_rfl)
      (by rw [MakeChecks.laidMetH_plain _ _ _ (by kernel_rfl)]; exact laidMet_laidAll _ (by kernel_rfl) (by kernel_rfl))) ?_
  intro W base args ds gs before hval0 hW hcnd hsz0 hL hsh _
  have hW' := hW
  obtain ⟨p, q, hA0, hV, rfl, hfz, hnd⟩ := hW
  obtain ⟨rfl, rfl⟩ := trodVars_none hV
  have hval : ∀ (j : Nat) t v, Tryd.f5.params.toList[j]? = some t → args.toList[j]? = some v → Value.okWide Tryd.prog W .any base t v := fun j t v h1 h2 => hval0 j t v (by simpa using h1) (by simpa using h2)
  have h := M.calls_of_ac tys hval hA0 (ac W (tab hL))
  rw [Array.toArray_toList] at h
  refine h.mono fun e W' ⟨he, bel⟩ => ?_
  subst he
  have hA1 := M.trodAll_after bel tys hA0
  obtain ⟨v0, vs0, d0, ds0, p0, q0, hargs0, rfl, rfl, t0, r0⟩ := trodAll_cons hA0
  obtain ⟨rfl, rfl, rfl⟩ := trodAll_nil r0
  exact ⟨_, rfl, _, _, _, [], _, [], hW', trodAll_mk1 (shut_bool Tryd.underlying4 _), hA1, rfl, bel.frame _, fun h => by cases h⟩
theorem over : Rows.fnExactReplyTextRow.holds Tryd.pinned (OpenSpec.ofChange Rows.fnExactReplyTextSpec) :=
  OpenClaim.holds_of_wide 5 Tryd.f5 rfl rfl rfl rfl rfl rfl rfl ⟨rfl, rfl, rfl, rfl, rfl⟩ rfl rfl rfl rfl rfl (by kernel_rfl) Tryd.func5 (by kernel_rfl)
    (of_decide_eq_true (by kernel_rfl)) (by unfold Func.isWrapper; first | (rw [if_pos (by decide +kernel)]; kernel_rfl) | (rw [if_neg (by decide +kernel)]; exact ⟨rfl, rfl⟩))
    (fun os started H enc _ => lifted os started H enc)
theorem card : Claim7.holds Tryd.pinned (.plain (OpenSpec.ofChange Rows.fnExactReplyTextSpec)) Rows.fnExactReplyTextCard :=
  Claim7.holds_tied_plain_at .later [] [.data, .data, .data] true (true, "18078221071e102810635311980380e00da414f8cab881d8fbc3d5656a3db903") true over (fun _ h => by cases h) (by kernel_rfl) (fun _ h => by cases h) fnExactReplyText_row_tie rfl ⟨rfl, rfl⟩ (by kernel_rfl) rfl
    (fun f fn hf hfn => by
      obtain rfl : f = 5 := Option.some.inj ((show Tryd.prog.funcNamed "loop.example/g00239/laws.FnExactReplyText" = some 5 by kernel_rfl).symm.trans hf) |>.symm
      obtain rfl : fn = Tryd.f5 := (Option.some.inj (Tryd.func5.symm.trans hfn)).symm
      exact ⟨by kernel_rfl, fun j t ht => by
        rw [Tryd.params5] at ht
        have hm : t ∈ [43] := by simpa using Array.mem_of_getElem? ht
        have hall : ([43].all fun u => !Tryd.prog.wantsStandIn u) = true := by kernel_rfl
        exact (show Tryd.prog.wantsStandIn t = false by simpa using List.all_eq_true.1 hall t hm)⟩)
    (by kernel_rfl)
end Go.Proofs.YtcldaglhkhfhaaaDoor.fnExactReplyText
namespace Go.Proofs.YtcldaglhkhfhaaaDoor
/-- The tied card, under a short name, for the claim. -/
theorem fnExactReplyText_holds : Rows.FnExactReplyTextCardSaid := fnExactReplyText.card
#print axioms fnExactReplyText_holds
end Go.Proofs.YtcldaglhkhfhaaaDoor
