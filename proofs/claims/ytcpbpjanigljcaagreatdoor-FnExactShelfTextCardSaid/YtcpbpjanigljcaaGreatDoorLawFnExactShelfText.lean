/- The statement FnExactShelfText of this seat's rows is proved; no conditions. -/
import Derived.Test.YtcpbpjanigljcaaGreatDoorTie
import Derived.Test.YtcpbpjanigljcaaGreatDoorCards
import Derived.Test.YtcpbpjanigljcaaGreatDoorTold
import Derived.Test.YtcpbpjanigljcaaGreatDoorCona
import Derived.WalkKit
import Derived.ProofKit
import Derived.OpenShut
import Derived.Handy
import Derived.Lay
import Derived.ChangeOld
import Derived.SizedLaws
import Derived.SevenTiedAt
import Derived.Shelf.Vars
set_option linter.unusedSectionVars false
namespace Go.Proofs.YtcpbpjanigljcaaGreatDoor.fnExactShelfText
open Go.ChangeShapes Go.WideShapes Go.ChangeAt Go.RowKit
set_option linter.unusedVariables false
theorem own : ownKnob Tryz.prog.godebug = none := by kernel_rfl
theorem tys : Tryz.f4.params.toList.map (M.argT Tryz.prog) = [M.ArgT.agg M.tSh].map some := by kernel_rfl
theorem ac (W : World) (htab : Lib.TabIs Tryz.prog W "internal/strconv.uint64pow10" .u64 Lib.pow10Tab) (hmax : ∃ m, W.cell? ⟨0, 0, none⟩ = some (.int .i64 m)) : ∀ xs, M.ConfAs [M.ArgT.agg M.tSh] xs → @M.AC ⟨W⟩ Tryz.prog 4 xs fun r _ => r = .bool true := by
  intro xs hx
  obtain ⟨x0, xs0, rfl, h0, hx0⟩ := M.confAs_cons hx
  obtain ⟨a0, rfl, k0⟩ := M.conf_Sh h0
  obtain rfl := M.confAs_nil hx0
  letI : M.Bs := ⟨W⟩
  obtain ⟨ps, he⟩ := M.law_FnExactShelfText (a0) (k0)
  exact (M.ev_sound (L := M.LI) (T := M.TT) (M.LI_sound htab hmax) M.TT_ok _ _ _ he).mono fun r ps h => h.1
theorem tab {W : World} (h : laidMetH Tryz.prog Rows.fnExactShelfTextRow.laid W) : Lib.TabIs Tryz.prog W "internal/strconv.uint64pow10" .u64 Lib.pow10Tab := by
  rw [MakeChecks.laidMetH_plain _ _ _ (by kernel_rfl)] at h
  obtain ⟨ps, h, _⟩ := h
  exact M.tabIs_of_mem (g := 1) (t := 229) (e := 214) (n := 20) (by kernel_rfl) (by kernel_rfl) Tryz.underlying229 Tryz.underlying214 (by kernel_rfl) (by kernel_rfl) h (by unfold Rows.fnExactShelfTextRow; exact List.mem_cons_of_mem _ (List.mem_cons_of_mem _ (List.mem_cons_self ..)))
theorem mx {W : World} (h : W.ShapedOpen Tryz.prog) : ∃ m, W.cell? ⟨0, 0, none⟩ = some (.int .i64 m) :=
  Go.Proofs.cell_of_shapedOpen_int (zero := #[.int .i64 0]) (t := 3) h (of_decide_eq_true (by kernel_rfl)) (by kernel_rfl) rfl (by kernel_rfl) (by kernel_rfl) Tryz.underlying3
set_option maxRecDepth 100000 in
theorem lifted (os : Os) (started : os.Started) (H : Type) (enc : TypeId × Value → H) :
    ReturnsInHanded {} Tryz.checked os 4 .any (fun w args => (Rows.fnExactShelfTextSpec.pre enc Tryz.prog Tryz.f4 Rows.fnExactShelfTextRow.domain false w args ∧ laidMetH Tryz.prog Rows.fnExactShelfTextRow.laid w) ∧ sizedMet enc Tryz.prog Tryz.f4 (OpenSpec.ofChange Rows.fnExactShelfTextSpec) false w args)
      (Rows.fnExactShelfTextSpec.post enc Tryz.prog Tryz.f4 false true false false) := by
  refine returnsInHanded_of_change_and_shaped (C := Tryz.checked) (X := fun w _ => laidMetH Tryz.prog Rows.fnExactShelfTextRow.laid w) (fun _ _ _ hh h => h.of_heap hh) own started (by kernel_rfl) Tryz.func4
    (ChangeSpec.witness_shaped (enc := enc) (C := Tryz.checked) (os := os) (X := fun w _ => laidMetH Tryz.prog Rows.fnExactShelfTextRow.laid w) false (World.laidAll Tryz.prog os Rows.fnExactShelfTextRow.laid) #[.agg #[.slice none 0 0, .slice none 0 0, .slice none 0 0, .slice none 0 0, .int .i64 0, .int .i64 0]] 8 (World.laidAll_os _ _ _)
      (World.shaped_of_ZipB (by kernel_rfl) (by kernel_rfl)) (by kernel_rfl) (by kernel_rfl) (by kernel_rfl)
      (by rw [MakeChecks.laidMetH_plain _ _ _ (by kernel_rfl)]; exact laidMet_laidAll _ (by kernel_rfl) (by kernel_rfl))) ?_
  intro W base args ds gs before hval0 hW hcnd hsz0 hL hsh _
  have hW' := hW
  obtain ⟨p, q, hA0, hV, rfl, hfz, hnd⟩ := hW
  obtain ⟨rfl, rfl⟩ := trodVars_none hV
  have hval : ∀ (j : Nat) t v, Tryz.f4.params.toList[j]? = some t → args.toList[j]? = some v → Value.okWide Tryz.prog W .any base t v := fun j t v h1 h2 => hval0 j t v (by simpa using h1) (by simpa using h2)
  have h := M.calls_of_ac tys hval hA0 (ac W (tab hL) (mx hsh))
  rw [Array.toArray_toList] at h
  refine h.mono fun e W' ⟨he, bel⟩ => ?_
  subst he
  have hA1 := M.trodAll_after bel tys hA0
  obtain ⟨v0, vs0, d0, ds0, p0, q0, hargs0, rfl, rfl, t0, r0⟩ := trodAll_cons hA0
  obtain ⟨rfl, rfl, rfl⟩ := trodAll_nil r0
  exact ⟨_, rfl, _, _, _, [], _, [], hW', trodAll_mk1 (shut_bool Tryz.underlying4 _), hA1, rfl, bel.frame _, fun h => by cases h⟩
theorem over : Rows.fnExactShelfTextRow.holds Tryz.pinned (OpenSpec.ofChange Rows.fnExactShelfTextSpec) :=
  OpenClaim.holds_of_wide 4 Tryz.f4 rfl rfl rfl rfl rfl rfl rfl ⟨rfl, rfl, rfl, rfl, rfl⟩ rfl rfl rfl rfl rfl (by kernel_rfl) Tryz.func4 (by kernel_rfl)
    (of_decide_eq_true (by kernel_rfl)) (by unfold Func.isWrapper; first | (rw [if_pos (by decide +kernel)]; kernel_rfl) | (rw [if_neg (by decide +kernel)]; exact ⟨rfl, rfl⟩))
    (fun os started H enc _ => lifted os started H enc)
theorem card : Claim7.holds Tryz.pinned (.plain (OpenSpec.ofChange Rows.fnExactShelfTextSpec)) Rows.fnExactShelfTextCard :=
  Claim7.holds_tied_plain_at .later [] [.data, .data, .data, .data, .pinned] true (true, "7275d7cbadffa7d90b2b4a4cd593bd03fd2a998c6f6ac2927852b176b31c51a6") true over (fun _ h => by cases h) (by kernel_rfl) (fun _ h => by cases h) fnExactShelfText_row_tie rfl ⟨rfl, rfl⟩ (by kernel_rfl) rfl
    (fun f fn hf hfn => by
      obtain rfl : f = 4 := Option.some.inj ((show Tryz.prog.funcNamed "loop.example/g00239/laws.FnExactShelfText" = some 4 by kernel_rfl).symm.trans hf) |>.symm
      obtain rfl : fn = Tryz.f4 := (Option.some.inj (Tryz.func4.symm.trans hfn)).symm
      exact ⟨by kernel_rfl, fun j t ht => by
        rw [Tryz.params4] at ht
        have hm : t ∈ [39] := by simpa using Array.mem_of_getElem? ht
        have hall : ([39].all fun u => !Tryz.prog.wantsStandIn u) = true := by kernel_rfl
        exact (show Tryz.prog.wantsStandIn t = false by simpa using List.all_eq_true.1 hall t hm)⟩)
    (by kernel_rfl)
end Go.Proofs.YtcpbpjanigljcaaGreatDoor.fnExactShelfText
namespace Go.Proofs.YtcpbpjanigljcaaGreatDoor
/-- The tied card, under a short name, for the claim. -/
theorem fnExactShelfText_holds : Rows.FnExactShelfTextCardSaid := fnExactShelfText.card
#print axioms fnExactShelfText_holds
end Go.Proofs.YtcpbpjanigljcaaGreatDoor
