/- The statement FnExactWaiting of this seat's rows is proved; no conditions. -/
import Derived.Test.YtcldaglhkhfhaaaRows
import Derived.Test.YtcldaglhkhfhaaaTold
import Derived.Test.YtcldaglhkhfhaaaCona
import Derived.WalkKit
import Derived.ProofKit
import Derived.OpenShut
import Derived.ChangeOld
import Derived.SizedLaws
set_option linter.unusedSectionVars false
namespace Go.Proofs.Ytcldaglhkhfhaaa.fnExactWaiting
open Go.ChangeShapes Go.WideShapes Go.ChangeAt Go.RowKit
set_option linter.unusedVariables false
theorem own : ownKnob Try.prog.godebug = none := by kernel_rfl
theorem tys : Try.f4.params.toList.map (M.argT Try.prog) = [M.ArgT.agg M.tCa].map some := by kernel_rfl
theorem ac (W : World) : ∀ xs, M.ConfAs [M.ArgT.agg M.tCa] xs → @M.AC ⟨W⟩ Try.prog 4 xs fun r _ => r = .bool true := by
  intro xs hx
  obtain ⟨x0, xs0, rfl, h0, hx0⟩ := M.confAs_cons hx
  obtain ⟨a0, rfl, k0⟩ := M.conf_Ca h0
  obtain rfl := M.confAs_nil hx0
  letI : M.Bs := ⟨W⟩
  obtain ⟨ps, he⟩ := M.law_FnExactWaiting (a0) (k0) 
  exact (M.ev_sound (L := M.LI) (T := M.TT) M.LI_sound M.TT_ok _ _ _ he).mono fun r ps h => h.1
set_option maxRecDepth 100000 in
theorem lifted (os : Os) (started : os.Started) (H : Type) (enc : TypeId × Value → H) :
    ReturnsInHanded {} Try.checked os 4 .any (Rows.fnExactWaitingSpec.pre6 enc Try.prog Try.f4 Rows.fnExactWaitingRow.domain false) (Rows.fnExactWaitingSpec.post enc Try.prog Try.f4 false true false false) := by
  refine returnsInHanded_of_change_sized (C := Try.checked) own started (by kernel_rfl) Try.func4
    (ChangeSpec.witness6 (enc := enc) (C := Try.checked) false ⟨#[], #[.agg #[.slice none 0 0, .slice none 0 0, .slice none 0 0, .slice none 0 0, .int .i64 0, .int .i64 0, .slice none 0 0, .int .i64 0, .slice none 0 0, .slice none 0 0]], []⟩ 8 (by kernel_rfl) (by kernel_rfl) (by kernel_rfl) (by kernel_rfl)) ?_
  intro W base args ds gs before hval0 hW hcnd hsz0 _
  have hW' := hW
  obtain ⟨p, q, hA0, hV, rfl, hfz, hnd⟩ := hW
  obtain ⟨rfl, rfl⟩ := trodVars_none hV
  have hval : ∀ (j : Nat) t v, Try.f4.params.toList[j]? = some t → args.toList[j]? = some v → Value.okWide Try.prog W .any base t v := fun j t v h1 h2 => hval0 j t v (by simpa using h1) (by simpa using h2)
  have h := M.calls_of_ac tys hval hA0 (ac W)
  rw [Array.toArray_toList] at h
  refine h.mono fun e W' ⟨he, bel⟩ => ?_
  subst he
  have hA1 := M.trodAll_after bel tys hA0
  obtain ⟨v0, vs0, d0, ds0, p0, q0, hargs0, rfl, rfl, t0, r0⟩ := trodAll_cons hA0
  obtain ⟨rfl, rfl, rfl⟩ := trodAll_nil r0
  exact ⟨_, rfl, _, _, _, [], _, [], hW', trodAll_mk1 (shut_bool Try.underlying4 _), hA1, rfl, bel.frame _, fun h => by cases h⟩
theorem over : Rows.fnExactWaitingRow.holds Try.pinned (OpenSpec.ofChange Rows.fnExactWaitingSpec) :=
  OpenClaim.holds_of_wide 4 Try.f4 rfl rfl rfl rfl rfl rfl rfl ⟨rfl, rfl, rfl, rfl, rfl⟩ rfl rfl rfl rfl rfl (by kernel_rfl) Try.func4 (by kernel_rfl)
    (of_decide_eq_true (by kernel_rfl)) (by unfold Func.isWrapper; first | (rw [if_pos (by decide +kernel)]; kernel_rfl) | (rw [if_neg (by decide +kernel)]; exact ⟨rfl, rfl⟩))
    (fun os started H enc _ => lifted os started H enc)
end Go.Proofs.Ytcldaglhkhfhaaa.fnExactWaiting
namespace Go.Proofs.Ytcldaglhkhfhaaa
/-- The row, under a short name, for the claim. -/
theorem fnExactWaiting_holds : Rows.FnExactWaitingSaid := fnExactWaiting.over
#print axioms fnExactWaiting_holds
end Go.Proofs.Ytcldaglhkhfhaaa
