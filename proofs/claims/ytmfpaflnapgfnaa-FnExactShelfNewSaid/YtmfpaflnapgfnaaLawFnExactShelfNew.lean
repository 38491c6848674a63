/- The statement FnExactShelfNew of this seat's rows is proved; no conditions. -/
import Derived.Test.YtmfpaflnapgfnaaRows
import Derived.Test.YtmfpaflnapgfnaaTold
import Derived.Test.YtmfpaflnapgfnaaCona
import Derived.WalkKit
import Derived.ProofKit
import Derived.OpenShut
import Derived.ChangeOld
import Derived.SizedLaws
namespace Go.Proofs.Ytmfpaflnapgfnaa.fnExactShelfNew
open Go.ChangeShapes Go.WideShapes Go.ChangeAt Go.RowKit
set_option linter.unusedVariables false
theorem own : ownKnob Try.prog.godebug = none := by kernel_rfl
theorem tys : Try.f3.params.toList.map (M.argT Try.prog) = [].map some := by kernel_rfl
theorem ac (W : World) : ∀ xs, M.ConfAs [] xs → @M.AC ⟨W⟩ Try.prog 3 xs fun r _ => r = .bool true := by
  intro xs hx
  obtain rfl := M.confAs_nil hx
  letI : M.Bs := ⟨W⟩
  obtain ⟨ps, he⟩ := M.law_FnExactShelfNew 
  exact (M.ev_sound (L := M.L0) (T := M.TT) M.L0_sound M.TT_ok _ _ _ he).mono fun r ps h => h.1
set_option maxRecDepth 100000 in
theorem lifted (os : Os) (started : os.Started) (H : Type) (enc : TypeId × Value → H) :
    ReturnsInHanded {} Try.checked os 3 .any (Rows.fnExactShelfNewSpec.pre6 enc Try.prog Try.f3 Rows.fnExactShelfNewRow.domain false) (Rows.fnExactShelfNewSpec.post enc Try.prog Try.f3 false true false false) := by
  refine returnsInHanded_of_change_sized (C := Try.checked) own started (by kernel_rfl) Try.func3
    (ChangeSpec.witness6 (enc := enc) (C := Try.checked) false ⟨#[], #[], []⟩ 8 (by kernel_rfl) (by kernel_rfl) (by kernel_rfl) (by kernel_rfl)) ?_
  intro W base args ds gs before hval0 hW hcnd hsz0 _
  have hW' := hW
  obtain ⟨p, q, hA0, hV, rfl, hfz, hnd⟩ := hW
  obtain ⟨rfl, rfl⟩ := trodVars_none hV
  have hval : ∀ (j : Nat) t v, Try.f3.params.toList[j]? = some t → args.toList[j]? = some v → Value.okWide Try.prog W .any base t v := fun j t v h1 h2 => by simp at h1
  have h := M.calls_of_ac tys hval hA0 (ac W)
  rw [Array.toArray_toList] at h
  refine h.mono fun e W' ⟨he, bel⟩ => ?_
  subst he
  have hA1 := M.trodAll_after bel tys hA0
  obtain ⟨rfl, rfl, rfl⟩ := trodAll_none hA0
  exact ⟨_, rfl, _, _, _, [], _, [], hW', trodAll_mk1 (shut_bool Try.underlying4 _), hA1, rfl, bel.frame _, fun h => by cases h⟩
theorem over : Rows.fnExactShelfNewRow.holds Try.pinned (OpenSpec.ofChange Rows.fnExactShelfNewSpec) :=
  OpenClaim.holds_of_wide 3 Try.f3 rfl rfl rfl rfl rfl rfl rfl ⟨rfl, rfl, rfl, rfl, rfl⟩ rfl rfl rfl rfl rfl (by kernel_rfl) Try.func3 (by kernel_rfl)
    (of_decide_eq_true (by kernel_rfl)) (by unfold Func.isWrapper; first | (rw [if_pos (by decide +kernel)]; kernel_rfl) | (rw [if_neg (by decide +kernel)]; exact ⟨rfl, rfl⟩))
    (fun os started H enc _ => lifted os started H enc)
end Go.Proofs.Ytmfpaflnapgfnaa.fnExactShelfNew
namespace Go.Proofs.Ytmfpaflnapgfnaa
/-- The row, under a short name, for the claim. -/
theorem fnExactShelfNew_holds : Rows.FnExactShelfNewSaid := fnExactShelfNew.over
#print axioms fnExactShelfNew_holds
end Go.Proofs.Ytmfpaflnapgfnaa
