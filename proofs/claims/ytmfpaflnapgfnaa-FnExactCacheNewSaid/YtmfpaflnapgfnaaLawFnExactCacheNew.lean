/- The statement FnExactCacheNew of this seat's rows is proved; no conditions. -/
import Derived.Test.YtmfpaflnapgfnaaRows
import Derived.Test.YtmfpaflnapgfnaaTold
import Derived.Test.YtmfpaflnapgfnaaCona
import Derived.WalkKit
import Derived.ProofKit
import Derived.OpenShut
import Derived.ChangeOld
import Derived.SizedLaws
namespace Go.Proofs.Ytmfpaflnapgfnaa.fnExactCacheNew
open Go.ChangeShapes Go.WideShapes Go.ChangeAt Go.RowKit
set_option linter.unusedVariables false
theorem own : ownKnob Try.prog.godebug = none := by kernel_rfl
theorem tys : Try.f5.params.toList.map (M.argT Try.prog) = [].map some := by kernel_rfl
theorem ac (W : World) : ∀ xs, M.ConfAs [] xs → @M.AC ⟨W⟩ Try.prog 5 xs fun r _ => r = .bool true := by
  intro xs hx
  obtain rfl := M.confAs_nil hx
  letI : M.Bs := ⟨W⟩
  obtain ⟨ps, he⟩ := M.law_FnExactCacheNew 
  exact (M.ev_sound (L := M.L0) (T := M.TT) M.L0_sound M.TT_ok _ _ _ he).mono fun r ps h => h.1
set_option maxRecDepth 100000 in
theorem lifted (os : Os) (started : os.Started) (H : Type) (enc : TypeId × Value → H) :
    ReturnsInHanded {} Try.checked os 5 .any (Rows.fnExactCacheNewSpec.pre6 enc Try.prog Try.f5 Rows.fnExactCacheNewRow.domain false) (Rows.fnExactCacheNewSpec.post enc Try.prog Try.f5 false true false false) := by
  refine returnsInHanded_of_change_sized (C := Try.checked) own started (by kernel_rfl) Try.func5
    (ChangeSpec.witness6 (enc := enc) (C := Try.checked) false ⟨#[], #[], []⟩ 8 (by kernel_rfl) (by kernel_rfl) (by kernel_rfl) (by kernel_rfl)) ?_
  intro W base args ds gs before hval0 hW hcnd hsz0 _
  have hW' := hW
  obtain ⟨p, q, hA0, hV, rfl, hfz, hnd⟩ := hW
  obtain ⟨rfl, rfl⟩ := trodVars_none hV
  have hval : ∀ (j : Nat) t v, Try.f5.params.toList[j]? = some t → args.toList[j]? = some v → Value.okWide Try.prog W .any base t v := fun j t v h1 h2 => by simp at h1
  have h := M.calls_of_ac tys hval hA0 (ac W)
  rw [Array.toArray_toList] at h
  refine h.mono fun e W' ⟨he, bel⟩ => ?_
  subst he
  have hA1 := M.trodAll_after bel tys hA0
  obtain ⟨rfl, rfl, rfl⟩ := trodAll_none hA0
  exact ⟨_, rfl, _, _, _, [], _, [], hW', trodAll_mk1 (shut_bool Try.underlying4 _), hA1, rfl, bel.frame _, fun h => by cases h⟩
theorem over : Rows.fnExactCacheNewRow.holds Try.pinned (OpenSpec.ofChange Rows.fnExactCacheNewSpec) :=
  OpenClaim.holds_of_wide 5 Try.f5 rfl rfl rfl rfl rfl rfl rfl ⟨rfl, rfl, rfl, rfl, rfl⟩ rfl rfl rfl rfl rfl (by kernel_rfl) Try.func5 (by kernel_rfl)
    (of_decide_eq_true (by kernel_rfl)) (by unfold Func.isWrapper; first | (rw [if_pos (by decide +kernel)]; kernel_rfl) | (rw [if_neg (by decide +kernel)]; exact ⟨rfl, rfl⟩))
    (fun os started H enc _ => lifted os started H enc)
end Go.Proofs.Ytmfpaflnapgfnaa.fnExactCacheNew
namespace Go.Proofs.Ytmfpaflnapgfnaa
/-- The row, under a short name, for the claim. -/
theorem fnExactCacheNew_holds : Rows.FnExactCacheNewSaid := fnExactCacheNew.over
#print axioms fnExactCacheNew_holds
end Go.Proofs.Ytmfpaflnapgfnaa
