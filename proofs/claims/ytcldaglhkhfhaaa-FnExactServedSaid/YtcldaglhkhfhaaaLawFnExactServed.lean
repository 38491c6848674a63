/- The statement FnExactServed of this seat's rows is proved; no conditions. -/
import Derived.Test.YtcldaglhkhfhaaaRows
import Derived.Test.YtcldaglhkhfhaaaTold
import Derived.Test.YtcldaglhkhfhaaaCona
import Derived.WalkKit
import Derived.ProofKit
import Derived.OpenShut
import Derived.ChangeOld
import Derived.SizedLaws
set_option linter.unusedSectionVars false
namespace Go.Proofs.Ytcldaglhkhfhaaa.fnExactServed
open Go.ChangeShapes Go.WideShapes Go.ChangeAt Go.RowKit
set_option linter.unusedVariables false
theorem own : ownKnob Try.prog.godebug = none := by kernel_rfl
theorem tys : Try.f5.params.toList.map (M.argT Try.prog) = [M.ArgT.agg M.tCa, M.ArgT.one (.int .i64)].map some := by kernel_rfl
theorem ac (W : World) : ∀ xs, M.ConfAs [M.ArgT.agg M.tCa, M.ArgT.one (.int .i64)] xs → @M.AC ⟨W⟩ Try.prog 5 xs fun r _ => r = .bool true := by
  intro xs hx
  obtain ⟨x0, xs0, rfl, h0, hx0⟩ := M.confAs_cons hx
  obtain ⟨a0, rfl, k0⟩ := M.conf_Ca h0
  obtain ⟨x1, xs1, rfl, h1, hx1⟩ := M.confAs_cons hx0
  obtain ⟨a1, rfl, k1⟩ := M.conf_int (M.confA_one h1)
  obtain rfl := M.confAs_nil hx1
  letI : M.Bs := ⟨W⟩
  obtain ⟨ps, he⟩ := M.law_FnExactServed (a0) (k0) (a1) (k1) 
  exact (M.ev_sound (L := M.LI) (T := M.TT) M.LI_sound M.TT_ok _ _ _ he).mono fun r ps h => h.1
set_option maxRecDepth 100000 in
theorem lifted (os : Os) (started : os.Started) (H : Type) (enc : TypeId × Value → H) :
    ReturnsInHanded {} Try.checked os 5 .any (Rows.fnExactServedSpec.pre6 enc Try.prog Try.f5 Rows.fnExactServedRow.domain false) (Rows.fnExactServedSpec.post enc Try.prog Try.f5 false true false false) := by
  refine returnsInHanded_of_change_sized (C := Try.checked) own started (by kernel_rfl) Try.func5
    (ChangeSpec.witness6 (enc := enc) (C := Try.checked) false ⟨#[], #[.agg #[.slice none 0 0, .slice none 0 0, .slice none 0 0, .slice none 0 0, .int .i64 0, .int .i64 0, .slice none 0 0, .int .i64 0, .slice none 0 0, .slice none 0 0], .int .i64 0], []⟩ 8 (by kernel_rfl) (by kernel_rfl) (by kernel_rfl) (by kernel_rfl)) ?_
  intro W base args ds gs before hval0 hW hcnd hsz0 _
  have hW' := hW
  obtain ⟨p, q, hA0, hV, rfl, hfz, hnd⟩ := hW
  obtain ⟨rfl, rfl⟩ := trodVars_none hV
  have hval : ∀ (j : Nat) t v, Try.f5.params.toList[j]? = some t → args.toList[j]? = some v → Value.okWide Try.prog W .any base t v := fun j t v h1 h2 => hval0 j t v (by simpa using h1) (by simpa using h2)
  have h := M.calls_of_ac tys hval hA0 (ac W)
  rw [Array.toArray_toList] at h
  refine h.mono fun e W' ⟨he, bel⟩ => ?_
  subst he
  have hA1 := M.trodAll_after bel tys hA0
  obtain ⟨v0, vs0, d0, ds0, p0, q0, hargs0, rfl, rfl, t0, r0⟩ := trodAll_cons hA0
  obtain ⟨v1, vs1, d1, ds1, p1, q1, hargs1, rfl, rfl, t1, r1⟩ := trodAll_cons r0
  obtain ⟨rfl, rfl, rfl⟩ := trodAll_nil r1
  exact ⟨_, rfl, _, _, _, [], _, [], hW', trodAll_mk1 (shut_bool Try.underlying4 _), hA1, rfl, bel.frame _, fun h => by cases h⟩
theorem over : Rows.fnExactServedRow.holds Try.pinned (OpenSpec.ofChange Rows.fnExactServedSpec) :=
  OpenClaim.holds_of_wide 5 Try.f5 rfl rfl rfl rfl rfl rfl rfl ⟨rfl, rfl, rfl, rfl, rfl⟩ rfl rfl rfl rfl rfl (by kernel_rfl) Try.func5 (by kernel_rfl)
    (of_decide_eq_true (by kernel_rfl)) (by unfold Func.isWrapper; first | (rw [if_pos (by decide +kernel)]; kernel_rfl) | (rw [if_neg (by decide +kernel)]; exact ⟨rfl, rfl⟩))
    (fun os started H enc _ => lifted os started H enc)
end Go.Proofs.Ytcldaglhkhfhaaa.fnExactServed
namespace Go.Proofs.Ytcldaglhkhfhaaa
/-- The row, under a short name, for the claim. -/
theorem fnExactServed_holds : Rows.FnExactServedSaid := fnExactServed.over
#print axioms fnExactServed_holds
end Go.Proofs.Ytcldaglhkhfhaaa
