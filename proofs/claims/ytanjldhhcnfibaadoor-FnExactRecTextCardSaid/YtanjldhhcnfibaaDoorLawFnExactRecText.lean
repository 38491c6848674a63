/- The statement FnExactRecText of this seat's rows is proved; no conditions. -/
import Derived.Test.YtanjldhhcnfibaaDoorTie
import Derived.Test.YtanjldhhcnfibaaDoorCards
import Derived.Test.YtanjldhhcnfibaaDoorTold
import Derived.Test.YtanjldhhcnfibaaDoorCona
import Derived.Test.YtanjldhhcnfibaaDoorMc
import Derived.WalkKit
import Derived.ProofKit
import Derived.OpenShut
import Derived.Handy
import Derived.Lay
import Derived.ChangeOld
import Derived.SizedLaws
import Derived.SevenTiedAt
set_option linter.unusedSectionVars false
namespace Go.Proofs.YtanjldhhcnfibaaDoor.fnExactRecText
open Go.ChangeShapes Go.WideShapes Go.ChangeAt Go.RowKit
set_option linter.unusedVariables false
theorem own : ownKnob Tryd.prog.godebug = none := by kernel_rfl
theorem tys : Tryd.f3.params.toList.map (M.argT Tryd.prog) = [M.ArgT.one (.int .i64), M.ArgT.one .str].map some := by kernel_rfl
theorem ac (W : World) (htab : Lib.TabIs Tryd.prog W "internal/strconv.uint64pow10" .u64 Lib.pow10Tab) : ∀ xs, M.ConfAs [M.ArgT.one (.int .i64), M.ArgT.one .str] xs → @M.AC ⟨W⟩ Tryd.prog 3 xs fun r _ => r = .bool true := by
  intro xs hx
  obtain ⟨x0, xs0, rfl, h0, hx0⟩ := M.confAs_cons hx
  obtain ⟨a0, rfl, k0⟩ := M.conf_int (M.confA_one h0)
  obtain ⟨x1, xs1, rfl, h1, hx1⟩ := M.confAs_cons hx0
  obtain ⟨a1, rfl, k1⟩ := M.conf_str (M.confA_one h1)
  obtain rfl := M.confAs_nil hx1
  letI : M.Bs := ⟨W⟩
  obtain ⟨ps, he⟩ := M.law_FnExactRecText (a0) (k0) (a1) (k1)
  exact (M.ev_sound (L := M.LI) (T := M.TT) (M.LI_sound htab) M.TT_ok _ _ _ he).mono fun r ps h => h.1
theorem tab {W : World} (h : laidMetH Tryd.prog Rows.fnExactRecTextRow.laid W) : Lib.TabIs Tryd.prog W "internal/strconv.uint64pow10" .u64 Lib.pow10Tab := by
  rw [MakeChecks.laidMetH_plain _ _ _ (by kernel_rfl)] at h
  obtain ⟨ps, h, _⟩ := h
  exact M.tabIs_of_mem (g := 0) (t := 37) (e := 30) (n := 20) (by kernel_rfl) (by kernel_rfl) Tryd.underlying37 Tryd.underlying30 (by kernel_rfl) (by kernel_rfl) h (by unfold Rows.fnExactRecTextRow; exact List.mem_cons_of_mem _ (List.mem_cons_of_mem _ (List.mem_cons_self ..)))
set_option maxRecDepth 100000 in
theorem lifted (os : Os) (started : os.Started) (H : Type) (enc : TypeId × Value → H) :
    ReturnsInHanded {} Tryd.checked os 3 .any (fun w args => (Rows.fnExactRecTextSpec.pre enc Tryd.prog Tryd.f3 Rows.fnExactRecTextRow.domain false w args ∧ laidMetH Tryd.prog Rows.fnExactRecTextRow.laid w) ∧ sizedMet enc Tryd.prog Tryd.f3 (OpenSpec.ofChange Rows.fnExactRecTextSpec) false w args)
      (Rows.fnExactRecTextSpec.post enc Tryd.prog Tryd.f3 false true false false) := by
  refine returnsInHanded_of_change_and (C := Tryd.checked) (X := fun w _ => laidMetH Tryd.prog Rows.fnExactRecTextRow.laid w) (fun _ _ _ hh h => h.of_heap hh) own started (by kernel_rfl) Tryd.func3
    (ChangeSpec.witness_shaped (enc := enc) (C := Tryd.checked) (os := os) (X := fun w _ => laidMetH Tryd.prog Rows.fnExactRecTextRow.laid w) false (World.laidAll Tryd.prog os Rows.fnExactRecTextRow.laid) #[.int .i64 0, .string ByteArray.empty] 8 (World.laidAll_os _ _ _)
      (World.shaped_of_ZipB (by kernel_rfl) (by kernel_rfl)) (by kernel_rfl) (by kernel_rfl) (by kernel_rfl)
      (by rw [MakeChecks.laidMetH_plain _ _ _ (by kernel_rfl)]; exact laidMet_laidAll _ (by kernel_rfl) (by kernel_rfl))) ?_
  intro W base args ds gs before hval0 hW hcnd hsz0 hL _
  have hW' := hW
  obtain ⟨p, q, hA0, hV, rfl, hfz, hnd⟩ := hW
  obtain ⟨rfl, rfl⟩ := trodVars_none hV
  have hval : ∀ (j : Nat) t v, Tryd.f3.params.toList[j]? = some t → args.toList[j]? = some v → Value.okWide Tryd.prog W .any base t v := fun j t v h1 h2 => hval0 j t v (by simpa using h1) (by simpa using h2)
  have h := M.calls_of_ac tys hval hA0 (ac W (tab hL))
  rw [Array.toArray_toList] at h
  refine h.mono fun e W' ⟨he, bel⟩ => ?_
  subst he
  have hA1 := M.trodAll_after bel tys hA0
  obtain ⟨v0, vs0, d0, ds0, p0, q0, hargs0, rfl, rfl, t0, r0⟩ := trodAll_cons hA0
  obtain ⟨v1, vs1, d1, ds1, p1, q1, hargs1, rfl, rfl, t1, r1⟩ := trodAll_cons r0
  obtain ⟨rfl, rfl, rfl⟩ := trodAll_nil r1
  exact ⟨_, rfl, _, _, _, [], _, [], hW', trodAll_mk1 (shut_bool Tryd.underlying4 _), hA1, rfl, bel.frame _, fun h => by cases h⟩
theorem over : Rows.fnExactRecTextRow.holds Tryd.pinned (OpenSpec.ofChange Rows.fnExactRecTextSpec) :=
  OpenClaim.holds_of_wide 3 Tryd.f3 rfl rfl rfl rfl rfl rfl rfl ⟨rfl, rfl, rfl, rfl, rfl⟩ rfl rfl rfl rfl rfl (by kernel_rfl) Tryd.func3 (by kernel_rfl)
    (of_decide_eq_true (by kernel_rfl)) (by unfold Func.isWrapper; first | (rw [if_pos (by decide +kernel)]; kernel_rfl) | (rw [if_neg (by decide +kernel)]; exact ⟨rfl, rfl⟩))
    (fun os started H enc _ => lifted os started H enc)
theorem card : Claim7.holds Tryd.pinned (.plain (OpenSpec.ofChange Rows.fnExactRecTextSpec)) Rows.fnExactRecTextCard :=
  Claim7.holds_tied_plain_at .later [] [.data, .data, .data] true (true, "22b10878bf7a73d56f255be7306e41ad63d5e8efe60c281b43a891aa8da7cf2c") false over (fun _ h => by cases h) (by kernel_rfl) (fun _ h => by cases h) fnExactRecText_row_tie rfl ⟨rfl, rfl⟩ (by kernel_rfl) rfl
    (fun f fn hf hfn => by
      obtain rfl : f = 3 := Option.some.inj ((show Tryd.prog.funcNamed "loop.example/g00239/laws.FnExactRecText" = some 3 by kernel_rfl).symm.trans hf) |>.symm
      obtain rfl : fn = Tryd.f3 := (Option.some.inj (Tryd.func3.symm.trans hfn)).symm
      exact ⟨by kernel_rfl, fun j t ht => by
        rw [Tryd.params3] at ht
        have hm : t ∈ [3, 9] := by simpa using Array.mem_of_getElem? ht
        have hall : ([3, 9].all fun u => !Tryd.prog.wantsStandIn u) = true := by kernel_rfl
        exact (show Tryd.prog.wantsStandIn t = false by simpa using List.all_eq_true.1 hall t hm)⟩)
    (by kernel_rfl)
end Go.Proofs.YtanjldhhcnfibaaDoor.fnExactRecText
namespace Go.Proofs.YtanjldhhcnfibaaDoor
/-- The tied card, under a short name, for the claim. -/
theorem fnExactRecText_holds : Rows.FnExactRecTextCardSaid := fnExactRecText.card
#print axioms fnExactRecText_holds
end Go.Proofs.YtanjldhhcnfibaaDoor
