/- The statement FnExactAnswer of this seat's rows is proved; no conditions. -/
import Derived.Test.YtcldaglhkhfhaaaGreatDoorTie
import Derived.Test.YtcldaglhkhfhaaaGreatDoorCards
import Derived.Test.YtcldaglhkhfhaaaGreatDoorTold
import Derived.Test.YtcldaglhkhfhaaaGreatDoorCona
import Derived.WalkKit
import Derived.ProofKit
import Derived.OpenShut
import Derived.Handy
import Derived.Lay
import Derived.ChangeOld
import Derived.SizedLaws
import Derived.SevenTiedAt
import Derived.Stop.LaidErr
set_option linter.unusedSectionVars false
namespace Go.Proofs.YtcldaglhkhfhaaaGreatDoor.fnExactAnswer
open Go.ChangeShapes Go.WideShapes Go.ChangeAt Go.RowKit
set_option linter.unusedVariables false
theorem own : ownKnob Tryz.prog.godebug = none := by kernel_rfl
theorem tys : Tryz.f5.params.toList.map (M.argT Tryz.prog) = [M.ArgT.agg M.tRq, M.ArgT.agg M.tOb, M.ArgT.one (.int .i64)].map some := by kernel_rfl
theorem ac (W : World) (htab : Lib.TabIs Tryz.prog W "internal/strconv.uint64pow10" .u64 Lib.pow10Tab) (hes : ∃ te pe, W.var? Tryz.prog "strconv.ErrSyntax" = some #[.iface te pe]) (her : ∃ te pe, W.var? Tryz.prog "strconv.ErrRange" = some #[.iface te pe]) : ∀ xs, M.ConfAs [M.ArgT.agg M.tRq, M.ArgT.agg M.tOb, M.ArgT.one (.int .i64)] xs → @M.AC ⟨W⟩ Tryz.prog 5 xs fun r _ => r = .bool true := by
  intro xs hx
  obtain ⟨x0, xs0, rfl, h0, hx0⟩ := M.confAs_cons hx
  obtain ⟨a0, rfl, k0⟩ := M.conf_Rq h0
  obtain ⟨x1, xs1, rfl, h1, hx1⟩ := M.confAs_cons hx0
  obtain ⟨a1, rfl, k1⟩ := M.conf_Ob h1
  obtain ⟨x2, xs2, rfl, h2, hx2⟩ := M.confAs_cons hx1
  obtain ⟨a2, rfl, k2⟩ := M.conf_int (M.confA_one h2)
  obtain rfl := M.confAs_nil hx2
  letI : M.Bs := ⟨W⟩
  obtain ⟨ps, he⟩ := M.law_FnExactAnswer (a0) (k0) (a1) (k1) (a2) (k2)
  exact (M.ev_sound (L := M.LI) (T := M.TT) (M.LI_sound htab hes her) M.TT_ok _ _ _ he).mono fun r ps h => h.1
theorem tab {W : World} (h : laidMetH Tryz.prog Rows.fnExactAnswerRow.laid W) : Lib.TabIs Tryz.prog W "internal/strconv.uint64pow10" .u64 Lib.pow10Tab := by
  rw [MakeChecks.laidMetH_plain _ _ _ (by kernel_rfl)] at h
  obtain ⟨ps, h, _⟩ := h
  exact M.tabIs_of_mem (g := 3) (t := 218) (e := 202) (n := 20) (by kernel_rfl) (by kernel_rfl) Tryz.underlying218 Tryz.underlying202 (by kernel_rfl) (by kernel_rfl) h (by unfold Rows.fnExactAnswerRow; exact List.mem_cons_of_mem _ (List.mem_cons_of_mem _ (List.mem_cons_self ..)))
theorem star : "*" ++ "errors.errorString" = "*errors.errorString" := by decide
theorem rowE (u : TypeId) (h : Tryz.prog.typeName? 3 u = some "*errors.errorString") : u = 228 :=
  typeName_ptr_named (nm := "errors.errorString") (by rw [star]; kernel_rfl) (by kernel_rfl) (by decide) u (by rw [star]; exact h)
theorem es {W : World} (h : laidMetH Tryz.prog Rows.fnExactAnswerRow.laid W) : ∃ te pe, W.var? Tryz.prog "strconv.ErrSyntax" = some #[.iface te pe] := by
  rw [MakeChecks.laidMetH_plain _ _ _ (by kernel_rfl)] at h
  unfold Rows.fnExactAnswerRow at h
  obtain ⟨a, s, hv, -, -, -⟩ := laid_sentinel (laidMet.tail (laidMet.tail (laidMet.tail (laidMet.tail (laidMet.tail h))))) (show Tryz.prog.globalNamed "strconv.ErrSyntax" = some 1 by kernel_rfl) (show (Tryz.prog.globals[1]?).map (·.type) = some 152 by kernel_rfl) Tryz.underlying152 rowE Tryz.underlying228 Tryz.underlying230 rfl rfl Tryz.underlying9 (by kernel_rfl) (by kernel_rfl)
  exact ⟨_, _, hv⟩
theorem er {W : World} (h : laidMetH Tryz.prog Rows.fnExactAnswerRow.laid W) : ∃ te pe, W.var? Tryz.prog "strconv.ErrRange" = some #[.iface te pe] := by
  rw [MakeChecks.laidMetH_plain _ _ _ (by kernel_rfl)] at h
  unfold Rows.fnExactAnswerRow at h
  obtain ⟨a, s, hv, -, -, -⟩ := laid_sentinel (laidMet.tail (laidMet.tail (laidMet.tail (laidMet.tail h)))) (show Tryz.prog.globalNamed "strconv.ErrRange" = some 2 by kernel_rfl) (show (Tryz.prog.globals[2]?).map (·.type) = some 152 by kernel_rfl) Tryz.underlying152 rowE Tryz.underlying228 Tryz.underlying230 rfl rfl Tryz.underlying9 (by kernel_rfl) (by kernel_rfl)
  exact ⟨_, _, hv⟩
set_option maxRecDepth 100000 in
theorem lifted (os : Os) (started : os.Started) (H : Type) (enc : TypeId × Value → H) :
    ReturnsInHanded {} Tryz.checked os 5 .any (fun w args => (Rows.fnExactAnswerSpec.pre enc Tryz.prog Tryz.f5 Rows.fnExactAnswerRow.domain false w args ∧ laidMetH Tryz.prog Rows.fnExactAnswerRow.laid w) ∧ sizedMet enc Tryz.prog Tryz.f5 (OpenSpec.ofChange Rows.fnExactAnswerSpec) false w args)
      (Rows.fnExactAnswerSpec.post enc Tryz.prog Tryz.f5 false true false false) := by
  refine returnsInHanded_of_change_and_shaped (C := Tryz.checked) (X := fun w _ => laidMetH Tryz.prog Rows.fnExactAnswerRow.laid w) (fun _ _ _ hh h => h.of_heap hh) own started (by kernel_rfl) Tryz.func5
    (ChangeSpec.witness_shaped (enc := enc) (C := Tryz.checked) (os := os) (X := fun w _ => laidMetH Tryz.prog Rows.fnExactAnswerRow.laid w) false (World.laidAll Tryz.prog os Rows.fnExactAnswerRow.laid) #[.agg #[.int .i64 0, .string ByteArray.empty, .slice none 0 0, .string ByteArray.empty], .agg #[.string ByteArray.empty, .slice none 0 0, .slice none 0 0, .int .i64 0, .slice none 0 0, .string ByteArray.empty, .int .i64 0], .int .i64 0] 8 (World.laidAll_os _ _ _)
      (World.shaped_of_ZipB (by kernel_rfl) (by kernel_rfl)) (by kernel_rfl) (by kernel_rfl) (by kernel_rfl)
      (by rw [MakeChecks.laidMetH_plain _ _ _ (by kernel_rfl)]; exact laidMet_laidAll _ (by kernel_rfl) (by kernel_rfl))) ?_
  intro W base args ds gs before hval0 hW hcnd hsz0 hL hsh _
  have hW' := hW
  obtain ⟨p, q, hA0, hV, rfl, hfz, hnd⟩ := hW
  obtain ⟨rfl, rfl⟩ := trodVars_none hV
  have hval : ∀ (j : Nat) t v, Tryz.f5.params.toList[j]? = some t → args.toList[j]? = some v → Value.okWide Tryz.prog W .any base t v := fun j t v h1 h2 => hval0 j t v (by simpa using h1) (by simpa using h2)
  have h := M.calls_of_ac tys hval hA0 (ac W (tab hL) (es hL) (er hL))
  rw [Array.toArray_toList] at h
  refine h.mono fun e W' ⟨he, bel⟩ => ?_
  subst he
  have hA1 := M.trodAll_after bel tys hA0
  obtain ⟨v0, vs0, d0, ds0, p0, q0, hargs0, rfl, rfl, t0, r0⟩ := trodAll_cons hA0
  obtain ⟨v1, vs1, d1, ds1, p1, q1, hargs1, rfl, rfl, t1, r1⟩ := trodAll_cons r0
  obtain ⟨v2, vs2, d2, ds2, p2, q2, hargs2, rfl, rfl, t2, r2⟩ := trodAll_cons r1
  obtain ⟨rfl, rfl, rfl⟩ := trodAll_nil r2
  exact ⟨_, rfl, _, _, _, [], _, [], hW', trodAll_mk1 (shut_bool Tryz.underlying4 _), hA1, rfl, bel.frame _, fun h => by cases h⟩
theorem over : Rows.fnExactAnswerRow.holds Tryz.pinned (OpenSpec.ofChange Rows.fnExactAnswerSpec) :=
  OpenClaim.holds_of_wide 5 Tryz.f5 rfl rfl rfl rfl rfl rfl rfl ⟨rfl, rfl, rfl, rfl, rfl⟩ rfl rfl rfl rfl rfl (by kernel_rfl) Tryz.func5 (by kernel_rfl)
    (of_decide_eq_true (by kernel_rfl)) (by unfold Func.isWrapper; first | (rw [if_pos (by decide +kernel)]; kernel_rfl) | (rw [if_neg (by decide +kernel)]; exact ⟨rfl, rfl⟩))
    (fun os started H enc _ => lifted os started H enc)
theorem card : Claim7.holds Tryz.pinned (.plain (OpenSpec.ofChange Rows.fnExactAnswerSpec)) Rows.fnExactAnswerCard :=
  Claim7.holds_tied_plain_at .later [] [.data, .data, .data, .data, .sentinel, .sentinel, .pinned] true (true, "fdbfb4e2a3ffb36201f48b34e4d8f90175d5159bfe277f57debec98ecf3437c7") true over (fun _ h => by cases h) (by kernel_rfl) (fun _ h => by cases h) fnExactAnswer_row_tie rfl ⟨rfl, rfl⟩ (by kernel_rfl) rfl
    (fun f fn hf hfn => by
      obtain rfl : f = 5 := Option.some.inj ((show Tryz.prog.funcNamed "loop.example/g00239/laws.FnExactAnswer" = some 5 by kernel_rfl).symm.trans hf) |>.symm
      obtain rfl : fn = Tryz.f5 := (Option.some.inj (Tryz.func5.symm.trans hfn)).symm
      exact ⟨by kernel_rfl, fun j t ht => by
        rw [Tryz.params5] at ht
        have hm : t ∈ [54, 58, 3] := by simpa using Array.mem_of_getElem? ht
        have hall : ([54, 58, 3].all fun u => !Tryz.prog.wantsStandIn u) = true := by kernel_rfl
        exact (show Tryz.prog.wantsStandIn t = false by simpa using List.all_eq_true.1 hall t hm)⟩)
    (by kernel_rfl)
end Go.Proofs.YtcldaglhkhfhaaaGreatDoor.fnExactAnswer
namespace Go.Proofs.YtcldaglhkhfhaaaGreatDoor
/-- The tied card, under a short name, for the claim. -/
theorem fnExactAnswer_holds : Rows.FnExactAnswerCardSaid := fnExactAnswer.card
#print axioms fnExactAnswer_holds
end Go.Proofs.YtcldaglhkhfhaaaGreatDoor
