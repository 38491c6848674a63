/- Each function of the table is the program's; no conditions. -/
import Derived.Test.YtanjldhhcnfibaaDoorProg
import Derived.Test.YtanjldhhcnfibaaDoorLay
import Derived.Test.YtanjldhhcnfibaaDoorTab
set_option linter.unusedSectionVars false
set_option linter.unusedVariables false
set_option linter.unusedSectionVars false
set_option maxRecDepth 100000
namespace M
open Go
variable [Bs]
theorem told_3 : Told Go.Proofs.Tryd.prog 3 l_FnExactRecText_b [.t 4] 2 := Told.of Go.Proofs.Tryd.func3 (by decide +kernel)
theorem fnok_3 : fnOk Go.Proofs.Tryd.prog 3 = true := by decide +kernel
theorem told_4 : Told Go.Proofs.Tryd.prog 4 s_RecText_b [.t 4] 2 := Told.of Go.Proofs.Tryd.func4 (by decide +kernel)
theorem fnok_4 : fnOk Go.Proofs.Tryd.prog 4 = true := by decide +kernel
theorem told_5 : Told Go.Proofs.Tryd.prog 5 i_RecText_b [.t 4] 2 := Told.of Go.Proofs.Tryd.func5 (by decide +kernel)
theorem fnok_5 : fnOk Go.Proofs.Tryd.prog 5 = true := by decide +kernel
theorem told_6 : Told Go.Proofs.Tryd.prog 6 s_l1In_b [.t 6] 3 := Told.of Go.Proofs.Tryd.func6 (by decide +kernel)
theorem fnok_6 : fnOk Go.Proofs.Tryd.prog 6 = true := by decide +kernel
theorem told_7 : Told Go.Proofs.Tryd.prog 7 s_l13Digits_b [.t 2] 1 := Told.of Go.Proofs.Tryd.func7 (by decide +kernel)
theorem fnok_7 : fnOk Go.Proofs.Tryd.prog 7 = true := by decide +kernel
theorem told_8 : Told Go.Proofs.Tryd.prog 8 s_Sum_b [.t 2] 1 := Told.of Go.Proofs.Tryd.func8 (by decide +kernel)
theorem fnok_8 : fnOk Go.Proofs.Tryd.prog 8 = true := by decide +kernel
theorem told_9 : Told Go.Proofs.Tryd.prog 9 i_inRange_b [.t 6] 3 := Told.of Go.Proofs.Tryd.func9 (by decide +kernel)
theorem fnok_9 : fnOk Go.Proofs.Tryd.prog 9 = true := by decide +kernel
theorem told_11 : Told Go.Proofs.Tryd.prog 11 i_Sum_b [.t 2] 1 := Told.of Go.Proofs.Tryd.func11 (by decide +kernel)
theorem fnok_11 : fnOk Go.Proofs.Tryd.prog 11 = true := by decide +kernel
theorem TT_ok : TT.Ok Go.Proofs.Tryd.prog := by
  refine ⟨fun f F h => ?_, fun f F h => ?_⟩
  · unfold TT at h
    split at h
    · cases h; exact told_3
    · cases h; exact told_4
    · cases h; exact told_5
    · cases h; exact told_6
    · cases h; exact told_7
    · cases h; exact told_8
    · cases h; exact told_9
    · cases h; exact told_11
    · cases h
  · unfold TT at h
    split at h
    · cases h; exact fnok_3
    · cases h; exact fnok_4
    · cases h; exact fnok_5
    · cases h; exact fnok_6
    · cases h; exact fnok_7
    · cases h; exact fnok_8
    · cases h; exact fnok_9
    · cases h; exact fnok_11
    · cases h
theorem LI_sound (htab : Lib.TabIs Go.Proofs.Tryd.prog Bs.W0 "internal/strconv.uint64pow10" .u64 Lib.pow10Tab) : LI.Sound Go.Proofs.Tryd.prog := growO_sound fun xs r h w hw => by
  unfold itoaG at h
  split at h
  · rename_i n
    split at h
    · rename_i hc
      cases h
      exact Go.Proofs.Tryd.strconv_Itoa n hc.1 hc.2 w (TabIs.same htab hw)
    · cases h
  · cases h
end M
