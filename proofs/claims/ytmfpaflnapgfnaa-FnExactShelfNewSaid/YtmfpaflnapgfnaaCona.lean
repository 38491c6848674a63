/- What the functions come to in the machine; no conditions. -/
import Derived.Test.YtmfpaflnapgfnaaTab
import Derived.Test.YtmfpaflnapgfnaaMc
import Derived.KernelRfl
set_option linter.unusedSectionVars false
set_option linter.unusedVariables false
namespace M
open Go
def resB : Option Out → Bool
  | some (.bool b, _) => b
  | _ => false
theorem resB_spec {o : Option Out} (h : resB o = true) : ∃ ps, o = some (.bool true, ps) := by
  unfold resB at h
  split at h
  · subst h; exact ⟨_, rfl⟩
  · cases h
theorem run_ShelfNew : resB (exec L0 TT 100 3 []) = true := by kernel_rfl
theorem run_CacheNew : resB (exec L0 TT 100 5 []) = true := by kernel_rfl
theorem law_FnExactShelfNew : ∃ ps, ev L0 TT 3 [] = some (.bool true, ps) := by
  obtain ⟨ps, h⟩ := resB_spec run_ShelfNew
  exact ⟨ps, ev_of h⟩
theorem law_FnExactCacheNew : ∃ ps, ev L0 TT 5 [] = some (.bool true, ps) := by
  obtain ⟨ps, h⟩ := resB_spec run_CacheNew
  exact ⟨ps, ev_of h⟩
end M
