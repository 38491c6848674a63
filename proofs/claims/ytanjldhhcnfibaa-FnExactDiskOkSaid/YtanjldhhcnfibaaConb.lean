/- What the functions come to in the machine; no conditions. -/
import Derived.Test.YtanjldhhcnfibaaCona
import Derived.Test.YtanjldhhcnfibaaMc
set_option linter.unusedSectionVars false
set_option linter.unusedVariables false
set_option linter.unusedSimpArgs false
namespace M
open Go
variable {L : Ora}
theorem c_l_FnExactDiskOk (d : Dsk) (h : DskOk d) : ev L TT 7 [.agg (eDsk .sl d)] = some (.bool true, [.dead]) := by
  rw [ev_run (b := l_FnExactDiskOk_b) (rs := [.t 2]) (n := 1) rfl rfl]
  have h1 := c_l_szDisk (L := L) d 1048576 h.hb h.hs h.hb' h.hs' (by omega) (by omega) 
  simp at h1
  simp [l_FnExactDiskOk_b, h1]
  intro h2 
  have h3 := szDsk_le d 1048576 (by omega) (by omega) 
  have h4 := c_l_toDisk (L := L) d (by omega) (by omega) 
  have h5 := c_s_DiskOk (L := L) d h.hb' 
  have h6 := c_i_DiskOk (L := L) d h.hb' 
  have h7 := c_l_eqDisk (L := L) d d h.hb h.hb' 
  simp at h4 h5 h6 h7 
  simp [h4, h5, h6, h7]
theorem law_FnExactDiskOk (d : Dsk) (h : DskOk d) : ∃ ps, ev L TT 7 [.agg (eDsk .sl d)] = some (.bool true, ps) := ⟨_, c_l_FnExactDiskOk d h⟩
end M
