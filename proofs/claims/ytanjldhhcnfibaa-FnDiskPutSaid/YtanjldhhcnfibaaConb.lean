/- What the functions come to in the machine; no conditions. -/
import Derived.Test.YtanjldhhcnfibaaCona
import Derived.Test.YtanjldhhcnfibaaMc
set_option linter.unusedSectionVars false
set_option linter.unusedVariables false
set_option linter.unusedSimpArgs false
namespace M
open Go
variable {L : Ora}
def kindT (k : Int) : Str := if k = 1 then [104, 101, 114, 101] else if k = 2 then [116, 104, 101, 114, 101] else if k = 3 then [115, 97, 109, 101] else if k = 4 then [110, 111, 116] else []
theorem c_i_KindText (k : Int) : ev L TT 17 [.int .i64 k] = some (.str ⟨(kindT k).toArray⟩, [.dead]) := by
  rw [ev_run (b := i_KindText_b) (rs := [.t 2]) (n := 1) rfl rfl]
  have hk : (k < 1 ∨ 4 < k) ∨ k = 1 ∨ k = 2 ∨ k = 3 ∨ k = 4 := by omega 
  rcases hk with h | rfl | rfl | rfl | rfl 
  · have : kindT k = [] := by unfold kindT; rw [if_neg (by omega), if_neg (by omega), if_neg (by omega), if_neg (by omega)] 
    simp -implicitDefEqProofs [i_KindText_b, this, h] 
  all_goals
  simp -implicitDefEqProofs [i_KindText_b, kindT, solidsB, sizesB, litB, wrap_id]
theorem c_s_KindText (k : Int) : ev L TT 16 [.int .i64 k] = some (.str ⟨(kindT k).toArray⟩, [.dead]) := by
  rw [ev_run (b := s_KindText_b) (rs := [.t 2]) (n := 1) rfl rfl]
  have hk : (k < 1 ∨ 4 < k) ∨ k = 1 ∨ k = 2 ∨ k = 3 ∨ k = 4 := by omega 
  rcases hk with h | rfl | rfl | rfl | rfl 
  · have : kindT k = [] := by unfold kindT; rw [if_neg (by omega), if_neg (by omega), if_neg (by omega), if_neg (by omega)] 
    simp -implicitDefEqProofs [s_KindText_b, this, h] 
  all_goals
  simp -implicitDefEqProofs [s_KindText_b, kindT, solidsB, sizesB, litB, wrap_id]
theorem c_l_FnExactKindText (k : Int) : ev L TT 4 [.int .i64 k] = some (.bool true, [.dead]) := by
  rw [ev_run (b := l_FnExactKindText_b) (rs := [.t 2]) (n := 1) rfl rfl]
  simp -implicitDefEqProofs [l_FnExactKindText_b, c_i_KindText, c_s_KindText]
theorem law_FnExactKindText (a : Int) (k : -9223372036854775808 ≤ a ∧ a ≤ 9223372036854775807) : ∃ ps, ev L TT 4 [.int .i64 a] = some (.bool true, ps) := ⟨_, c_l_FnExactKindText a⟩
end M
set_option linter.unusedVariables false
set_option linter.unusedSimpArgs false
namespace M
open Go
variable {L : Ora}
theorem c_l_FnExactDiskOk (d : Dsk) (h : DskOk d) : ev L TT 7 [.agg (eDsk .sl d)] = some (.bool true, [.dead]) := by
  rw [ev_run (b := l_FnExactDiskOk_b) (rs := [.t 2]) (n := 1) rfl rfl]
  have h1 := c_l_szDisk (L := L) d 1048576 h.hb h.hs h.hb' h.hs' (by omega) (by omega) 
  simp at h1
  simp -implicitDefEqProofs [l_FnExactDiskOk_b, h1]
  intro h2 
  have h3 := szDsk_le d 1048576 (by omega) (by omega) 
  have h4 := c_l_toDisk (L := L) d (by omega) (by omega) 
  have h5 := c_s_DiskOk (L := L) d h.hb' 
  have h6 := c_i_DiskOk (L := L) d h.hb' 
  have h7 := c_l_eqDisk (L := L) d d h.hb h.hb' 
  simp at h4 h5 h6 h7 
  simp [h4, h5, h6, h7]
theorem law_FnExactDiskOk (d : Dsk) (h : DskOk d) : ∃ ps, ev L TT 7 [.agg (eDsk .sl d)] = some (.bool true, ps) := ⟨_, c_l_FnExactDiskOk d h⟩
end M
set_option linter.unusedVariables false
set_option linter.unusedSimpArgs false
namespace M
open Go
variable {L : Ora}
theorem okD_len {d : Dsk} (h : okD d = true) : d.cells.length = 20 ∧ d.pending.length ≤ 16 := by
  simp only [okD, Bool.and_eq_true, decide_eq_true_eq] at h
  exact h.2
theorem L_i_Disk_get (d : Dsk) (a : Int) (hb : d.pending.length ≤ 9223372036854775807) : loopW (evA (ev L TT) (okT TT) i_Disk_get_L0) [(0, .ptr .bor (eDsk .bor d)), (1, .int .i64 a), (5, .int .i64 (d.pending.length - 1))] =
    (d.pending.reverse.find? (fun w => decide (w.at_ = a))).elim (some (.exit 0, [(0, .ptr .bor (eDsk .bor d)), (1, .int .i64 a), (5, .int .i64 (-1)), (13, .bool false)])) (fun w => some (.ret, [(4, .str ⟨w.text.toArray⟩)])) := by
  refine loop_down (f := evA (ev L TT) (okT TT) i_Disk_get_L0) d.pending (fun i => [(0, .ptr .bor (eDsk .bor d)), (1, .int .i64 a), (5, .int .i64 i)]) (fun w => decide (w.at_ = a)) (fun w => [(4, .str ⟨w.text.toArray⟩)]) _ (fun i b hi hl => ?_) ?_
  · have hw : IntKind.i64.wrap ((i : Int) - 1) = i - 1 := wrap_id (by omega) (by omega)
    obtain ⟨_, rfl⟩ := List.getElem?_eq_some_iff.1 hi
    simp -implicitDefEqProofs [i_Disk_get_L0, i_Disk_get_L0b, hl, hw]
  · simp -implicitDefEqProofs [i_Disk_get_L0, i_Disk_get_L0b]
theorem c_i_Disk_get (d : Dsk) (a : Int) (hb : d.pending.length ≤ 9223372036854775807) (h0 : 0 ≤ a) (h1 : a < d.cells.length) : ev L TT 62 [.ptr .bor (eDsk .bor d), .int .i64 a] = some (.str ⟨(getF d a).toArray⟩, [.dead, .dead]) := by
  rw [ev_run (b := i_Disk_get_b) (rs := [.t 4]) (n := 2) rfl rfl]
  have h := L_i_Disk_get (L := L) d a hb 
  have hw : IntKind.i64.wrap ((d.pending.length : Int) - 1) = d.pending.length - 1 := wrap_id (by omega) (by omega) 
  have h2 : a.toNat < d.cells.length := by omega 
  simp at h 
  unfold getF; rw [foldl_find]
  simp -implicitDefEqProofs [i_Disk_get_b, hw, h]
  cases d.pending.reverse.find? (fun w => decide (w.at_ = a)) <;> simp [h0, h2]
theorem L_s_DiskGet (d : Dsk) (a : Int) (hb : d.pending.length ≤ 9223372036854775807) (x : Str) : loopW (evA (ev L TT) (okT TT) s_DiskGet_L0) [(0, .agg (eDsk .bor d)), (1, .int .i64 a), (2, .ptr .own (eDsk .bor d)), (5, .str ⟨(x).toArray⟩), (6, .int .i64 0)] = some (.exit 0, [(0, .agg (eDsk .bor d)), (1, .int .i64 a), (2, .ptr .own (eDsk .bor d)), (5, .str ⟨(((d.pending).foldl (fun out w => if w.at_ = a then w.text else out) x)).toArray⟩), (6, .int .i64 (d.pending).length), (24, .bool false)]) := by
  refine loop_fold (f := evA (ev L TT) (okT TT) s_DiskGet_L0) (d.pending) (fun i (x : Str) => [(0, .agg (eDsk .bor d)), (1, .int .i64 a), (2, .ptr .own (eDsk .bor d)), (5, .str ⟨(x).toArray⟩), (6, .int .i64 i)]) (fun out w => if w.at_ = a then w.text else out) (fun x => [(0, .agg (eDsk .bor d)), (1, .int .i64 a), (2, .ptr .own (eDsk .bor d)), (5, .str ⟨(x).toArray⟩), (6, .int .i64 (d.pending).length), (24, .bool false)]) (fun _ _ => True) x trivial (fun i b x hi hl _ => ?_) (fun _ _ _ _ _ => trivial) (fun x _ => ?_)
  · have hw := wrap_succ i (by first | omega | (simp at hl; omega))
    obtain ⟨_, rfl⟩ := List.getElem?_eq_some_iff.1 hi
    simp -implicitDefEqProofs [s_DiskGet_L0, s_DiskGet_L0b, hl, hw]
    split <;> rfl
  · simp -implicitDefEqProofs [s_DiskGet_L0, s_DiskGet_L0b]
theorem c_s_DiskGet (d : Dsk) (a : Int) (hb : d.pending.length ≤ 9223372036854775807) : ev L TT 29 [.agg (eDsk .bor d), .int .i64 a] = some (.str ⟨(if okD d = true ∧ 0 ≤ a ∧ a ≤ 19 then getF d a else []).toArray⟩, [.dead, .dead]) := by
  rw [ev_run (b := s_DiskGet_b) (rs := [.t 4]) (n := 2) rfl rfl]
  have h := fun x => L_s_DiskGet (L := L) d a hb x 
  have h2 := c_s_DiskOk (L := L) d hb 
  simp at h h2
  simp -implicitDefEqProofs [s_DiskGet_b, h, h2]
  by_cases hc : okD d = true ∧ 0 ≤ a ∧ a ≤ 19 
  · obtain ⟨g1, g2, g3⟩ := hc 
    have g4 := okD_len g1 
    have g5 : ¬ (a < 0 ∨ 19 < a) := by omega 
    have g6 : a.toNat < d.cells.length := by omega 
    simp [g1, g2, g3, g5, g6, h, getF] 
  · by_cases g1 : okD d = true 
    · have g5 : (a < 0 ∨ 19 < a) := by false_or_by_contra; exact hc ⟨g1, by omega, by omega⟩ 
      have g6 : ¬ (0 ≤ a ∧ a ≤ 19) := by omega 
      simp [g1, g5, g6] 
    · simp [g1]
theorem c_i_DiskGet (d : Dsk) (a : Int) (hb : d.pending.length ≤ 9223372036854775807) : ev L TT 30 [.agg (eDsk .bor d), .int .i64 a] = some (.str ⟨(if okD d = true ∧ 0 ≤ a ∧ a ≤ 19 then getF d a else []).toArray⟩, [.dead, .dead]) := by
  rw [ev_run (b := i_DiskGet_b) (rs := [.t 4]) (n := 2) rfl rfl]
  have h := fun h0 h1 => c_i_Disk_get (L := L) d a hb h0 h1 
  have h2 := c_i_DiskOk (L := L) d hb 
  simp at h h2
  simp -implicitDefEqProofs [i_DiskGet_b, h2]
  by_cases hc : okD d = true ∧ 0 ≤ a ∧ a ≤ 19 
  · obtain ⟨g1, g2, g3⟩ := hc 
    have g4 := okD_len g1 
    have g5 : ¬ (a < 0 ∨ 19 < a) := by omega 
    have g6 : a.toNat < d.cells.length := by omega 
    have h3 := h g2 (by omega); simp [g1, g2, g3, h3] 
  · by_cases g1 : okD d = true 
    · have g5 : (a < 0 ∨ 19 < a) := by false_or_by_contra; exact hc ⟨g1, by omega, by omega⟩ 
      have g6 : ¬ (0 ≤ a ∧ a ≤ 19) := by omega 
      simp [g1, g5, g6] 
    · simp [g1]
theorem c_l_FnExactDiskGet (d : Dsk) (a : Int) (h : DskOk d) : ev L TT 8 [.agg (eDsk .sl d), .int .i64 a] = some (.bool true, [.dead, .dead]) := by
  rw [ev_run (b := l_FnExactDiskGet_b) (rs := [.t 4]) (n := 2) rfl rfl]
  have h1 := c_l_szDisk (L := L) d 1048576 h.hb h.hs h.hb' h.hs' (by omega) (by omega) 
  simp at h1
  simp -implicitDefEqProofs [l_FnExactDiskGet_b, h1]
  intro h2 
  have h3 := szDsk_le d 1048576 (by omega) (by omega) 
  have h4 := c_l_toDisk (L := L) d (by omega) (by omega) 
  have h5 := c_s_DiskGet (L := L) d a h.hb' 
  have h6 := c_i_DiskGet (L := L) d a h.hb' 
  have h7 := c_l_eqDisk (L := L) d d h.hb h.hb' 
  simp at h4 h5 h6 h7 
  simp [h4, h5, h6, h7]
theorem law_FnExactDiskGet (d : Dsk) (h : DskOk d) (a : Int) (k : -9223372036854775808 ≤ a ∧ a ≤ 9223372036854775807) : ∃ ps, ev L TT 8 [.agg (eDsk .sl d), .int .i64 a] = some (.bool true, ps) := ⟨_, c_l_FnExactDiskGet d a h⟩
end M
