/- What the functions come to in the machine; no conditions. -/
import Derived.Test.YtanjldhhcnfibaaConb
import Derived.Test.YtanjldhhcnfibaaConc
import Derived.Test.YtanjldhhcnfibaaTab
set_option linter.unusedSectionVars false
set_option linter.unusedVariables false
set_option linter.unusedSimpArgs false
namespace M
open Go
@[simp] theorem c_cloneS (l : List Str) (h : l.length ≤ 1048600) : ev LL TT 66 [.row .bor 1 (l.map eS)] = some (.row .own 1 (l.map eS), [.dead]) := by
  rw [ev_lib rfl]
  have h1 := scalars_eS l
  have h2 := cells_eS l
  have h3 : l.length * 16 ≤ 140737488355328 := by omega
  simp only [LL, orO, cloneO, if_true, List.length_map, h1, h2, h3, and_self]
@[simp] theorem c_cloneW (l : List Wr) (h : l.length ≤ 1048600) : ev LL TT 84 [.row .bor 2 (l.map eW)] = some (.row .own 2 (l.map eW), [.dead]) := by
  rw [ev_lib rfl]
  have h1 := scalars_eW l
  have h2 := cells_eW l
  have h3 : l.length * 24 ≤ 140737488355328 := by omega
  simp only [LL, orO, cloneO, if_true, List.length_map, h1, h2, h3, and_self]
  rfl
theorem c_i_copyDisk (d : Dsk) (h1 : d.cells.length ≤ 1048600) (h2 : d.pending.length ≤ 1048600) : ev LL TT 68 [.agg (eDsk .bor d)] = some (.agg (eDsk .own d), [.dead]) := by
  rw [ev_run (b := i_copyDisk_b) (rs := [.c 2 2 true 29]) (n := 1) rfl rfl]
  simp -implicitDefEqProofs [i_copyDisk_b, h1, h2]
def allOk (ws : List Wr) : Prop := ∀ w ∈ ws, 0 ≤ w.at_ ∧ w.at_ ≤ 19
theorem okD_all {d : Dsk} (h : okD d = true) : allOk d.pending := by
  simp only [okD, Bool.and_eq_true] at h
  intro w hw
  simpa [okW] using allB_iff.1 h.1 w hw
theorem L_i_Disk_flush (ws : List Wr) (hb : ws.length ≤ 9223372036854775807) (ho : allOk ws) (cs : List Str) (hinv : cs.length = 20) : loopW (evA (ev LL TT) (okT TT) i_Disk_flush_L0) [(0, .adr 100000 [] 0 0), (4, .adr 100000 [] 0 0), (5, .adr 100000 [] 0 0), (6, .adr 100000 [] 0 1), (7, .ref 100000 [(0, 1)]), (8, .int .i64 ws.length), (9, .int .i64 0), (100000, .ptr .own [.row .own 1 ((cs).map eS), .row .own 2 (ws.map eW)])] = some (.exit 0, [(0, .adr 100000 [] 0 0), (4, .adr 100000 [] 0 0), (5, .adr 100000 [] 0 0), (6, .adr 100000 [] 0 1), (7, .ref 100000 [(0, 1)]), (8, .int .i64 ws.length), (9, .int .i64 (ws).length), (10, .bool false), (100000, .ptr .own [.row .own 1 (((foldI (landF (keepOf [] true)) 0 (ws) cs)).map eS), .row .own 2 (ws.map eW)])]) := by
  refine loop_foldI (f := evA (ev LL TT) (okT TT) i_Disk_flush_L0) (ws) (fun i (cs : List Str) => [(0, .adr 100000 [] 0 0), (4, .adr 100000 [] 0 0), (5, .adr 100000 [] 0 0), (6, .adr 100000 [] 0 1), (7, .ref 100000 [(0, 1)]), (8, .int .i64 ws.length), (9, .int .i64 i), (100000, .ptr .own [.row .own 1 ((cs).map eS), .row .own 2 (ws.map eW)])]) (landF (keepOf [] true)) (fun cs => [(0, .adr 100000 [] 0 0), (4, .adr 100000 [] 0 0), (5, .adr 100000 [] 0 0), (6, .adr 100000 [] 0 1), (7, .ref 100000 [(0, 1)]), (8, .int .i64 ws.length), (9, .int .i64 (ws).length), (10, .bool false), (100000, .ptr .own [.row .own 1 ((cs).map eS), .row .own 2 (ws.map eW)])]) (fun _ (cs : List Str) => cs.length = 20) cs hinv (fun i b cs hi hl hinv => ?_) (fun i b cs hi hinv => ?_) (fun cs hinv => ?_)
  · have hw := wrap_succ i (by first | omega | (simp at hl; omega))
    obtain ⟨_, rfl⟩ := List.getElem?_eq_some_iff.1 hi
    have h1 := ho _ (List.getElem_mem hl) 
    have h2 : (ws[i]).at_.toNat < cs.length := by omega
    simp -implicitDefEqProofs [i_Disk_flush_L0, i_Disk_flush_L0b, hl, hw, h1, h2, landF, keepOf]
  · rw [landF_len]; exact hinv
  · simp -implicitDefEqProofs [i_Disk_flush_L0, i_Disk_flush_L0b]
theorem c_i_Disk_flush (d : Dsk) (h : okD d = true) : ev LL TT 69 [.ptr .own (eDsk .own d)] = some (.tup [], [.ptr .own (eDsk .own ⟨landC (keepOf [] true) d.cells d.pending, []⟩)]) := by
  rw [ev_run (b := i_Disk_flush_b) (rs := []) (n := 1) rfl rfl]
  have h1 := okD_len h 
  have h2 := L_i_Disk_flush d.pending (by omega) (okD_all h) d.cells h1.1
  simp -implicitDefEqProofs [i_Disk_flush_b, h1.1, h2, landC]
def flushD (d : Dsk) : Dsk := if okD d = true then ⟨landC (keepOf [] true) d.cells d.pending, []⟩ else ⟨[], []⟩
theorem c_i_Flush (d : Dsk) (hb : d.pending.length ≤ 9223372036854775807) : ev LL TT 36 [.agg (eDsk .bor d)] = some (.agg (eDsk .own (flushD d)), [.dead]) := by
  rw [ev_run (b := i_Flush_b) (rs := [.c 2 2 true 29]) (n := 1) rfl rfl]
  have h2 := c_i_DiskOk (L := LL) d hb 
  simp at h2 
  unfold flushD 
  by_cases h : okD d = true 
  · have h1 := okD_len h 
    have h3 := c_i_copyDisk d (by omega) (by omega) 
    have h4 := c_i_Disk_flush d h 
    simp at h3 h4 
    simp -implicitDefEqProofs [i_Flush_b, h, h2, h3, h4]
  simp -implicitDefEqProofs [i_Flush_b, h, h2]
theorem L_s_l12Land (d : Dsk) (keep : List Bool) (all : Bool) (hb : d.pending.length ≤ 9223372036854775807) (ho : allOk d.pending) (hk : keep.length ≤ 9223372036854775807) (cs : List Str) (hinv : cs.length = 20) : loopW (evA (ev LL TT) (okT TT) s_l12Land_L0) [(0, .agg (eDsk .bor d)), (1, .row .bor 1 (keep.map eB)), (2, .bool all), (3, .ptr .own (eDsk .bor d)), (6, .ptr .own [.row .own 1 [], .row .own 2 []]), (7, .ptr .own [.row .own 1 ((cs).map eS), .row .own 2 []]), (8, .int .i64 0), (12, .dead)] = some (.exit 0, [(0, .agg (eDsk .bor d)), (1, .row .bor 1 (keep.map eB)), (2, .bool all), (3, .ptr .own (eDsk .bor d)), (6, .ptr .own [.row .own 1 [], .row .own 2 []]), (7, .ptr .own [.row .own 1 (((foldI (landF (keepOf keep all)) 0 (d.pending) cs)).map eS), .row .own 2 []]), (8, .int .i64 (d.pending).length), (12, .dead), (18, .bool false)]) := by
  refine loop_foldI (f := evA (ev LL TT) (okT TT) s_l12Land_L0) (d.pending) (fun i (cs : List Str) => [(0, .agg (eDsk .bor d)), (1, .row .bor 1 (keep.map eB)), (2, .bool all), (3, .ptr .own (eDsk .bor d)), (6, .ptr .own [.row .own 1 [], .row .own 2 []]), (7, .ptr .own [.row .own 1 ((cs).map eS), .row .own 2 []]), (8, .int .i64 i), (12, .dead)]) (landF (keepOf keep all)) (fun cs => [(0, .agg (eDsk .bor d)), (1, .row .bor 1 (keep.map eB)), (2, .bool all), (3, .ptr .own (eDsk .bor d)), (6, .ptr .own [.row .own 1 [], .row .own 2 []]), (7, .ptr .own [.row .own 1 ((cs).map eS), .row .own 2 []]), (8, .int .i64 (d.pending).length), (12, .dead), (18, .bool false)]) (fun _ (cs : List Str) => cs.length = 20) cs hinv (fun i b cs hi hl hinv => ?_) (fun i b cs hi hinv => ?_) (fun cs hinv => ?_)
  · have hw := wrap_succ i (by first | omega | (simp at hl; omega))
    obtain ⟨_, rfl⟩ := List.getElem?_eq_some_iff.1 hi
    have h1 := ho _ (List.getElem_mem hl) 
    have h2 : (d.pending[i]).at_.toNat < cs.length := by omega 
    cases all 
    · by_cases h4 : i < keep.length 
      · cases h5 : keep[i] <;> simp -implicitDefEqProofs [s_l12Land_L0, s_l12Land_L0b, hl, hw, h1, h2, landF, keepOf, h4, h5] 
      · simp -implicitDefEqProofs [s_l12Land_L0, s_l12Land_L0b, hl, hw, h1, h2, landF, keepOf, h4]
    simp -implicitDefEqProofs [s_l12Land_L0, s_l12Land_L0b, hl, hw, h1, h2, landF, keepOf]
  · rw [landF_len]; exact hinv
  · simp -implicitDefEqProofs [s_l12Land_L0, s_l12Land_L0b]
theorem c_s_l12Land (d : Dsk) (keep : List Bool) (all : Bool) (h : okD d = true) (hk : keep.length ≤ 9223372036854775807) : ev LL TT 67 [.agg (eDsk .bor d), .row .bor 1 (keep.map eB), .bool all] = some (.agg (eDsk .own ⟨landC (keepOf keep all) d.cells d.pending, []⟩), [.dead, .dead, .dead]) := by
  rw [ev_run (b := s_l12Land_b) (rs := [.c 6 2 true 29]) (n := 3) rfl rfl]
  have h1 := okD_len h 
  have h2 := L_s_l12Land d keep all (by omega) (okD_all h) hk d.cells h1.1 
  simp at h2
  simp -implicitDefEqProofs [s_l12Land_b, h1.1, h2, landC]
theorem c_s_Flush (d : Dsk) (hb : d.pending.length ≤ 9223372036854775807) : ev LL TT 42 [.agg (eDsk .bor d)] = some (.agg (eDsk .own (flushD d)), [.dead]) := by
  rw [ev_run (b := s_Flush_b) (rs := [.c 2 2 true 29]) (n := 1) rfl rfl]
  have h2 := c_s_DiskOk (L := LL) d hb 
  simp at h2 
  unfold flushD 
  by_cases h : okD d = true 
  · have h1 := okD_len h 
    have h3 := c_s_l12Land d [] true h (by simp) 
    simp at h3 
    simp -implicitDefEqProofs [s_Flush_b, h, h2, h3]
  simp -implicitDefEqProofs [s_Flush_b, h, h2]
def crashD (d : Dsk) (keep : List Bool) : Dsk := if okD d = true then ⟨landC (keepOf keep false) d.cells d.pending, []⟩ else ⟨[], []⟩
theorem c_s_Crash (d : Dsk) (keep : List Bool) (hb : d.pending.length ≤ 9223372036854775807) (hk : keep.length ≤ 9223372036854775807) : ev LL TT 34 [.agg (eDsk .bor d), .row .bor 1 (keep.map eB)] = some (.agg (eDsk .own (crashD d keep)), [.dead, .dead]) := by
  rw [ev_run (b := s_Crash_b) (rs := [.c 4 2 true 29]) (n := 2) rfl rfl]
  have h2 := c_s_DiskOk (L := LL) d hb 
  simp at h2 
  unfold crashD 
  by_cases h : okD d = true 
  · have h1 := okD_len h 
    have h3 := c_s_l12Land d keep false h hk 
    simp at h3 
    simp -implicitDefEqProofs [s_Crash_b, h, h2, h3]
  simp -implicitDefEqProofs [s_Crash_b, h, h2]
theorem L_i_Crash (d : Dsk) (keep : List Bool) (hb : d.pending.length ≤ 9223372036854775807) (ho : allOk d.pending) (hk : keep.length ≤ 9223372036854775807) (cs : List Str) (hinv : cs.length = 20) : loopW (evA (ev LL TT) (okT TT) i_Crash_L0) [(0, .agg (eDsk .bor d)), (1, .row .bor 1 (keep.map eB)), (2, .ptr .own (eDsk .bor d)), (4, .ptr .own [.row .own 1 [], .row .own 2 []]), (5, .ptr .own [.row .own 1 ((cs).map eS), .row .own 2 []]), (14, .dead), (16, .adr 2 [] 0 1), (17, .row .bor 2 (d.pending.map eW)), (18, .int .i64 d.pending.length), (19, .int .i64 0)] = some (.exit 0, [(0, .agg (eDsk .bor d)), (1, .row .bor 1 (keep.map eB)), (2, .ptr .own (eDsk .bor d)), (4, .ptr .own [.row .own 1 [], .row .own 2 []]), (5, .ptr .own [.row .own 1 (((foldI (landF (keepOf keep false)) 0 (d.pending) cs)).map eS), .row .own 2 []]), (14, .dead), (16, .adr 2 [] 0 1), (17, .row .bor 2 (d.pending.map eW)), (18, .int .i64 d.pending.length), (19, .int .i64 (d.pending).length), (20, .bool false)]) := by
  refine loop_foldI (f := evA (ev LL TT) (okT TT) i_Crash_L0) (d.pending) (fun i (cs : List Str) => [(0, .agg (eDsk .bor d)), (1, .row .bor 1 (keep.map eB)), (2, .ptr .own (eDsk .bor d)), (4, .ptr .own [.row .own 1 [], .row .own 2 []]), (5, .ptr .own [.row .own 1 ((cs).map eS), .row .own 2 []]), (14, .dead), (16, .adr 2 [] 0 1), (17, .row .bor 2 (d.pending.map eW)), (18, .int .i64 d.pending.length), (19, .int .i64 i)]) (landF (keepOf keep false)) (fun cs => [(0, .agg (eDsk .bor d)), (1, .row .bor 1 (keep.map eB)), (2, .ptr .own (eDsk .bor d)), (4, .ptr .own [.row .own 1 [], .row .own 2 []]), (5, .ptr .own [.row .own 1 ((cs).map eS), .row .own 2 []]), (14, .dead), (16, .adr 2 [] 0 1), (17, .row .bor 2 (d.pending.map eW)), (18, .int .i64 d.pending.length), (19, .int .i64 (d.pending).length), (20, .bool false)]) (fun _ (cs : List Str) => cs.length = 20) cs hinv (fun i b cs hi hl hinv => ?_) (fun i b cs hi hinv => ?_) (fun cs hinv => ?_)
  · have hw := wrap_succ i (by first | omega | (simp at hl; omega))
    obtain ⟨_, rfl⟩ := List.getElem?_eq_some_iff.1 hi
    have h1 := ho _ (List.getElem_mem hl) 
    have h2 : (d.pending[i]).at_.toNat < cs.length := by omega 
    by_cases h4 : i < keep.length 
    · cases h5 : keep[i] <;> simp -implicitDefEqProofs [i_Crash_L0, i_Crash_L0b, hl, hw, h1, h2, landF, keepOf, h4, h5]
    simp -implicitDefEqProofs [i_Crash_L0, i_Crash_L0b, hl, hw, h1, h2, landF, keepOf, h4]
  · rw [landF_len]; exact hinv
  · simp -implicitDefEqProofs [i_Crash_L0, i_Crash_L0b]
theorem c_i_Crash (d : Dsk) (keep : List Bool) (hb : d.pending.length ≤ 9223372036854775807) (hk : keep.length ≤ 9223372036854775807) : ev LL TT 33 [.agg (eDsk .bor d), .row .bor 1 (keep.map eB)] = some (.agg (eDsk .own (crashD d keep)), [.dead, .dead]) := by
  rw [ev_run (b := i_Crash_b) (rs := [.c 4 2 true 29]) (n := 2) rfl rfl]
  have h2 := c_i_DiskOk (L := LL) d hb 
  simp at h2 
  unfold crashD 
  by_cases h : okD d = true 
  · have h1 := okD_len h 
    have h3 := c_cloneS d.cells (by omega) 
    have h4 := L_i_Crash d keep hb (okD_all h) hk d.cells h1.1 
    simp at h3 h4 
    simp -implicitDefEqProofs [i_Crash_b, h, h2, h3, h4, landC]
  simp -implicitDefEqProofs [i_Crash_b, h, h2]
end M
set_option linter.unusedVariables false
set_option linter.unusedSimpArgs false
namespace M
open Go
theorem flushD_len (d : Dsk) : (flushD d).cells.length ≤ 20 ∧ (flushD d).pending.length = 0 := by
  unfold flushD
  split
  · rename_i h
    have := okD_len h
    simp [landC_len, this]
  · simp
theorem c_l_FnExactFlush (d : Dsk) (h : DskOk d) : ev LL TT 12 [.agg (eDsk .sl d)] = some (.bool true, [.dead]) := by
  rw [ev_run (b := l_FnExactFlush_b) (rs := [.t 2]) (n := 1) rfl rfl]
  have h1 := c_l_szDisk (L := LL) d 1048576 h.hb h.hs h.hb' h.hs' (by omega) (by omega) 
  simp at h1
  simp -implicitDefEqProofs [l_FnExactFlush_b, h1]
  intro h2 
  have h3 := szDsk_le d 1048576 (by omega) (by omega) 
  have h4 := c_l_toDisk (L := LL) d (by omega) (by omega) 
  have h5 := c_s_Flush d h.hb' 
  have h6 := c_i_Flush d h.hb' 
  have h7 := c_l_eqDisk (L := LL) d d h.hb h.hb' 
  have f := flushD_len d 
  have h8 := c_l_eqDisk (L := LL) (flushD d) (flushD d) (by omega) (by omega) 
  have h9 := c_l_markDisk (L := LL) d 1 (by omega) (by omega) (by omega) (by omega) 
  have h10 := c_l_markDisk (L := LL) (flushD d) 1 (by omega) (by omega) (by omega) (by omega) 
  have h11 := c_l_heldDisk (L := LL) (flushD d) 1 (by omega) (by omega) (by omega) (by omega) 
  simp at h4 h5 h6 h7 h8 h9 h10 h11 
  have g1 : ¬ (1 + (d.cells.length : Int) + 2 * (d.pending.length : Int) < 0) := by omega 
  have g2 : ¬ (1 + ((flushD d).cells.length : Int) + 2 * ((flushD d).pending.length : Int) < 0) := by omega 
  simp [h4, h5, h6, h7, h8, h9, h10, h11, g1, g2, putA, backL, giveOk, otherR]
theorem law_FnExactFlush (d : Dsk) (h : DskOk d) : ∃ ps, ev LL TT 12 [.agg (eDsk .sl d)] = some (.bool true, ps) := ⟨_, c_l_FnExactFlush d h⟩
end M
set_option linter.unusedVariables false
set_option linter.unusedSimpArgs false
namespace M
open Go
theorem L_l_toBoolS (l : List Bool) (hb : l.length ≤ 9223372036854775807) : loopW (evA (ev LL TT) (okT TT) l_toBoolS_L0) [(0, .row .bor 1 (l.map eB)), (3, .row .own 1 (fillN (l.map eB) 0 [.bool false])), (4, .int .i64 0), (6, .int .i64 l.length), (7, .dead)] = some (.exit 0, [(0, .row .bor 1 (l.map eB)), (3, .row .own 1 (l.map eB)), (4, .int .i64 (l).length), (6, .int .i64 l.length), (7, .dead), (11, .bool false)]) := by
  refine loop_count (f := evA (ev LL TT) (okT TT) l_toBoolS_L0) (l) (fun i => [(0, .row .bor 1 (l.map eB)), (3, .row .own 1 (fillN (l.map eB) i [.bool false])), (4, .int .i64 i), (6, .int .i64 l.length), (7, .dead)]) _ (fun i b hi hl => ?_) ?_
  · have hw := wrap_succ i (by first | omega | (simp at hl; omega))
    obtain ⟨_, rfl⟩ := List.getElem?_eq_some_iff.1 hi
    simp -implicitDefEqProofs [l_toBoolS_L0, l_toBoolS_L0b, hl, hw]
  · simp -implicitDefEqProofs [l_toBoolS_L0, l_toBoolS_L0b]
theorem c_l_toBoolS (l : List Bool) (hb : l.length ≤ 1048576) : ev LL TT 43 [.row .bor 1 (l.map eB)] = some (.row .own 1 (l.map eB), [.dead]) := by
  rw [ev_run (b := l_toBoolS_b) (rs := [.t 2]) (n := 1) rfl rfl]
  have h := L_l_toBoolS l (by omega) 
  simp at h
  simp -implicitDefEqProofs [l_toBoolS_b, h, (by omega : (l.length : Int) ≤ 140737488355328)]
theorem L_l_eqBoolS (ps : List (Bool × Bool)) (hb : ps.length ≤ 9223372036854775807) : loopW (evA (ev LL TT) (okT TT) l_eqBoolS_L0) [(0, .row .bor 1 (ps.map fun x => eB x.1)), (1, .row .bor 1 (ps.map fun x => eB x.2)), (5, .int .i64 0)] = if allB eqB (ps) = true then some (.exit 0, [(0, .row .bor 1 (ps.map fun x => eB x.1)), (1, .row .bor 1 (ps.map fun x => eB x.2)), (5, .int .i64 ps.length), (14, .bool false)]) else some (.ret, [(4, .bool false)]) := by
  refine loop_all (f := evA (ev LL TT) (okT TT) l_eqBoolS_L0) (ps) (fun i => [(0, .row .bor 1 (ps.map fun x => eB x.1)), (1, .row .bor 1 (ps.map fun x => eB x.2)), (5, .int .i64 i)]) eqB _ _ (fun i b hi hl => ?_) ?_
  · have hw := wrap_succ i (by first | omega | (simp at hl; omega))
    obtain ⟨_, rfl⟩ := List.getElem?_eq_some_iff.1 hi
    simp -implicitDefEqProofs [l_eqBoolS_L0, l_eqBoolS_L0b, hl, hw, eqB]
  · simp -implicitDefEqProofs [l_eqBoolS_L0, l_eqBoolS_L0b]
theorem c_l_eqBoolS (a b : List Bool) (hb : a.length ≤ 9223372036854775807) : ev LL TT 44 [.row .bor 1 (a.map eB), .row .bor 1 (b.map eB)] = some (.bool (decide (a = b)), [.dead, .dead]) := by
  rw [ev_run (b := l_eqBoolS_b) (rs := [.t 4]) (n := 2) rfl rfl]
  obtain ⟨q, hq⟩ : ∃ q, decide (a = b) = q := ⟨_, rfl⟩ 
  rw [hq]
  simp -implicitDefEqProofs [l_eqBoolS_b]
  by_cases h : a.length = b.length 
  · obtain ⟨ps, rfl, rfl⟩ := zip_ex h 
    have h1 := L_l_eqBoolS ps (by simpa using hb) 
    have h2 := (allB_eq ps).trans hq 
    subst h2 
    simp at h1 
    cases h3 : allB eqB ps <;> rw [h3] at h1 <;> simp [h1, Function.comp_def] 
  · have : q = false := by rw [← hq]; exact decide_eq_false fun e => h (by rw [e]) 
    simp [this] 
    omega
def marksB (n : Nat) (k : Int) : List Bool := (List.range n).map fun (i : Nat) => decide ((k + i).tmod 3 = 0)
@[simp] theorem marksB_len (n : Nat) (k : Int) : (marksB n k).length = n := by simp [marksB]
@[simp] theorem marksB_get (n : Nat) (k : Int) (i : Nat) (h : i < (marksB n k).length) : (marksB n k)[i] = decide ((k + i).tmod 3 = 0) := by simp [marksB]
theorem L_l_markBoolS (l : List Bool) (k : Int) (hb : l.length ≤ 1048600) (hk : 0 ≤ k) (hk' : k ≤ 10000000) : loopW (evA (ev LL TT) (okT TT) l_markBoolS_L0) [(0, .ref 100000 []), (1, .int .i64 (k + (0 : Nat))), (5, .int .i64 0), (100000, .row .own 1 (fillM ((marksB l.length k).map eB) (l.map eB) 0))] = some (.exit 0, [(0, .ref 100000 []), (1, .int .i64 (k + l.length)), (5, .int .i64 l.length), (9, .bool false), (100000, .row .own 1 ((marksB l.length k).map eB))]) := by
  refine loop_count (f := evA (ev LL TT) (okT TT) l_markBoolS_L0) (l) (fun i => [(0, .ref 100000 []), (1, .int .i64 (k + (i : Nat))), (5, .int .i64 i), (100000, .row .own 1 (fillM ((marksB l.length k).map eB) (l.map eB) i))]) _ (fun i b hi hl => ?_) ?_
  · have hw := wrap_succ i (by first | omega | (simp at hl; omega))
    obtain ⟨_, rfl⟩ := List.getElem?_eq_some_iff.1 hi
    have h2 := wrap_id (n := k + i + 1) (by omega) (by omega)
    simp -implicitDefEqProofs [l_markBoolS_L0, l_markBoolS_L0b, hl, hw, h2]
    exact ⟨by omega, fillM_set _ _ _ _ (by simp) (by simpa using hl) (by simp)⟩
  · simp -implicitDefEqProofs [l_markBoolS_L0, l_markBoolS_L0b]
theorem c_l_markBoolS (l : List Bool) (k : Int) (hb : l.length ≤ 1048600) (hk : 0 ≤ k) (hk' : k ≤ 10000000) : ev LL TT 45 [.row .own 1 (l.map eB), .int .i64 k] = some (.int .i64 (k + l.length), [.row .own 1 ((marksB l.length k).map eB), .dead]) := by
  rw [ev_run (b := l_markBoolS_b) (rs := [.t 4]) (n := 2) rfl rfl]
  have h1 := L_l_markBoolS l k hb hk hk' 
  simp at h1
  simp -implicitDefEqProofs [l_markBoolS_b, h1]
theorem crashD_len (d : Dsk) (keep : List Bool) : (crashD d keep).cells.length ≤ 20 ∧ (crashD d keep).pending.length = 0 := by
  unfold crashD
  split
  · rename_i h
    have := okD_len h
    simp [landC_len, this]
  · simp
theorem c_l_FnExactCrash (d : Dsk) (h : DskOk d) (keep : List Bool) (hk : keep.length ≤ 9223372036854775807) : ev LL TT 13 [.agg (eDsk .sl d), .row .sl 1 (keep.map eB)] = some (.bool true, [.dead, .dead]) := by
  rw [ev_run (b := l_FnExactCrash_b) (rs := [.t 4]) (n := 2) rfl rfl]
  have h1 := c_l_szDisk (L := LL) d 1048576 h.hb h.hs h.hb' h.hs' (by omega) (by omega) 
  simp at h1 
  by_cases hkk : (1048576 : Int) < keep.length 
  · simp -implicitDefEqProofs [l_FnExactCrash_b, hkk]
  simp -implicitDefEqProofs [l_FnExactCrash_b, h1, hkk]
  intro h2 
  have h3 := szDsk_le d 1048576 (by omega) (by omega) 
  have h4 := c_l_toDisk (L := LL) d (by omega) (by omega) 
  have h5 := c_s_Crash d keep h.hb' hk 
  have h6 := c_i_Crash d keep h.hb' hk 
  have h7 := c_l_eqDisk (L := LL) d d h.hb h.hb' 
  have f := crashD_len d keep 
  have h8 := c_l_eqDisk (L := LL) (crashD d keep) (crashD d keep) (by omega) (by omega) 
  have h9 := c_l_markDisk (L := LL) d 1 (by omega) (by omega) (by omega) (by omega) 
  have h10 := c_l_markDisk (L := LL) (crashD d keep) 1 (by omega) (by omega) (by omega) (by omega) 
  have h11 := c_l_heldDisk (L := LL) (crashD d keep) 1 (by omega) (by omega) (by omega) (by omega) 
  have h12 := c_l_toBoolS keep (by omega) 
  have h13 := c_l_eqBoolS keep keep hk 
  have h14 := c_l_markBoolS keep (1 + d.cells.length + 2 * d.pending.length) (by omega) (by omega) (by omega) 
  simp at h4 h5 h6 h7 h8 h9 h10 h11 h13 
  have g1 : ¬ (1 + (d.cells.length : Int) + 2 * (d.pending.length : Int) + keep.length < 0) := by omega 
  have g2 : ¬ (1 + ((crashD d keep).cells.length : Int) + 2 * ((crashD d keep).pending.length : Int) < 0) := by omega 
  simp [h4, h5, h6, h7, h8, h9, h10, h11, h12, h13, h14, g1, g2, putA, backL, giveOk, otherR]
theorem law_FnExactCrash (d : Dsk) (h : DskOk d) (l : List Bool) (k : l.length ≤ 9223372036854775807 ∧ ∀ b ∈ l, True) : ∃ ps, ev LL TT 13 [.agg (eDsk .sl d), .row .sl 1 (l.map eB)] = some (.bool true, ps) := ⟨_, c_l_FnExactCrash d h l k.1⟩
end M
set_option linter.unusedVariables false
set_option linter.unusedSimpArgs false
namespace M
open Go
theorem c_s_l12Copy (d : Dsk) (h1 : d.cells.length ≤ 1048600) (h2 : d.pending.length ≤ 1048600) : ev LL TT 72 [.agg (eDsk .bor d)] = some (.agg (eDsk .own d), [.dead]) := by
  rw [ev_run (b := s_l12Copy_b) (rs := [.c 2 2 true 29]) (n := 1) rfl rfl]
  simp -implicitDefEqProofs [s_l12Copy_b, s_l12Copy_d0, s_l12Copy_d1, s_l12Copy_d2, s_l12Copy_d3, s_l12Copy_d4, s_l12Copy_d5, s_l12Copy_d6, s_l12Copy_d7, s_l12Copy_d8, s_l12Copy_d9, s_l12Copy_d10, (by omega : d.cells.length * 16 ≤ 140737488355328), (by omega : d.pending.length * 24 ≤ 140737488355328)]
def putD2 (d : Dsk) (a : Int) (t : Str) : Dsk := if okD d = true then (if 0 ≤ a ∧ a ≤ 19 ∧ d.pending.length < 16 then ⟨d.cells, d.pending ++ [⟨a, t⟩]⟩ else d) else ⟨[], []⟩
def putB (d : Dsk) (a : Int) : Bool := okD d && decide (0 ≤ a ∧ a ≤ 19 ∧ d.pending.length < 16)
theorem c_s_DiskPut (d : Dsk) (a : Int) (t : Str) (hb : d.pending.length ≤ 9223372036854775807) : ev LL TT 39 [.agg (eDsk .bor d), .int .i64 a, .str ⟨t.toArray⟩] = some (.tup [.agg (eDsk .own (putD2 d a t)), .bool (putB d a)], [.dead, .dead, .dead]) := by
  rw [ev_run (b := s_DiskPut_b) (rs := [.c 6 2 true 29, .t 7]) (n := 3) rfl rfl]
  have h2 := c_s_DiskOk (L := LL) d hb 
  simp at h2 
  unfold putD2 putB 
  by_cases h : okD d = true 
  · have h1 := okD_len h 
    have h3 := c_s_l12Copy d (by omega) (by omega) 
    simp at h3 
    by_cases h4 : d.pending.length = 16 
    · simp -implicitDefEqProofs [s_DiskPut_b, h, h2, h3, h4] 
    · have h5 : d.pending.length < 16 := by omega 
      have h7 : ¬ (d.pending.length : Int) = 16 := by omega 
      by_cases h6 : 0 ≤ a ∧ a ≤ 19 
      · have h8 : ¬ (a < 0 ∨ 19 < a) := by omega 
        simp -implicitDefEqProofs [s_DiskPut_b, h, h2, h3, h7, h5, h6, h8, (by omega : (d.pending.length + 1) * 24 ≤ 140737488355328), takeE] 
      · have h8 : a < 0 ∨ 19 < a := by omega 
        have h9 : ¬ (0 ≤ a ∧ a ≤ 19 ∧ d.pending.length < 16) := by omega 
        simp -implicitDefEqProofs [s_DiskPut_b, h, h2, h3, h7, h5, h8, h6]
  simp -implicitDefEqProofs [s_DiskPut_b, h, h2]
theorem c_i_DiskPut (d : Dsk) (a : Int) (t : Str) (hb : d.pending.length ≤ 9223372036854775807) : ev LL TT 38 [.agg (eDsk .bor d), .int .i64 a, .str ⟨t.toArray⟩] = some (.tup [.agg (eDsk .own (putD2 d a t)), .bool (putB d a)], [.dead, .dead, .dead]) := by
  rw [ev_run (b := i_DiskPut_b) (rs := [.c 6 2 true 29, .t 7]) (n := 3) rfl rfl]
  have h2 := c_i_DiskOk (L := LL) d hb 
  simp at h2 
  unfold putD2 putB 
  by_cases h : okD d = true 
  · have h1 := okD_len h 
    have h3 := c_i_copyDisk d (by omega) (by omega) 
    simp at h3 
    by_cases h6 : 0 ≤ a ∧ a ≤ 19 
    · by_cases h4 : d.pending.length = 16 
      · simp -implicitDefEqProofs [i_DiskPut_b, h, h2, h3, h4, h6] 
      · have h5 : d.pending.length < 16 := by omega 
        have h7 : ¬ (16 : Int) ≤ d.pending.length := by omega 
        simp -implicitDefEqProofs [i_DiskPut_b, h, h2, h3, h7, h5, h6, (by omega : (d.pending.length + 1) * 24 ≤ 140737488355328), takeE] 
    · have h9 : ¬ (0 ≤ a ∧ a ≤ 19 ∧ d.pending.length < 16) := by omega 
      simp -implicitDefEqProofs [i_DiskPut_b, h, h2, h3, h6, h9]
  simp -implicitDefEqProofs [i_DiskPut_b, h, h2]
theorem putD2_len (d : Dsk) (a : Int) (t : Str) : (putD2 d a t).cells.length ≤ 20 ∧ (putD2 d a t).pending.length ≤ 16 := by
  unfold putD2
  split
  · rename_i h
    have := okD_len h
    split
    · rename_i h'
      simp; omega
    · omega
  · simp
theorem c_l_FnExactDiskPut (d : Dsk) (h : DskOk d) (a : Int) (t : Str) (hk : t.length ≤ 9223372036854775807) : ev LL TT 11 [.agg (eDsk .sl d), .int .i64 a, .str ⟨t.toArray⟩] = some (.bool true, [.dead, .dead, .dead]) := by
  rw [ev_run (b := l_FnExactDiskPut_b) (rs := [.t 6]) (n := 3) rfl rfl]
  have h1 := c_l_szDisk (L := LL) d 1048576 h.hb h.hs h.hb' h.hs' (by omega) (by omega) 
  simp at h1 
  by_cases hkk : (1048576 : Int) < t.length 
  · simp -implicitDefEqProofs [l_FnExactDiskPut_b, hkk]
  simp -implicitDefEqProofs [l_FnExactDiskPut_b, h1, hkk]
  intro h2 
  have h3 := szDsk_le d 1048576 (by omega) (by omega) 
  have h4 := c_l_toDisk (L := LL) d (by omega) (by omega) 
  have h5 := c_s_DiskPut d a t h.hb' 
  have h6 := c_i_DiskPut d a t h.hb' 
  have h7 := c_l_eqDisk (L := LL) d d h.hb h.hb' 
  have f := putD2_len d a t 
  have h8 := c_l_eqDisk (L := LL) (putD2 d a t) (putD2 d a t) (by omega) (by omega) 
  have h9 := c_l_markDisk (L := LL) d 1 (by omega) (by omega) (by omega) (by omega) 
  have h10 := c_l_markDisk (L := LL) (putD2 d a t) 1 (by omega) (by omega) (by omega) (by omega) 
  have h11 := c_l_heldDisk (L := LL) (putD2 d a t) 1 (by omega) (by omega) (by omega) (by omega) 
  simp at h4 h5 h6 h7 h8 h9 h10 h11 
  have g1 : ¬ (1 + (d.cells.length : Int) + 2 * (d.pending.length : Int) < 0) := by omega 
  have g2 : ¬ (1 + ((putD2 d a t).cells.length : Int) + 2 * ((putD2 d a t).pending.length : Int) < 0) := by omega 
  simp [h4, h5, h6, h7, h8, h9, h10, h11, g1, g2, putA, backL, giveOk, otherR]
theorem law_FnExactDiskPut (d : Dsk) (h : DskOk d) (a : Int) (k : -9223372036854775808 ≤ a ∧ a ≤ 9223372036854775807) (t : Str) (kt : t.length ≤ 9223372036854775807) : ∃ ps, ev LL TT 11 [.agg (eDsk .sl d), .int .i64 a, .str ⟨t.toArray⟩] = some (.bool true, ps) := ⟨_, c_l_FnExactDiskPut d h a t kt⟩
end M
