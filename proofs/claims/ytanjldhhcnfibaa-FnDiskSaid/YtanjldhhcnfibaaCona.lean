/- What the functions come to in the machine; no conditions. -/
import Derived.Test.YtanjldhhcnfibaaTab
import Derived.Test.YtanjldhhcnfibaaMc
set_option linter.unusedSectionVars false
set_option linter.unusedVariables false
set_option linter.unusedSimpArgs false
namespace M
open Go
variable {L : Ora}
@[simp] theorem c_s_l1In (x a b : Int) : ev L TT 46 [.int .i64 x, .int .i64 a, .int .i64 b] = some (.bool (decide (a ≤ x ∧ x ≤ b)), [.dead, .dead, .dead]) := by
  rw [ev_run (b := s_l1In_b) (rs := [.t 6]) (n := 3) rfl rfl]
  simp -implicitDefEqProofs [s_l1In_b]
  split <;> simp_all <;> omega
@[simp] theorem c_i_inRange (x a b : Int) : ev L TT 47 [.int .i64 x, .int .i64 a, .int .i64 b] = some (.bool (decide (a ≤ x ∧ x ≤ b)), [.dead, .dead, .dead]) := by
  rw [ev_run (b := i_inRange_b) (rs := [.t 6]) (n := 3) rfl rfl]
  simp -implicitDefEqProofs [i_inRange_b]
  split <;> simp_all <;> omega
@[simp] theorem c_i_isCell (x : Int) : ev L TT 61 [.int .i64 x] = some (.bool (decide (0 ≤ x ∧ x ≤ 19)), [.dead]) := by
  rw [ev_run (b := i_isCell_b) (rs := [.t 2]) (n := 1) rfl rfl]
  simp -implicitDefEqProofs [i_isCell_b]
def okW (w : Wr) : Bool := decide (0 ≤ w.at_ ∧ w.at_ ≤ 19)
def okD (d : Dsk) : Bool := allB okW d.pending && decide (d.cells.length = 20 ∧ d.pending.length ≤ 16)
theorem L_s_DiskOk (d : Dsk) (hb : d.pending.length ≤ 9223372036854775807) : loopW (evA (ev L TT) (okT TT) s_DiskOk_L0) [(0, .agg (eDsk .bor d)), (1, .ptr .own (eDsk .bor d)), (3, .int .i64 0)] = if allB okW (d.pending) = true then some (.exit 0, [(0, .agg (eDsk .bor d)), (1, .ptr .own (eDsk .bor d)), (3, .int .i64 (d.pending).length), (8, .bool false)]) else some (.ret, [(2, .bool false)]) := by
  refine loop_all (f := evA (ev L TT) (okT TT) s_DiskOk_L0) (d.pending) (fun i => [(0, .agg (eDsk .bor d)), (1, .ptr .own (eDsk .bor d)), (3, .int .i64 i)]) okW _ _ (fun i b hi hl => ?_) ?_
  · have hw := wrap_succ i (by first | omega | (simp at hl; omega))
    obtain ⟨_, rfl⟩ := List.getElem?_eq_some_iff.1 hi
    simp -implicitDefEqProofs [s_DiskOk_L0, s_DiskOk_L0b, hl, hw, okW]
    split <;> simp_all <;> omega
  · simp -implicitDefEqProofs [s_DiskOk_L0, s_DiskOk_L0b]
theorem okD_iff (d : Dsk) : (decide ((d.cells.length : Int) = 20) && decide ((d.pending.length : Int) ≤ 16)) = decide (d.cells.length = 20 ∧ d.pending.length ≤ 16) := by
  rw [← Bool.decide_and]
  exact decide_eq_decide.2 (by omega)
@[simp] theorem c_s_DiskOk (d : Dsk) (hb : d.pending.length ≤ 9223372036854775807) : ev L TT 26 [.agg (eDsk .bor d)] = some (.bool (okD d), [.dead]) := by
  rw [ev_run (b := s_DiskOk_b) (rs := [.t 2]) (n := 1) rfl rfl]
  have h := L_s_DiskOk (L := L) d hb; simp at h
  simp -implicitDefEqProofs [s_DiskOk_b, h]
  have := okD_iff d; cases hh : allB okW d.pending <;> simp_all [okD] <;> split <;> simp_all
theorem L_i_DiskOk (d : Dsk) (hb : d.pending.length ≤ 9223372036854775807) : loopW (evA (ev L TT) (okT TT) i_DiskOk_L0) [(0, .agg (eDsk .bor d)), (1, .ptr .own (eDsk .bor d)), (5, .adr 1 [] 0 1), (6, .row .bor 2 (d.pending.map eW)), (7, .int .i64 d.pending.length), (8, .int .i64 0)] = if allB okW (d.pending) = true then some (.exit 0, [(0, .agg (eDsk .bor d)), (1, .ptr .own (eDsk .bor d)), (5, .adr 1 [] 0 1), (6, .row .bor 2 (d.pending.map eW)), (7, .int .i64 d.pending.length), (8, .int .i64 (d.pending).length), (9, .bool false)]) else some (.ret, [(2, .bool false)]) := by
  refine loop_all (f := evA (ev L TT) (okT TT) i_DiskOk_L0) (d.pending) (fun i => [(0, .agg (eDsk .bor d)), (1, .ptr .own (eDsk .bor d)), (5, .adr 1 [] 0 1), (6, .row .bor 2 (d.pending.map eW)), (7, .int .i64 d.pending.length), (8, .int .i64 i)]) okW _ _ (fun i b hi hl => ?_) ?_
  · have hw := wrap_succ i (by first | omega | (simp at hl; omega))
    obtain ⟨_, rfl⟩ := List.getElem?_eq_some_iff.1 hi
    simp -implicitDefEqProofs [i_DiskOk_L0, i_DiskOk_L0b, hl, hw, okW]
    split <;> simp_all <;> omega
  · simp -implicitDefEqProofs [i_DiskOk_L0, i_DiskOk_L0b]
@[simp] theorem c_i_DiskOk (d : Dsk) (hb : d.pending.length ≤ 9223372036854775807) : ev L TT 28 [.agg (eDsk .bor d)] = some (.bool (okD d), [.dead]) := by
  rw [ev_run (b := i_DiskOk_b) (rs := [.t 2]) (n := 1) rfl rfl]
  have h := L_i_DiskOk (L := L) d hb; simp at h
  simp -implicitDefEqProofs [i_DiskOk_b, h]
  have := okD_iff d; cases hh : allB okW d.pending <;> simp_all [okD] <;> split <;> simp_all
theorem c_l_szWrite (w : Wr) (n : Int) (h1 : -9223372036854775808 ≤ n - w.text.length) (h2 : n - w.text.length ≤ 9223372036854775807) : ev L TT 80 [.agg (eW w), .int .i64 n] = some (.int .i64 (if szS w.text n < 0 then -1 else szS w.text n), [.dead, .dead]) := by
  rw [ev_run (b := l_szWrite_b) (rs := [.t 4]) (n := 2) rfl rfl]
  have hw := wrap_id h1 h2; rw [show szS w.text n = n - w.text.length from rfl]
  simp -implicitDefEqProofs [l_szWrite_b, hw]
  split <;> simp_all
@[simp] theorem c_l_toWrite (w : Wr) : ev L TT 81 [.agg (eW w)] = some (.agg (eW w), [.dead]) := by
  rw [ev_run (b := l_toWrite_b) (rs := [.c 2 2 true 77]) (n := 1) rfl rfl]
  simp -implicitDefEqProofs [l_toWrite_b]
theorem L_l_szStringS (l : List Str) (hb : l.length ≤ 9223372036854775807) (hs : ∀ s ∈ l, s.length ≤ 9223372036854775807) (n : Int) (hn : 0 ≤ n) (hm : n ≤ 9223372036854775807) : loopW (evA (ev L TT) (okT TT) l_szStringS_L0) [(0, .row .bor 1 (l.map eS)), (1, .int .i64 n), (5, .int .i64 0)] = if szL szS (l) n < 0 then some (.ret, [(4, .int .i64 (-1))]) else some (.exit 0, [(0, .row .bor 1 (l.map eS)), (1, .int .i64 (szL szS (l) n)), (5, .int .i64 (l).length), (15, .bool false)]) := by
  refine loop_sz (f := evA (ev L TT) (okT TT) l_szStringS_L0) (l) (fun i n => [(0, .row .bor 1 (l.map eS)), (1, .int .i64 n), (5, .int .i64 i)]) szS _ (fun n => [(0, .row .bor 1 (l.map eS)), (1, .int .i64 n), (5, .int .i64 (l).length), (15, .bool false)]) n hn hm szS_le (fun i b n hi hl hn hm => ?_) (fun n => ?_)
  · have hw := wrap_succ i (by first | omega | (simp at hl; omega))
    obtain ⟨_, rfl⟩ := List.getElem?_eq_some_iff.1 hi
    have h1 := hs _ (List.getElem_mem hl); have h2 := wrap_id (n := n - (l[i]).length) (by omega) (by omega); rw [show szS l[i] n = n - (l[i]).length from rfl]
    simp -implicitDefEqProofs [l_szStringS_L0, l_szStringS_L0b, hl, hw, h2]
  · simp -implicitDefEqProofs [l_szStringS_L0, l_szStringS_L0b]
theorem c_l_szStringS (l : List Str) (n : Int) (hb : l.length ≤ 9223372036854775807) (hs : ∀ s ∈ l, s.length ≤ 9223372036854775807) (hn : 0 ≤ n) (hm : n ≤ 9223372036854775807) : ev L TT 57 [.row .bor 1 (l.map eS), .int .i64 n] = some (.int .i64 (szR szS l n), [.dead, .dead]) := by
  rw [ev_run (b := l_szStringS_b) (rs := [.t 4]) (n := 2) rfl rfl]
  have h2 := wrap_id (n := n - l.length) (by omega) (by omega); unfold szR
  simp -implicitDefEqProofs [l_szStringS_b, h2]
  by_cases h : n - l.length < 0 
  · simp [h] 
  · have h3 := L_l_szStringS (L := L) l hb hs (n - l.length) (by omega) (by omega) 
    simp only [h, if_false, h3] 
    by_cases h4 : szL szS l (n - l.length) < 0 
    · simp [h4, szL_neg h4 (by omega)] 
    · simp [h4]
theorem L_l_szWriteS (l : List Wr) (hb : l.length ≤ 9223372036854775807) (hs : ∀ s ∈ l, s.text.length ≤ 9223372036854775807) (n : Int) (hn : 0 ≤ n) (hm : n ≤ 9223372036854775807) : loopW (evA (ev L TT) (okT TT) l_szWriteS_L0) [(0, .row .bor 2 (l.map eW)), (1, .int .i64 n), (5, .int .i64 0)] = if szL szW (l) n < 0 then some (.ret, [(4, .int .i64 (-1))]) else some (.exit 0, [(0, .row .bor 2 (l.map eW)), (1, .int .i64 (szL szW (l) n)), (5, .int .i64 (l).length), (15, .bool false)]) := by
  refine loop_sz (f := evA (ev L TT) (okT TT) l_szWriteS_L0) (l) (fun i n => [(0, .row .bor 2 (l.map eW)), (1, .int .i64 n), (5, .int .i64 i)]) szW _ (fun n => [(0, .row .bor 2 (l.map eW)), (1, .int .i64 n), (5, .int .i64 (l).length), (15, .bool false)]) n hn hm szW_le (fun i b n hi hl hn hm => ?_) (fun n => ?_)
  · have hw := wrap_succ i (by first | omega | (simp at hl; omega))
    obtain ⟨_, rfl⟩ := List.getElem?_eq_some_iff.1 hi
    have h1 := hs _ (List.getElem_mem hl); have h2 := c_l_szWrite (L := L) l[i] n (by omega) (by omega); simp at h2
    simp -implicitDefEqProofs [l_szWriteS_L0, l_szWriteS_L0b, hl, hw, szW, h2]
  · simp -implicitDefEqProofs [l_szWriteS_L0, l_szWriteS_L0b]
theorem c_l_szWriteS (l : List Wr) (n : Int) (hb : l.length ≤ 9223372036854775807) (hs : ∀ s ∈ l, s.text.length ≤ 9223372036854775807) (hn : 0 ≤ n) (hm : n ≤ 9223372036854775807) : ev L TT 58 [.row .bor 2 (l.map eW), .int .i64 n] = some (.int .i64 (szR szW l n), [.dead, .dead]) := by
  rw [ev_run (b := l_szWriteS_b) (rs := [.t 4]) (n := 2) rfl rfl]
  have h2 := wrap_id (n := n - l.length) (by omega) (by omega); unfold szR
  simp -implicitDefEqProofs [l_szWriteS_b, h2]
  by_cases h : n - l.length < 0 
  · simp [h] 
  · have h3 := L_l_szWriteS (L := L) l hb hs (n - l.length) (by omega) (by omega) 
    simp only [h, if_false, h3] 
    by_cases h4 : szL szW l (n - l.length) < 0 
    · simp [h4, szL_neg h4 (by omega)] 
    · simp [h4]
theorem c_l_szDisk (d : Dsk) (n : Int) (hb : d.cells.length ≤ 9223372036854775807) (hs : ∀ s ∈ d.cells, s.length ≤ 9223372036854775807) (hb' : d.pending.length ≤ 9223372036854775807) (hs' : ∀ s ∈ d.pending, s.text.length ≤ 9223372036854775807) (hn : 0 ≤ n) (hm : n ≤ 9223372036854775807) : ev L TT 25 [.agg (eDsk .bor d), .int .i64 n] = some (.int .i64 (szDsk d n), [.dead, .dead]) := by
  rw [ev_run (b := l_szDisk_b) (rs := [.t 4]) (n := 2) rfl rfl]
  have h2 := c_l_szStringS (L := L) d.cells n hb hs hn hm 
  unfold szDsk
  simp -implicitDefEqProofs [l_szDisk_b, h2]
  by_cases h : szR szS d.cells n < 0 
  · simp [h] 
  · have h3 := szR_le szS_le d.cells n hn (by omega) 
    have h4 := c_l_szWriteS (L := L) d.pending _ hb' hs' (by omega : 0 ≤ szR szS d.cells n) (by omega) 
    simp [h, h4] 
    by_cases h5 : szR szW d.pending (szR szS d.cells n) < 0 
    · simp [h5] 
    · simp [h5]
theorem L_l_toStringS (l : List Str) (hb : l.length ≤ 9223372036854775807) : loopW (evA (ev L TT) (okT TT) l_toStringS_L0) [(0, .row .bor 1 (l.map eS)), (3, .row .own 1 (fillN (l.map eS) 0 [.str ⟨#[]⟩])), (4, .int .i64 0), (6, .int .i64 l.length), (7, .dead)] = some (.exit 0, [(0, .row .bor 1 (l.map eS)), (3, .row .own 1 (l.map eS)), (4, .int .i64 (l).length), (6, .int .i64 l.length), (7, .dead), (11, .bool false)]) := by
  refine loop_count (f := evA (ev L TT) (okT TT) l_toStringS_L0) (l) (fun i => [(0, .row .bor 1 (l.map eS)), (3, .row .own 1 (fillN (l.map eS) i [.str ⟨#[]⟩])), (4, .int .i64 i), (6, .int .i64 l.length), (7, .dead)]) _ (fun i b hi hl => ?_) ?_
  · have hw := wrap_succ i (by first | omega | (simp at hl; omega))
    obtain ⟨_, rfl⟩ := List.getElem?_eq_some_iff.1 hi
    simp -implicitDefEqProofs [l_toStringS_L0, l_toStringS_L0b, hl, hw]
  · simp -implicitDefEqProofs [l_toStringS_L0, l_toStringS_L0b]
theorem c_l_toStringS (l : List Str) (hb : l.length ≤ 1048576) : ev L TT 59 [.row .bor 1 (l.map eS)] = some (.row .own 1 (l.map eS), [.dead]) := by
  rw [ev_run (b := l_toStringS_b) (rs := [.t 2]) (n := 1) rfl rfl]
  have h := L_l_toStringS (L := L) l (by omega) 
  simp at h
  simp -implicitDefEqProofs [l_toStringS_b, h, (by omega : (l.length : Int) * 16 ≤ 140737488355328)]
theorem L_l_toWriteS (l : List Wr) (hb : l.length ≤ 9223372036854775807) : loopW (evA (ev L TT) (okT TT) l_toWriteS_L0) [(0, .row .bor 2 (l.map eW)), (3, .row .own 2 (fillN (l.map eW) 0 [.int .i64 0, .str ⟨#[]⟩])), (4, .int .i64 0), (6, .int .i64 l.length), (7, .dead)] = some (.exit 0, [(0, .row .bor 2 (l.map eW)), (3, .row .own 2 (l.map eW)), (4, .int .i64 (l).length), (6, .int .i64 l.length), (7, .dead), (11, .bool false)]) := by
  refine loop_count (f := evA (ev L TT) (okT TT) l_toWriteS_L0) (l) (fun i => [(0, .row .bor 2 (l.map eW)), (3, .row .own 2 (fillN (l.map eW) i [.int .i64 0, .str ⟨#[]⟩])), (4, .int .i64 i), (6, .int .i64 l.length), (7, .dead)]) _ (fun i b hi hl => ?_) ?_
  · have hw := wrap_succ i (by first | omega | (simp at hl; omega))
    obtain ⟨_, rfl⟩ := List.getElem?_eq_some_iff.1 hi
    have h := c_l_toWrite (L := L) l[i]; simp at h
    simp -implicitDefEqProofs [l_toWriteS_L0, l_toWriteS_L0b, hl, hw, h]
    first | done | rw [modify_two, fillN_set _ _ _ _ (by simpa using hl) (by simp)]
  · simp -implicitDefEqProofs [l_toWriteS_L0, l_toWriteS_L0b]
theorem c_l_toWriteS (l : List Wr) (hb : l.length ≤ 1048576) : ev L TT 60 [.row .bor 2 (l.map eW)] = some (.row .own 2 (l.map eW), [.dead]) := by
  rw [ev_run (b := l_toWriteS_b) (rs := [.t 2]) (n := 1) rfl rfl]
  have h := L_l_toWriteS (L := L) l (by omega) 
  simp at h
  simp -implicitDefEqProofs [l_toWriteS_b, h, (by omega : (l.length : Int) * 24 ≤ 140737488355328)]
theorem c_l_toDisk (d : Dsk) (hb : d.cells.length ≤ 1048576) (hb' : d.pending.length ≤ 1048576) : ev L TT 27 [.agg (eDsk .bor d)] = some (.agg (eDsk .own d), [.dead]) := by
  rw [ev_run (b := l_toDisk_b) (rs := [.c 2 2 true 29]) (n := 1) rfl rfl]
  have h1 := c_l_toStringS (L := L) d.cells hb 
  have h2 := c_l_toWriteS (L := L) d.pending hb'
  simp -implicitDefEqProofs [l_toDisk_b, h1, h2]
@[simp] theorem c_l_eqWrite (w v : Wr) : ev L TT 74 [.agg (eW w), .agg (eW v)] = some (.bool (decide (w = v)), [.dead, .dead]) := by
  rw [ev_run (b := l_eqWrite_b) (rs := [.t 4]) (n := 2) rfl rfl]
  simp -implicitDefEqProofs [l_eqWrite_b]
  obtain ⟨a, t⟩ := w; obtain ⟨b, u⟩ := v; by_cases h1 : a = b <;> by_cases h2 : t = u <;> simp_all
theorem L_l_eqStringS (ps : List (Str × Str)) (hb : ps.length ≤ 9223372036854775807) : loopW (evA (ev L TT) (okT TT) l_eqStringS_L0) [(0, .row .bor 1 (ps.map fun x => eS x.1)), (1, .row .bor 1 (ps.map fun x => eS x.2)), (5, .int .i64 0)] = if allB eqB (ps) = true then some (.exit 0, [(0, .row .bor 1 (ps.map fun x => eS x.1)), (1, .row .bor 1 (ps.map fun x => eS x.2)), (5, .int .i64 ps.length), (14, .bool false)]) else some (.ret, [(4, .bool false)]) := by
  refine loop_all (f := evA (ev L TT) (okT TT) l_eqStringS_L0) (ps) (fun i => [(0, .row .bor 1 (ps.map fun x => eS x.1)), (1, .row .bor 1 (ps.map fun x => eS x.2)), (5, .int .i64 i)]) eqB _ _ (fun i b hi hl => ?_) ?_
  · have hw := wrap_succ i (by first | omega | (simp at hl; omega))
    obtain ⟨_, rfl⟩ := List.getElem?_eq_some_iff.1 hi
    simp -implicitDefEqProofs [l_eqStringS_L0, l_eqStringS_L0b, hl, hw, eqB]
  · simp -implicitDefEqProofs [l_eqStringS_L0, l_eqStringS_L0b]
theorem c_l_eqStringS (a b : List Str) (hb : a.length ≤ 9223372036854775807) : ev L TT 48 [.row .bor 1 (a.map eS), .row .bor 1 (b.map eS)] = some (.bool (decide (a = b)), [.dead, .dead]) := by
  rw [ev_run (b := l_eqStringS_b) (rs := [.t 4]) (n := 2) rfl rfl]
  simp -implicitDefEqProofs [l_eqStringS_b]
  by_cases h : a.length = b.length 
  · obtain ⟨ps, rfl, rfl⟩ := zip_ex h 
    have h1 := L_l_eqStringS (L := L) ps (by simpa using hb) 
    have h2 := allB_eq ps 
    simp at h1 
    cases h3 : allB eqB ps <;> rw [h3] at h1 h2 <;> simp [h1, Function.comp_def, ← h2] 
  · have : ¬ a = b := fun e => h (by rw [e]) 
    simp [this] 
    omega
theorem L_l_eqWriteS (ps : List (Wr × Wr)) (hb : ps.length ≤ 9223372036854775807) : loopW (evA (ev L TT) (okT TT) l_eqWriteS_L0) [(0, .row .bor 2 (ps.map fun x => eW x.1)), (1, .row .bor 2 (ps.map fun x => eW x.2)), (5, .int .i64 0)] = if allB eqB (ps) = true then some (.exit 0, [(0, .row .bor 2 (ps.map fun x => eW x.1)), (1, .row .bor 2 (ps.map fun x => eW x.2)), (5, .int .i64 ps.length), (14, .bool false)]) else some (.ret, [(4, .bool false)]) := by
  refine loop_all (f := evA (ev L TT) (okT TT) l_eqWriteS_L0) (ps) (fun i => [(0, .row .bor 2 (ps.map fun x => eW x.1)), (1, .row .bor 2 (ps.map fun x => eW x.2)), (5, .int .i64 i)]) eqB _ _ (fun i b hi hl => ?_) ?_
  · have hw := wrap_succ i (by first | omega | (simp at hl; omega))
    obtain ⟨_, rfl⟩ := List.getElem?_eq_some_iff.1 hi
    have h := c_l_eqWrite (L := L) (ps[i]).1 (ps[i]).2; simp at h
    simp -implicitDefEqProofs [l_eqWriteS_L0, l_eqWriteS_L0b, hl, hw, eqB, h]
  · simp -implicitDefEqProofs [l_eqWriteS_L0, l_eqWriteS_L0b]
theorem c_l_eqWriteS (a b : List Wr) (hb : a.length ≤ 9223372036854775807) : ev L TT 49 [.row .bor 2 (a.map eW), .row .bor 2 (b.map eW)] = some (.bool (decide (a = b)), [.dead, .dead]) := by
  rw [ev_run (b := l_eqWriteS_b) (rs := [.t 4]) (n := 2) rfl rfl]
  simp -implicitDefEqProofs [l_eqWriteS_b]
  by_cases h : a.length = b.length 
  · obtain ⟨ps, rfl, rfl⟩ := zip_ex h 
    have h1 := L_l_eqWriteS (L := L) ps (by simpa using hb) 
    have h2 := allB_eq ps 
    simp at h1 
    cases h3 : allB eqB ps <;> rw [h3] at h1 h2 <;> simp [h1, Function.comp_def, ← h2] 
  · have : ¬ a = b := fun e => h (by rw [e]) 
    simp [this] 
    omega
theorem c_l_eqDisk (a b : Dsk) (hb : a.cells.length ≤ 9223372036854775807) (hb' : a.pending.length ≤ 9223372036854775807) : ev L TT 20 [.agg (eDsk .bor a), .agg (eDsk .bor b)] = some (.bool (decide (a = b)), [.dead, .dead]) := by
  rw [ev_run (b := l_eqDisk_b) (rs := [.t 4]) (n := 2) rfl rfl]
  have h1 := c_l_eqStringS (L := L) a.cells b.cells hb 
  have h2 := c_l_eqWriteS (L := L) a.pending b.pending hb'
  simp -implicitDefEqProofs [l_eqDisk_b, h1, h2]
  obtain ⟨a, t⟩ := a; obtain ⟨b, u⟩ := b; by_cases h1 : a = b <;> by_cases h2 : t = u <;> simp_all
end M
