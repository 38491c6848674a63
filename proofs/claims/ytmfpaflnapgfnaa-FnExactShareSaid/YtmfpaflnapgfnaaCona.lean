/- What the functions come to in the machine; no conditions. -/
import Derived.Test.YtmfpaflnapgfnaaTab
import Derived.Test.YtmfpaflnapgfnaaMd
set_option linter.unusedSectionVars false
set_option linter.unusedVariables false
set_option linter.unusedSimpArgs false
namespace M
open Go
variable {L : Ora}
theorem L_l_szStringS (l : List Str) (hlen : l.length ≤ 9223372036854775807) (hb : bL bS l) (n : Int) (hn : 0 ≤ n) (hm : n ≤ 9223372036854775807) : loopW (evA (ev L TT) (okT TT) l_szStringS_L0) [(0, .row .bor 1 (l.map (eS))), (1, .int .i64 n), (5, .int .i64 0)] = if szL (fun b n => subW n (wS b)) (l) n < 0 then some (.ret, [(4, .int .i64 (-1))]) else some (.exit 0, [(0, .row .bor 1 (l.map (eS))), (1, .int .i64 (szL (fun b n => subW n (wS b)) (l) n)), (5, .int .i64 (l).length), (15, .bool false)]) := by
  refine loop_sz (f := evA (ev L TT) (okT TT) l_szStringS_L0) (l) (fun i n => [(0, .row .bor 1 (l.map (eS))), (1, .int .i64 n), (5, .int .i64 i)]) (fun b n => subW n (wS b)) _ (fun n => [(0, .row .bor 1 (l.map (eS))), (1, .int .i64 n), (5, .int .i64 (l).length), (15, .bool false)]) n hn hm (fun b n => subW_le _ n) (fun i b n hi hl hn hm => ?_) (fun n => ?_)
  · have hw := wrap_succ i (by first | omega | (simp at hl; omega))
    obtain ⟨_, rfl⟩ := List.getElem?_eq_some_iff.1 hi
    have h1 : (l[i]).length ≤ 9223372036854775807 := hb.2 _ (List.getElem_mem hl) 
    have h3 := subW_or n (wS l[i]) 
    have h4 : wS l[i] = (l[i]).length := rfl 
    obtain ⟨m, e1⟩ : ∃ m, m = n - ((l[i]).length : Int) := ⟨_, rfl⟩ 
    have h2 : IntKind.i64.wrap (n - ((l[i]).length : Int)) = m := by rw [e1]; exact wrap_id (by omega) (by omega) 
    by_cases h5 : m < 0 
    · have ef : subW n (wS l[i]) = -1 := by omega 
      simp -implicitDefEqProofs [l_szStringS_L0, l_szStringS_L0b, hl, hw, h2, h5, ef] 
    have ef : subW n (wS l[i]) = m := by omega
    simp -implicitDefEqProofs [l_szStringS_L0, l_szStringS_L0b, hl, hw, h2, h5, ef]
  · simp -implicitDefEqProofs [l_szStringS_L0, l_szStringS_L0b]
theorem c_l_szStringS (l : List Str) (n : Int) (hb : bL bS l) (hn : 0 ≤ n) (hm : n ≤ 9223372036854775807) : ev L TT 91 [.row .bor 1 (l.map (eS)), .int .i64 n] = some (.int .i64 (subW n (wL wS l)), [.dead, .dead]) := by
  rw [ev_run (b := l_szStringS_b) (rs := [.t 4]) (n := 2) rfl rfl]
  have hl := hb.1 
  have hw : wL wS l = l.length + (l.map wS).sum := rfl 
  have ht := subW_or n (wL wS l) 
  obtain ⟨m, e1⟩ : ∃ m, m = n - (l.length : Int) := ⟨_, rfl⟩ 
  have h2 : IntKind.i64.wrap (n - (l.length : Int)) = m := by rw [e1]; exact wrap_id (by omega) (by omega) 
  by_cases h : m < 0 
  · have ef : subW n (wL wS l) = -1 := by omega 
    simp -implicitDefEqProofs [l_szStringS_b, h2, h, ef] 
  have h3 := L_l_szStringS (L := L) l hb.1 hb m (by omega) (by omega) 
  rw [szL_subW _ _ _ (by omega)] at h3 
  have hs := subW_or m (l.map wS).sum 
  obtain ⟨q, e2⟩ : ∃ q, q = subW m (l.map wS).sum := ⟨_, rfl⟩ 
  rw [← e2] at h3 hs 
  try simp at h3 
  by_cases h4 : q < 0 
  · have ef : subW n (wL wS l) = -1 := by omega 
    simp only [h4, if_true] at h3 
    simp -implicitDefEqProofs [l_szStringS_b, h2, h, h3, ef] 
  have ef : subW n (wL wS l) = q := by omega 
  simp only [h4, if_false] at h3
  simp -implicitDefEqProofs [l_szStringS_b, h2, h, h3, ef]
theorem L_l_toStringS (l : List Str) (hlen : l.length ≤ 1048576) (hb : wL wS l ≤ 1048576) : loopW (evA (ev L TT) (okT TT) l_toStringS_L0) [(0, .row .bor 1 (l.map eS)), (3, .row .own 1 (fillN (l.map eS) 0 [.str ⟨#[]⟩])), (4, .int .i64 0), (6, .int .i64 l.length)] = some (.exit 0, [(0, .row .bor 1 (l.map eS)), (3, .row .own 1 (l.map eS)), (4, .int .i64 (l).length), (6, .int .i64 l.length), (11, .bool false)]) := by
  refine loop_count (f := evA (ev L TT) (okT TT) l_toStringS_L0) (l) (fun i => [(0, .row .bor 1 (l.map eS)), (3, .row .own 1 (fillN (l.map eS) i [.str ⟨#[]⟩])), (4, .int .i64 i), (6, .int .i64 l.length)]) _ (fun i b hi hl => ?_) ?_
  · have hw := wrap_succ i (by first | omega | (simp at hl; omega))
    obtain ⟨_, rfl⟩ := List.getElem?_eq_some_iff.1 hi
    skip
    simp -implicitDefEqProofs [l_toStringS_L0, l_toStringS_L0b, hl, hw]
    first | done | (rw [fillN_set _ _ _ _ (by simpa using hl) (by simp)]; done) | (simp only [modify_two]; rw [fillN_set _ _ _ _ (by simpa using hl) (by simp)])
  · simp -implicitDefEqProofs [l_toStringS_L0, l_toStringS_L0b]
theorem c_l_toStringS (l : List Str) (hb : wL wS l ≤ 1048576) : ev L TT 96 [.row .bor 1 (l.map eS)] = some (.row .own 1 (l.map eS), [.dead]) := by
  rw [ev_run (b := l_toStringS_b) (rs := [.t 2]) (n := 1) rfl rfl]
  have hlen := wL_len (w := wS) l 
  have h := L_l_toStringS (L := L) l (by omega) hb 
  try simp at h
  simp -implicitDefEqProofs [l_toStringS_b, h, (by omega : (l.length : Int) * 16 ≤ 140737488355328)]
theorem L_l_eqStringS (ps : List (Str × Str)) (hb : ps.length ≤ 9223372036854775807) (hb1 : ∀ x ∈ ps, bS x.1) : loopW (evA (ev L TT) (okT TT) l_eqStringS_L0) [(0, .row .bor 1 (ps.map (fun x : Str × Str => eS x.1))), (1, .row .bor 1 (ps.map (fun x : Str × Str => eS x.2))), (5, .int .i64 0)] = if allB eqB (ps) = true then some (.exit 0, [(0, .row .bor 1 (ps.map (fun x : Str × Str => eS x.1))), (1, .row .bor 1 (ps.map (fun x : Str × Str => eS x.2))), (5, .int .i64 ps.length), (14, .bool false)]) else some (.ret, [(4, .bool false)]) := by
  refine loop_all (f := evA (ev L TT) (okT TT) l_eqStringS_L0) (ps) (fun i => [(0, .row .bor 1 (ps.map (fun x : Str × Str => eS x.1))), (1, .row .bor 1 (ps.map (fun x : Str × Str => eS x.2))), (5, .int .i64 i)]) eqB _ _ (fun i b hi hl => ?_) ?_
  · have hw := wrap_succ i (by first | omega | (simp at hl; omega))
    obtain ⟨_, rfl⟩ := List.getElem?_eq_some_iff.1 hi
    simp -implicitDefEqProofs [l_eqStringS_L0, l_eqStringS_L0b, hl, hw, eqB]
    first | done | (split <;> simp_all)
  · simp -implicitDefEqProofs [l_eqStringS_L0, l_eqStringS_L0b]
theorem c_l_eqStringS (a b : List Str) (hb : bL bS a) : ev L TT 65 [.row .bor 1 (a.map eS), .row .bor 1 (b.map eS)] = some (.bool (decide (a = b)), [.dead, .dead]) := by
  rw [ev_run (b := l_eqStringS_b) (rs := [.t 4]) (n := 2) rfl rfl]
  simp -implicitDefEqProofs [l_eqStringS_b]
  by_cases h : a.length = b.length 
  · obtain ⟨ps, rfl, rfl⟩ := zip_ex h 
    have h1 := L_l_eqStringS (L := L) ps (by simpa using hb.1) (fun x hx => hb.2 _ (List.mem_map_of_mem hx)) 
    have h2 := allB_eq ps 
    simp at h1 
    cases h3 : allB eqB ps <;> rw [h3] at h1 h2 <;> simp [h1, Function.comp_def, ← h2] 
  · have : ¬ a = b := fun e => h (by rw [e]) 
    simp [this] 
    omega
theorem c_l_szWrite (a : Wr) (n : Int) (hb : bWr a) (hn : 0 ≤ n) (hm : n ≤ 9223372036854775807) : ev L TT 116 [.agg (eW a), .int .i64 n] = some (.int .i64 (subW n (wWr a)), [.dead, .dead]) := by
  rw [ev_run (b := l_szWrite_b) (rs := [.t 4]) (n := 2) rfl rfl]
  have hw : wWr a = a.text.length := rfl 
  have ht := subW_or n (wWr a) 
  have hl1 : a.text.length ≤ 9223372036854775807 := hb.k_text 
  obtain ⟨m1, e1⟩ : ∃ m, m = n - (a.text.length : Int) := ⟨_, rfl⟩ 
  have c1 : IntKind.i64.wrap (n - (a.text.length : Int)) = m1 := by rw [e1]; exact wrap_id (by omega) (by omega) 
  by_cases h1 : m1 < 0 
  · have ef : subW n (wWr a) = -1 := by omega 
    simp -implicitDefEqProofs [l_szWrite_b, c1, h1, ef] 
  have ef : subW n (wWr a) = m1 := by omega
  simp -implicitDefEqProofs [l_szWrite_b, c1, h1, ef]
theorem c_l_toWrite (a : Wr) (hb : wWr a ≤ 1048576) : ev L TT 117 [.agg (eW a)] = some (.agg (eW a), [.dead]) := by
  rw [ev_run (b := l_toWrite_b) (rs := [.c 2 2 true 157]) (n := 1) rfl rfl]
  have hw : wWr a = a.text.length := rfl
  simp -implicitDefEqProofs [l_toWrite_b, hw]
theorem c_l_eqWrite (a b : Wr) (hb : bWr a) : ev L TT 99 [.agg (eW a), .agg (eW b)] = some (.bool (decide (a = b)), [.dead, .dead]) := by
  rw [ev_run (b := l_eqWrite_b) (rs := [.t 4]) (n := 2) rfl rfl]
  rw [dec_Wr] 
  by_cases g1 : a.at_ = b.at_ 
  rotate_left 
  · simp -implicitDefEqProofs [l_eqWrite_b, eq_false g1] 
  by_cases g2 : a.text = b.text 
  rotate_left 
  · simp -implicitDefEqProofs [l_eqWrite_b, eq_true g1, eq_false g2]
  simp -implicitDefEqProofs [l_eqWrite_b, eq_true g1, eq_true g2]
theorem L_l_szWriteS (l : List Wr) (hlen : l.length ≤ 9223372036854775807) (hb : bL bWr l) (n : Int) (hn : 0 ≤ n) (hm : n ≤ 9223372036854775807) : loopW (evA (ev L TT) (okT TT) l_szWriteS_L0) [(0, .row .bor 2 (l.map (eW))), (1, .int .i64 n), (5, .int .i64 0)] = if szL (fun b n => subW n (wWr b)) (l) n < 0 then some (.ret, [(4, .int .i64 (-1))]) else some (.exit 0, [(0, .row .bor 2 (l.map (eW))), (1, .int .i64 (szL (fun b n => subW n (wWr b)) (l) n)), (5, .int .i64 (l).length), (15, .bool false)]) := by
  refine loop_sz (f := evA (ev L TT) (okT TT) l_szWriteS_L0) (l) (fun i n => [(0, .row .bor 2 (l.map (eW))), (1, .int .i64 n), (5, .int .i64 i)]) (fun b n => subW n (wWr b)) _ (fun n => [(0, .row .bor 2 (l.map (eW))), (1, .int .i64 n), (5, .int .i64 (l).length), (15, .bool false)]) n hn hm (fun b n => subW_le _ n) (fun i b n hi hl hn hm => ?_) (fun n => ?_)
  · have hw := wrap_succ i (by first | omega | (simp at hl; omega))
    obtain ⟨_, rfl⟩ := List.getElem?_eq_some_iff.1 hi
    have h2 := c_l_szWrite (L := L) l[i] n (hb.2 _ (List.getElem_mem hl)) hn hm 
    obtain ⟨m, e1⟩ : ∃ m, m = subW n (wWr l[i]) := ⟨_, rfl⟩ 
    rw [← e1] at h2 ⊢ 
    try simp at h2
    simp -implicitDefEqProofs [l_szWriteS_L0, l_szWriteS_L0b, hl, hw, h2]
  · simp -implicitDefEqProofs [l_szWriteS_L0, l_szWriteS_L0b]
theorem c_l_szWriteS (l : List Wr) (n : Int) (hb : bL bWr l) (hn : 0 ≤ n) (hm : n ≤ 9223372036854775807) : ev L TT 100 [.row .bor 2 (l.map (eW)), .int .i64 n] = some (.int .i64 (subW n (wL wWr l)), [.dead, .dead]) := by
  rw [ev_run (b := l_szWriteS_b) (rs := [.t 4]) (n := 2) rfl rfl]
  have hl := hb.1 
  have hw : wL wWr l = l.length + (l.map wWr).sum := rfl 
  have ht := subW_or n (wL wWr l) 
  obtain ⟨m, e1⟩ : ∃ m, m = n - (l.length : Int) := ⟨_, rfl⟩ 
  have h2 : IntKind.i64.wrap (n - (l.length : Int)) = m := by rw [e1]; exact wrap_id (by omega) (by omega) 
  by_cases h : m < 0 
  · have ef : subW n (wL wWr l) = -1 := by omega 
    simp -implicitDefEqProofs [l_szWriteS_b, h2, h, ef] 
  have h3 := L_l_szWriteS (L := L) l hb.1 hb m (by omega) (by omega) 
  rw [szL_subW _ _ _ (by omega)] at h3 
  have hs := subW_or m (l.map wWr).sum 
  obtain ⟨q, e2⟩ : ∃ q, q = subW m (l.map wWr).sum := ⟨_, rfl⟩ 
  rw [← e2] at h3 hs 
  try simp at h3 
  by_cases h4 : q < 0 
  · have ef : subW n (wL wWr l) = -1 := by omega 
    simp only [h4, if_true] at h3 
    simp -implicitDefEqProofs [l_szWriteS_b, h2, h, h3, ef] 
  have ef : subW n (wL wWr l) = q := by omega 
  simp only [h4, if_false] at h3
  simp -implicitDefEqProofs [l_szWriteS_b, h2, h, h3, ef]
theorem L_l_toWriteS (l : List Wr) (hlen : l.length ≤ 1048576) (hb : wL wWr l ≤ 1048576) : loopW (evA (ev L TT) (okT TT) l_toWriteS_L0) [(0, .row .bor 2 (l.map eW)), (3, .row .own 2 (fillN (l.map eW) 0 [.int .i64 0, .str ⟨#[]⟩])), (4, .int .i64 0), (6, .int .i64 l.length)] = some (.exit 0, [(0, .row .bor 2 (l.map eW)), (3, .row .own 2 (l.map eW)), (4, .int .i64 (l).length), (6, .int .i64 l.length), (11, .bool false)]) := by
  refine loop_count (f := evA (ev L TT) (okT TT) l_toWriteS_L0) (l) (fun i => [(0, .row .bor 2 (l.map eW)), (3, .row .own 2 (fillN (l.map eW) i [.int .i64 0, .str ⟨#[]⟩])), (4, .int .i64 i), (6, .int .i64 l.length)]) _ (fun i b hi hl => ?_) ?_
  · have hw := wrap_succ i (by first | omega | (simp at hl; omega))
    obtain ⟨_, rfl⟩ := List.getElem?_eq_some_iff.1 hi
    have h := c_l_toWrite (L := L) l[i] (Nat.le_trans (wL_mem (List.getElem_mem hl)) hb) 
    try simp at h
    simp -implicitDefEqProofs [l_toWriteS_L0, l_toWriteS_L0b, hl, hw, h]
    first | done | (rw [fillN_set _ _ _ _ (by simpa using hl) (by simp)]; done) | (simp only [modify_two]; rw [fillN_set _ _ _ _ (by simpa using hl) (by simp)])
  · simp -implicitDefEqProofs [l_toWriteS_L0, l_toWriteS_L0b]
theorem c_l_toWriteS (l : List Wr) (hb : wL wWr l ≤ 1048576) : ev L TT 104 [.row .bor 2 (l.map eW)] = some (.row .own 2 (l.map eW), [.dead]) := by
  rw [ev_run (b := l_toWriteS_b) (rs := [.t 2]) (n := 1) rfl rfl]
  have hlen := wL_len (w := wWr) l 
  have h := L_l_toWriteS (L := L) l (by omega) hb 
  try simp at h
  simp -implicitDefEqProofs [l_toWriteS_b, h, (by omega : (l.length : Int) * 24 ≤ 140737488355328)]
theorem L_l_eqWriteS (ps : List (Wr × Wr)) (hb : ps.length ≤ 9223372036854775807) (hb1 : ∀ x ∈ ps, bWr x.1) : loopW (evA (ev L TT) (okT TT) l_eqWriteS_L0) [(0, .row .bor 2 (ps.map (fun x : Wr × Wr => eW x.1))), (1, .row .bor 2 (ps.map (fun x : Wr × Wr => eW x.2))), (5, .int .i64 0)] = if allB eqB (ps) = true then some (.exit 0, [(0, .row .bor 2 (ps.map (fun x : Wr × Wr => eW x.1))), (1, .row .bor 2 (ps.map (fun x : Wr × Wr => eW x.2))), (5, .int .i64 ps.length), (14, .bool false)]) else some (.ret, [(4, .bool false)]) := by
  refine loop_all (f := evA (ev L TT) (okT TT) l_eqWriteS_L0) (ps) (fun i => [(0, .row .bor 2 (ps.map (fun x : Wr × Wr => eW x.1))), (1, .row .bor 2 (ps.map (fun x : Wr × Wr => eW x.2))), (5, .int .i64 i)]) eqB _ _ (fun i b hi hl => ?_) ?_
  · have hw := wrap_succ i (by first | omega | (simp at hl; omega))
    obtain ⟨_, rfl⟩ := List.getElem?_eq_some_iff.1 hi
    have h := c_l_eqWrite (L := L) (ps[i]).1 (ps[i]).2 (hb1 _ (List.getElem_mem hl)); try simp at h
    simp -implicitDefEqProofs [l_eqWriteS_L0, l_eqWriteS_L0b, hl, hw, eqB, h]
  · simp -implicitDefEqProofs [l_eqWriteS_L0, l_eqWriteS_L0b]
theorem c_l_eqWriteS (a b : List Wr) (hb : bL bWr a) : ev L TT 66 [.row .bor 2 (a.map eW), .row .bor 2 (b.map eW)] = some (.bool (decide (a = b)), [.dead, .dead]) := by
  rw [ev_run (b := l_eqWriteS_b) (rs := [.t 4]) (n := 2) rfl rfl]
  simp -implicitDefEqProofs [l_eqWriteS_b]
  by_cases h : a.length = b.length 
  · obtain ⟨ps, rfl, rfl⟩ := zip_ex h 
    have h1 := L_l_eqWriteS (L := L) ps (by simpa using hb.1) (fun x hx => hb.2 _ (List.mem_map_of_mem hx)) 
    have h2 := allB_eq ps 
    simp at h1 
    cases h3 : allB eqB ps <;> rw [h3] at h1 h2 <;> simp [h1, Function.comp_def, ← h2] 
  · have : ¬ a = b := fun e => h (by rw [e]) 
    simp [this] 
    omega
theorem c_l_szDisk (a : Dsk) (n : Int) (hb : bDsk a) (hn : 0 ≤ n) (hm : n ≤ 9223372036854775807) : ev L TT 76 [.agg ((eDsk .bor) a), .int .i64 n] = some (.int .i64 (subW n (wDsk a)), [.dead, .dead]) := by
  rw [ev_run (b := l_szDisk_b) (rs := [.t 4]) (n := 2) rfl rfl]
  have hw : wDsk a = wL wS a.cells + wL wWr a.pending := rfl 
  have ht := subW_or n (wDsk a) 
  have c1 := c_l_szStringS (L := L) a.cells n hb.k_cells (by omega) (by omega) 
  have s1 := subW_or n (wL wS a.cells) 
  obtain ⟨m1, e1⟩ : ∃ m, m = subW n (wL wS a.cells) := ⟨_, rfl⟩ 
  rw [← e1] at c1 s1 
  try simp at c1 
  by_cases h1 : m1 < 0 
  · have ef : subW n (wDsk a) = -1 := by omega 
    simp -implicitDefEqProofs [l_szDisk_b, c1, h1, ef] 
  have c2 := c_l_szWriteS (L := L) a.pending m1 hb.k_pending (by omega) (by omega) 
  have s2 := subW_or m1 (wL wWr a.pending) 
  obtain ⟨m2, e2⟩ : ∃ m, m = subW m1 (wL wWr a.pending) := ⟨_, rfl⟩ 
  rw [← e2] at c2 s2 
  try simp at c2 
  by_cases h2 : m2 < 0 
  · have ef : subW n (wDsk a) = -1 := by omega 
    simp -implicitDefEqProofs [l_szDisk_b, c1, h1, c2, h2, ef] 
  have ef : subW n (wDsk a) = m2 := by omega
  simp -implicitDefEqProofs [l_szDisk_b, c1, h1, c2, h2, ef]
theorem c_l_toDisk (a : Dsk) (hb : wDsk a ≤ 1048576) : ev L TT 81 [.agg ((eDsk .bor) a)] = some (.agg ((eDsk .own) a), [.dead]) := by
  rw [ev_run (b := l_toDisk_b) (rs := [.c 2 2 true 25]) (n := 1) rfl rfl]
  have hw : wDsk a = wL wS a.cells + wL wWr a.pending := rfl 
  have h1 := c_l_toStringS (L := L) a.cells (by omega) 
  try simp at h1 
  have h2 := c_l_toWriteS (L := L) a.pending (by omega) 
  try simp at h2
  simp -implicitDefEqProofs [l_toDisk_b, h1, h2, hw]
theorem c_l_eqDisk (a b : Dsk) (hb : bDsk a) : ev L TT 28 [.agg ((eDsk .bor) a), .agg ((eDsk .bor) b)] = some (.bool (decide (a = b)), [.dead, .dead]) := by
  rw [ev_run (b := l_eqDisk_b) (rs := [.t 4]) (n := 2) rfl rfl]
  rw [dec_Dsk] 
  have c1 := c_l_eqStringS (L := L) a.cells b.cells hb.k_cells 
  cases g1 : decide (a.cells = b.cells) 
  · rw [g1] at c1 
    try simp at c1 
    simp -implicitDefEqProofs [l_eqDisk_b, c1] 
  rw [g1] at c1 
  try simp at c1 
  have c2 := c_l_eqWriteS (L := L) a.pending b.pending hb.k_pending 
  cases g2 : decide (a.pending = b.pending) 
  · rw [g2] at c2 
    try simp at c2 
    simp -implicitDefEqProofs [l_eqDisk_b, c1, c2] 
  rw [g2] at c2 
  try simp at c2
  simp -implicitDefEqProofs [l_eqDisk_b, c1, c2]
theorem c_l_szField (a : Fld) (n : Int) (hb : bFld a) (hn : 0 ≤ n) (hm : n ≤ 9223372036854775807) : ev L TT 109 [.agg (eFld a), .int .i64 n] = some (.int .i64 (subW n (wFld a)), [.dead, .dead]) := by
  rw [ev_run (b := l_szField_b) (rs := [.t 4]) (n := 2) rfl rfl]
  have hw : wFld a = a.name.length + a.value.length := rfl 
  have ht := subW_or n (wFld a) 
  have hl1 : a.name.length ≤ 9223372036854775807 := hb.k_name 
  obtain ⟨m1, e1⟩ : ∃ m, m = n - (a.name.length : Int) := ⟨_, rfl⟩ 
  have c1 : IntKind.i64.wrap (n - (a.name.length : Int)) = m1 := by rw [e1]; exact wrap_id (by omega) (by omega) 
  by_cases h1 : m1 < 0 
  · have ef : subW n (wFld a) = -1 := by omega 
    simp -implicitDefEqProofs [l_szField_b, c1, h1, ef] 
  have hl2 : a.value.length ≤ 9223372036854775807 := hb.k_value 
  obtain ⟨m2, e2⟩ : ∃ m, m = m1 - (a.value.length : Int) := ⟨_, rfl⟩ 
  have c2 : IntKind.i64.wrap (m1 - (a.value.length : Int)) = m2 := by rw [e2]; exact wrap_id (by omega) (by omega) 
  by_cases h2 : m2 < 0 
  · have ef : subW n (wFld a) = -1 := by omega 
    simp -implicitDefEqProofs [l_szField_b, c1, h1, c2, h2, ef] 
  have ef : subW n (wFld a) = m2 := by omega
  simp -implicitDefEqProofs [l_szField_b, c1, h1, c2, h2, ef]
theorem c_l_toField (a : Fld) (hb : wFld a ≤ 1048576) : ev L TT 111 [.agg (eFld a)] = some (.agg (eFld a), [.dead]) := by
  rw [ev_run (b := l_toField_b) (rs := [.c 2 2 true 160]) (n := 1) rfl rfl]
  have hw : wFld a = a.name.length + a.value.length := rfl
  simp -implicitDefEqProofs [l_toField_b, hw]
theorem c_l_eqField (a b : Fld) (hb : bFld a) : ev L TT 115 [.agg (eFld a), .agg (eFld b)] = some (.bool (decide (a = b)), [.dead, .dead]) := by
  rw [ev_run (b := l_eqField_b) (rs := [.t 4]) (n := 2) rfl rfl]
  rw [dec_Fld] 
  by_cases g1 : a.name = b.name 
  rotate_left 
  · simp -implicitDefEqProofs [l_eqField_b, eq_false g1] 
  by_cases g2 : a.value = b.value 
  rotate_left 
  · simp -implicitDefEqProofs [l_eqField_b, eq_true g1, eq_false g2]
  simp -implicitDefEqProofs [l_eqField_b, eq_true g1, eq_true g2]
theorem L_l_szFieldS (l : List Fld) (hlen : l.length ≤ 9223372036854775807) (hb : bL bFld l) (n : Int) (hn : 0 ≤ n) (hm : n ≤ 9223372036854775807) : loopW (evA (ev L TT) (okT TT) l_szFieldS_L0) [(0, .row .bor 2 (l.map (eFld))), (1, .int .i64 n), (5, .int .i64 0)] = if szL (fun b n => subW n (wFld b)) (l) n < 0 then some (.ret, [(4, .int .i64 (-1))]) else some (.exit 0, [(0, .row .bor 2 (l.map (eFld))), (1, .int .i64 (szL (fun b n => subW n (wFld b)) (l) n)), (5, .int .i64 (l).length), (15, .bool false)]) := by
  refine loop_sz (f := evA (ev L TT) (okT TT) l_szFieldS_L0) (l) (fun i n => [(0, .row .bor 2 (l.map (eFld))), (1, .int .i64 n), (5, .int .i64 i)]) (fun b n => subW n (wFld b)) _ (fun n => [(0, .row .bor 2 (l.map (eFld))), (1, .int .i64 n), (5, .int .i64 (l).length), (15, .bool false)]) n hn hm (fun b n => subW_le _ n) (fun i b n hi hl hn hm => ?_) (fun n => ?_)
  · have hw := wrap_succ i (by first | omega | (simp at hl; omega))
    obtain ⟨_, rfl⟩ := List.getElem?_eq_some_iff.1 hi
    have h2 := c_l_szField (L := L) l[i] n (hb.2 _ (List.getElem_mem hl)) hn hm 
    obtain ⟨m, e1⟩ : ∃ m, m = subW n (wFld l[i]) := ⟨_, rfl⟩ 
    rw [← e1] at h2 ⊢ 
    try simp at h2
    simp -implicitDefEqProofs [l_szFieldS_L0, l_szFieldS_L0b, hl, hw, h2]
  · simp -implicitDefEqProofs [l_szFieldS_L0, l_szFieldS_L0b]
theorem c_l_szFieldS (l : List Fld) (n : Int) (hb : bL bFld l) (hn : 0 ≤ n) (hm : n ≤ 9223372036854775807) : ev L TT 90 [.row .bor 2 (l.map (eFld)), .int .i64 n] = some (.int .i64 (subW n (wL wFld l)), [.dead, .dead]) := by
  rw [ev_run (b := l_szFieldS_b) (rs := [.t 4]) (n := 2) rfl rfl]
  have hl := hb.1 
  have hw : wL wFld l = l.length + (l.map wFld).sum := rfl 
  have ht := subW_or n (wL wFld l) 
  obtain ⟨m, e1⟩ : ∃ m, m = n - (l.length : Int) := ⟨_, rfl⟩ 
  have h2 : IntKind.i64.wrap (n - (l.length : Int)) = m := by rw [e1]; exact wrap_id (by omega) (by omega) 
  by_cases h : m < 0 
  · have ef : subW n (wL wFld l) = -1 := by omega 
    simp -implicitDefEqProofs [l_szFieldS_b, h2, h, ef] 
  have h3 := L_l_szFieldS (L := L) l hb.1 hb m (by omega) (by omega) 
  rw [szL_subW _ _ _ (by omega)] at h3 
  have hs := subW_or m (l.map wFld).sum 
  obtain ⟨q, e2⟩ : ∃ q, q = subW m (l.map wFld).sum := ⟨_, rfl⟩ 
  rw [← e2] at h3 hs 
  try simp at h3 
  by_cases h4 : q < 0 
  · have ef : subW n (wL wFld l) = -1 := by omega 
    simp only [h4, if_true] at h3 
    simp -implicitDefEqProofs [l_szFieldS_b, h2, h, h3, ef] 
  have ef : subW n (wL wFld l) = q := by omega 
  simp only [h4, if_false] at h3
  simp -implicitDefEqProofs [l_szFieldS_b, h2, h, h3, ef]
theorem L_l_toFieldS (l : List Fld) (hlen : l.length ≤ 1048576) (hb : wL wFld l ≤ 1048576) : loopW (evA (ev L TT) (okT TT) l_toFieldS_L0) [(0, .row .bor 2 (l.map eFld)), (3, .row .own 2 (fillN (l.map eFld) 0 [.str ⟨#[]⟩, .str ⟨#[]⟩])), (4, .int .i64 0), (6, .int .i64 l.length)] = some (.exit 0, [(0, .row .bor 2 (l.map eFld)), (3, .row .own 2 (l.map eFld)), (4, .int .i64 (l).length), (6, .int .i64 l.length), (11, .bool false)]) := by
  refine loop_count (f := evA (ev L TT) (okT TT) l_toFieldS_L0) (l) (fun i => [(0, .row .bor 2 (l.map eFld)), (3, .row .own 2 (fillN (l.map eFld) i [.str ⟨#[]⟩, .str ⟨#[]⟩])), (4, .int .i64 i), (6, .int .i64 l.length)]) _ (fun i b hi hl => ?_) ?_
  · have hw := wrap_succ i (by first | omega | (simp at hl; omega))
    obtain ⟨_, rfl⟩ := List.getElem?_eq_some_iff.1 hi
    have h := c_l_toField (L := L) l[i] (Nat.le_trans (wL_mem (List.getElem_mem hl)) hb) 
    try simp at h
    simp -implicitDefEqProofs [l_toFieldS_L0, l_toFieldS_L0b, hl, hw, h]
    first | done | (rw [fillN_set _ _ _ _ (by simpa using hl) (by simp)]; done) | (simp only [modify_two]; rw [fillN_set _ _ _ _ (by simpa using hl) (by simp)])
  · simp -implicitDefEqProofs [l_toFieldS_L0, l_toFieldS_L0b]
theorem c_l_toFieldS (l : List Fld) (hb : wL wFld l ≤ 1048576) : ev L TT 95 [.row .bor 2 (l.map eFld)] = some (.row .own 2 (l.map eFld), [.dead]) := by
  rw [ev_run (b := l_toFieldS_b) (rs := [.t 2]) (n := 1) rfl rfl]
  have hlen := wL_len (w := wFld) l 
  have h := L_l_toFieldS (L := L) l (by omega) hb 
  try simp at h
  simp -implicitDefEqProofs [l_toFieldS_b, h, (by omega : (l.length : Int) * 32 ≤ 140737488355328)]
theorem L_l_eqFieldS (ps : List (Fld × Fld)) (hb : ps.length ≤ 9223372036854775807) (hb1 : ∀ x ∈ ps, bFld x.1) : loopW (evA (ev L TT) (okT TT) l_eqFieldS_L0) [(0, .row .bor 2 (ps.map (fun x : Fld × Fld => eFld x.1))), (1, .row .bor 2 (ps.map (fun x : Fld × Fld => eFld x.2))), (5, .int .i64 0)] = if allB eqB (ps) = true then some (.exit 0, [(0, .row .bor 2 (ps.map (fun x : Fld × Fld => eFld x.1))), (1, .row .bor 2 (ps.map (fun x : Fld × Fld => eFld x.2))), (5, .int .i64 ps.length), (14, .bool false)]) else some (.ret, [(4, .bool false)]) := by
  refine loop_all (f := evA (ev L TT) (okT TT) l_eqFieldS_L0) (ps) (fun i => [(0, .row .bor 2 (ps.map (fun x : Fld × Fld => eFld x.1))), (1, .row .bor 2 (ps.map (fun x : Fld × Fld => eFld x.2))), (5, .int .i64 i)]) eqB _ _ (fun i b hi hl => ?_) ?_
  · have hw := wrap_succ i (by first | omega | (simp at hl; omega))
    obtain ⟨_, rfl⟩ := List.getElem?_eq_some_iff.1 hi
    have h := c_l_eqField (L := L) (ps[i]).1 (ps[i]).2 (hb1 _ (List.getElem_mem hl)); try simp at h
    simp -implicitDefEqProofs [l_eqFieldS_L0, l_eqFieldS_L0b, hl, hw, eqB, h]
  · simp -implicitDefEqProofs [l_eqFieldS_L0, l_eqFieldS_L0b]
theorem c_l_eqFieldS (a b : List Fld) (hb : bL bFld a) : ev L TT 98 [.row .bor 2 (a.map eFld), .row .bor 2 (b.map eFld)] = some (.bool (decide (a = b)), [.dead, .dead]) := by
  rw [ev_run (b := l_eqFieldS_b) (rs := [.t 4]) (n := 2) rfl rfl]
  simp -implicitDefEqProofs [l_eqFieldS_b]
  by_cases h : a.length = b.length 
  · obtain ⟨ps, rfl, rfl⟩ := zip_ex h 
    have h1 := L_l_eqFieldS (L := L) ps (by simpa using hb.1) (fun x hx => hb.2 _ (List.mem_map_of_mem hx)) 
    have h2 := allB_eq ps 
    simp at h1 
    cases h3 : allB eqB ps <;> rw [h3] at h1 h2 <;> simp [h1, Function.comp_def, ← h2] 
  · have : ¬ a = b := fun e => h (by rw [e]) 
    simp [this] 
    omega
theorem c_l_szResp (a : Rsp) (n : Int) (hb : bRsp a) (hn : 0 ≤ n) (hm : n ≤ 9223372036854775807) : ev L TT 55 [.agg ((eRsp .bor) a), .int .i64 n] = some (.int .i64 (subW n (wRsp a)), [.dead, .dead]) := by
  rw [ev_run (b := l_szResp_b) (rs := [.t 4]) (n := 2) rfl rfl]
  have hw : wRsp a = wL wFld a.fields + a.body.length := rfl 
  have ht := subW_or n (wRsp a) 
  have c1 := c_l_szFieldS (L := L) a.fields n hb.k_fields (by omega) (by omega) 
  have s1 := subW_or n (wL wFld a.fields) 
  obtain ⟨m1, e1⟩ : ∃ m, m = subW n (wL wFld a.fields) := ⟨_, rfl⟩ 
  rw [← e1] at c1 s1 
  try simp at c1 
  by_cases h1 : m1 < 0 
  · have ef : subW n (wRsp a) = -1 := by omega 
    simp -implicitDefEqProofs [l_szResp_b, c1, h1, ef] 
  have hl2 : a.body.length ≤ 9223372036854775807 := hb.k_body 
  obtain ⟨m2, e2⟩ : ∃ m, m = m1 - (a.body.length : Int) := ⟨_, rfl⟩ 
  have c2 : IntKind.i64.wrap (m1 - (a.body.length : Int)) = m2 := by rw [e2]; exact wrap_id (by omega) (by omega) 
  by_cases h2 : m2 < 0 
  · have ef : subW n (wRsp a) = -1 := by omega 
    simp -implicitDefEqProofs [l_szResp_b, c1, h1, c2, h2, ef] 
  have ef : subW n (wRsp a) = m2 := by omega
  simp -implicitDefEqProofs [l_szResp_b, c1, h1, c2, h2, ef]
theorem c_l_toResp (a : Rsp) (hb : wRsp a ≤ 1048576) : ev L TT 59 [.agg ((eRsp .bor) a)] = some (.agg ((eRsp .own) a), [.dead]) := by
  rw [ev_run (b := l_toResp_b) (rs := [.c 2 3 true 74]) (n := 1) rfl rfl]
  have hw : wRsp a = wL wFld a.fields + a.body.length := rfl 
  have h1 := c_l_toFieldS (L := L) a.fields (by omega) 
  try simp at h1
  simp -implicitDefEqProofs [l_toResp_b, h1, hw]
theorem c_l_eqResp (a b : Rsp) (hb : bRsp a) : ev L TT 63 [.agg ((eRsp .bor) a), .agg ((eRsp .bor) b)] = some (.bool (decide (a = b)), [.dead, .dead]) := by
  rw [ev_run (b := l_eqResp_b) (rs := [.t 4]) (n := 2) rfl rfl]
  rw [dec_Rsp] 
  by_cases g1 : a.status = b.status 
  rotate_left 
  · simp -implicitDefEqProofs [l_eqResp_b, eq_false g1] 
  have c2 := c_l_eqFieldS (L := L) a.fields b.fields hb.k_fields 
  cases g2 : decide (a.fields = b.fields) 
  · rw [g2] at c2 
    try simp at c2 
    simp -implicitDefEqProofs [l_eqResp_b, eq_true g1, c2] 
  rw [g2] at c2 
  try simp at c2 
  by_cases g3 : a.body = b.body 
  rotate_left 
  · simp -implicitDefEqProofs [l_eqResp_b, eq_true g1, c2, eq_false g3]
  simp -implicitDefEqProofs [l_eqResp_b, eq_true g1, c2, eq_true g3]
theorem c_l_szObj (a : Ob) (n : Int) (hb : bOb a) (hn : 0 ≤ n) (hm : n ≤ 9223372036854775807) : ev L TT 56 [.agg ((eOb .bor) a), .int .i64 n] = some (.int .i64 (subW n (wOb a)), [.dead, .dead]) := by
  rw [ev_run (b := l_szObj_b) (rs := [.t 4]) (n := 2) rfl rfl]
  have hw : wOb a = a.path.length + wL wS a.names + wL wS a.values + wRsp a.resp := rfl 
  have ht := subW_or n (wOb a) 
  have hl1 : a.path.length ≤ 9223372036854775807 := hb.k_path 
  obtain ⟨m1, e1⟩ : ∃ m, m = n - (a.path.length : Int) := ⟨_, rfl⟩ 
  have c1 : IntKind.i64.wrap (n - (a.path.length : Int)) = m1 := by rw [e1]; exact wrap_id (by omega) (by omega) 
  by_cases h1 : m1 < 0 
  · have ef : subW n (wOb a) = -1 := by omega 
    simp -implicitDefEqProofs [l_szObj_b, c1, h1, ef] 
  have c2 := c_l_szStringS (L := L) a.names m1 hb.k_names (by omega) (by omega) 
  have s2 := subW_or m1 (wL wS a.names) 
  obtain ⟨m2, e2⟩ : ∃ m, m = subW m1 (wL wS a.names) := ⟨_, rfl⟩ 
  rw [← e2] at c2 s2 
  try simp at c2 
  by_cases h2 : m2 < 0 
  · have ef : subW n (wOb a) = -1 := by omega 
    simp -implicitDefEqProofs [l_szObj_b, c1, h1, c2, h2, ef] 
  have c3 := c_l_szStringS (L := L) a.values m2 hb.k_values (by omega) (by omega) 
  have s3 := subW_or m2 (wL wS a.values) 
  obtain ⟨m3, e3⟩ : ∃ m, m = subW m2 (wL wS a.values) := ⟨_, rfl⟩ 
  rw [← e3] at c3 s3 
  try simp at c3 
  by_cases h3 : m3 < 0 
  · have ef : subW n (wOb a) = -1 := by omega 
    simp -implicitDefEqProofs [l_szObj_b, c1, h1, c2, h2, c3, h3, ef] 
  have c4 := c_l_szResp (L := L) a.resp m3 hb.k_resp (by omega) (by omega) 
  have s4 := subW_or m3 (wRsp a.resp) 
  obtain ⟨m4, e4⟩ : ∃ m, m = subW m3 (wRsp a.resp) := ⟨_, rfl⟩ 
  rw [← e4] at c4 s4 
  try simp at c4 
  by_cases h4 : m4 < 0 
  · have ef : subW n (wOb a) = -1 := by omega 
    simp -implicitDefEqProofs [l_szObj_b, c1, h1, c2, h2, c3, h3, c4, h4, ef] 
  have ef : subW n (wOb a) = m4 := by omega
  simp -implicitDefEqProofs [l_szObj_b, c1, h1, c2, h2, c3, h3, c4, h4, ef]
theorem c_l_toObj (a : Ob) (hb : wOb a ≤ 1048576) : ev L TT 60 [.agg ((eOb .bor) a)] = some (.agg ((eOb .own) a), [.dead]) := by
  rw [ev_run (b := l_toObj_b) (rs := [.c 2 7 true 76]) (n := 1) rfl rfl]
  have hw : wOb a = a.path.length + wL wS a.names + wL wS a.values + wRsp a.resp := rfl 
  have h1 := c_l_toStringS (L := L) a.names (by omega) 
  try simp at h1 
  have h2 := c_l_toStringS (L := L) a.values (by omega) 
  try simp at h2 
  have h3 := c_l_toResp (L := L) a.resp (by omega) 
  try simp at h3
  simp -implicitDefEqProofs [l_toObj_b, h1, h2, h3, hw]
theorem c_l_eqObj (a b : Ob) (hb : bOb a) : ev L TT 64 [.agg ((eOb .bor) a), .agg ((eOb .bor) b)] = some (.bool (decide (a = b)), [.dead, .dead]) := by
  rw [ev_run (b := l_eqObj_b) (rs := [.t 4]) (n := 2) rfl rfl]
  rw [dec_Ob] 
  by_cases g1 : a.path = b.path 
  rotate_left 
  · simp -implicitDefEqProofs [l_eqObj_b, eq_false g1] 
  have c2 := c_l_eqStringS (L := L) a.names b.names hb.k_names 
  cases g2 : decide (a.names = b.names) 
  · rw [g2] at c2 
    try simp at c2 
    simp -implicitDefEqProofs [l_eqObj_b, eq_true g1, c2] 
  rw [g2] at c2 
  try simp at c2 
  have c3 := c_l_eqStringS (L := L) a.values b.values hb.k_values 
  cases g3 : decide (a.values = b.values) 
  · rw [g3] at c3 
    try simp at c3 
    simp -implicitDefEqProofs [l_eqObj_b, eq_true g1, c2, c3] 
  rw [g3] at c3 
  try simp at c3 
  have c4 := c_l_eqResp (L := L) a.resp b.resp hb.k_resp 
  cases g4 : decide (a.resp = b.resp) 
  · rw [g4] at c4 
    try simp at c4 
    simp -implicitDefEqProofs [l_eqObj_b, eq_true g1, c2, c3, c4] 
  rw [g4] at c4 
  try simp at c4 
  by_cases g5 : a.t = b.t 
  rotate_left 
  · simp -implicitDefEqProofs [l_eqObj_b, eq_true g1, c2, c3, c4, eq_false g5]
  simp -implicitDefEqProofs [l_eqObj_b, eq_true g1, c2, c3, c4, eq_true g5]
theorem c_l_szKept (a : Kp) (n : Int) (hb : bKp a) (hn : 0 ≤ n) (hm : n ≤ 9223372036854775807) : ev L TT 101 [.agg ((eKp .bor) a), .int .i64 n] = some (.int .i64 (subW n (wKp a)), [.dead, .dead]) := by
  rw [ev_run (b := l_szKept_b) (rs := [.t 4]) (n := 2) rfl rfl]
  have hw : wKp a = wOb a.obj := rfl 
  have ht := subW_or n (wKp a) 
  have c1 := c_l_szObj (L := L) a.obj n hb.k_obj (by omega) (by omega) 
  have s1 := subW_or n (wOb a.obj) 
  obtain ⟨m1, e1⟩ : ∃ m, m = subW n (wOb a.obj) := ⟨_, rfl⟩ 
  rw [← e1] at c1 s1 
  try simp at c1 
  by_cases h1 : m1 < 0 
  · have ef : subW n (wKp a) = -1 := by omega 
    simp -implicitDefEqProofs [l_szKept_b, c1, h1, ef] 
  have ef : subW n (wKp a) = m1 := by omega
  simp -implicitDefEqProofs [l_szKept_b, c1, h1, ef]
theorem c_l_toKept (a : Kp) (hb : wKp a ≤ 1048576) : ev L TT 105 [.agg ((eKp .bor) a)] = some (.agg ((eKp .own) a), [.dead]) := by
  rw [ev_run (b := l_toKept_b) (rs := [.c 2 9 true 120]) (n := 1) rfl rfl]
  have hw : wKp a = wOb a.obj := rfl 
  have h1 := c_l_toObj (L := L) a.obj (by omega) 
  try simp at h1
  simp -implicitDefEqProofs [l_toKept_b, h1, hw]
theorem c_l_eqKept (a b : Kp) (hb : bKp a) : ev L TT 67 [.agg ((eKp .bor) a), .agg ((eKp .bor) b)] = some (.bool (decide (a = b)), [.dead, .dead]) := by
  rw [ev_run (b := l_eqKept_b) (rs := [.t 4]) (n := 2) rfl rfl]
  rw [dec_Kp] 
  have c1 := c_l_eqObj (L := L) a.obj b.obj hb.k_obj 
  cases g1 : decide (a.obj = b.obj) 
  · rw [g1] at c1 
    try simp at c1 
    simp -implicitDefEqProofs [l_eqKept_b, c1] 
  rw [g1] at c1 
  try simp at c1 
  by_cases g2 : a.at_ = b.at_ 
  rotate_left 
  · simp -implicitDefEqProofs [l_eqKept_b, c1, eq_false g2] 
  by_cases g3 : a.seq = b.seq 
  rotate_left 
  · simp -implicitDefEqProofs [l_eqKept_b, c1, eq_true g2, eq_false g3]
  simp -implicitDefEqProofs [l_eqKept_b, c1, eq_true g2, eq_true g3]
theorem L_l_szKeptS (l : List Kp) (hlen : l.length ≤ 9223372036854775807) (hb : bL bKp l) (n : Int) (hn : 0 ≤ n) (hm : n ≤ 9223372036854775807) : loopW (evA (ev L TT) (okT TT) l_szKeptS_L0) [(0, .row .bor 9 (l.map (eKp .bor))), (1, .int .i64 n), (5, .int .i64 0)] = if szL (fun b n => subW n (wKp b)) (l) n < 0 then some (.ret, [(4, .int .i64 (-1))]) else some (.exit 0, [(0, .row .bor 9 (l.map (eKp .bor))), (1, .int .i64 (szL (fun b n => subW n (wKp b)) (l) n)), (5, .int .i64 (l).length), (15, .bool false)]) := by
  refine loop_sz (f := evA (ev L TT) (okT TT) l_szKeptS_L0) (l) (fun i n => [(0, .row .bor 9 (l.map (eKp .bor))), (1, .int .i64 n), (5, .int .i64 i)]) (fun b n => subW n (wKp b)) _ (fun n => [(0, .row .bor 9 (l.map (eKp .bor))), (1, .int .i64 n), (5, .int .i64 (l).length), (15, .bool false)]) n hn hm (fun b n => subW_le _ n) (fun i b n hi hl hn hm => ?_) (fun n => ?_)
  · have hw := wrap_succ i (by first | omega | (simp at hl; omega))
    obtain ⟨_, rfl⟩ := List.getElem?_eq_some_iff.1 hi
    have h2 := c_l_szKept (L := L) l[i] n (hb.2 _ (List.getElem_mem hl)) hn hm 
    obtain ⟨m, e1⟩ : ∃ m, m = subW n (wKp l[i]) := ⟨_, rfl⟩ 
    rw [← e1] at h2 ⊢ 
    try simp at h2
    simp -implicitDefEqProofs [l_szKeptS_L0, l_szKeptS_L0b, hl, hw, h2]
  · simp -implicitDefEqProofs [l_szKeptS_L0, l_szKeptS_L0b]
theorem c_l_szKeptS (l : List Kp) (n : Int) (hb : bL bKp l) (hn : 0 ≤ n) (hm : n ≤ 9223372036854775807) : ev L TT 77 [.row .bor 9 (l.map (eKp .bor)), .int .i64 n] = some (.int .i64 (subW n (wL wKp l)), [.dead, .dead]) := by
  rw [ev_run (b := l_szKeptS_b) (rs := [.t 4]) (n := 2) rfl rfl]
  have hl := hb.1 
  have hw : wL wKp l = l.length + (l.map wKp).sum := rfl 
  have ht := subW_or n (wL wKp l) 
  obtain ⟨m, e1⟩ : ∃ m, m = n - (l.length : Int) := ⟨_, rfl⟩ 
  have h2 : IntKind.i64.wrap (n - (l.length : Int)) = m := by rw [e1]; exact wrap_id (by omega) (by omega) 
  by_cases h : m < 0 
  · have ef : subW n (wL wKp l) = -1 := by omega 
    simp -implicitDefEqProofs [l_szKeptS_b, h2, h, ef] 
  have h3 := L_l_szKeptS (L := L) l hb.1 hb m (by omega) (by omega) 
  rw [szL_subW _ _ _ (by omega)] at h3 
  have hs := subW_or m (l.map wKp).sum 
  obtain ⟨q, e2⟩ : ∃ q, q = subW m (l.map wKp).sum := ⟨_, rfl⟩ 
  rw [← e2] at h3 hs 
  try simp at h3 
  by_cases h4 : q < 0 
  · have ef : subW n (wL wKp l) = -1 := by omega 
    simp only [h4, if_true] at h3 
    simp -implicitDefEqProofs [l_szKeptS_b, h2, h, h3, ef] 
  have ef : subW n (wL wKp l) = q := by omega 
  simp only [h4, if_false] at h3
  simp -implicitDefEqProofs [l_szKeptS_b, h2, h, h3, ef]
theorem L_l_toKeptS (l : List Kp) (hlen : l.length ≤ 1048576) (hb : wL wKp l ≤ 1048576) : loopW (evA (ev L TT) (okT TT) l_toKeptS_L0) [(0, .row .bor 9 (l.map (eKp .bor))), (3, .row .own 9 (fillN (l.map (eKp .own)) 0 [.str ⟨#[]⟩, .row .own 1 [], .row .own 1 [], .int .i64 0, .row .own 2 [], .str ⟨#[]⟩, .int .i64 0, .int .i64 0, .int .i64 0])), (4, .int .i64 0), (6, .int .i64 l.length)] = some (.exit 0, [(0, .row .bor 9 (l.map (eKp .bor))), (3, .row .own 9 (l.map (eKp .own))), (4, .int .i64 (l).length), (6, .int .i64 l.length), (11, .bool false)]) := by
  refine loop_count (f := evA (ev L TT) (okT TT) l_toKeptS_L0) (l) (fun i => [(0, .row .bor 9 (l.map (eKp .bor))), (3, .row .own 9 (fillN (l.map (eKp .own)) i [.str ⟨#[]⟩, .row .own 1 [], .row .own 1 [], .int .i64 0, .row .own 2 [], .str ⟨#[]⟩, .int .i64 0, .int .i64 0, .int .i64 0])), (4, .int .i64 i), (6, .int .i64 l.length)]) _ (fun i b hi hl => ?_) ?_
  · have hw := wrap_succ i (by first | omega | (simp at hl; omega))
    obtain ⟨_, rfl⟩ := List.getElem?_eq_some_iff.1 hi
    have h := c_l_toKept (L := L) l[i] (Nat.le_trans (wL_mem (List.getElem_mem hl)) hb) 
    try simp at h
    simp -implicitDefEqProofs [l_toKeptS_L0, l_toKeptS_L0b, hl, hw, h]
    first | done | (rw [fillN_set _ _ _ _ (by simpa using hl) (by simp)]; done) | (simp only [modify_two]; rw [fillN_set _ _ _ _ (by simpa using hl) (by simp)])
  · simp -implicitDefEqProofs [l_toKeptS_L0, l_toKeptS_L0b]
theorem c_l_toKeptS (l : List Kp) (hb : wL wKp l ≤ 1048576) : ev L TT 82 [.row .bor 9 (l.map (eKp .bor))] = some (.row .own 9 (l.map (eKp .own)), [.dead]) := by
  rw [ev_run (b := l_toKeptS_b) (rs := [.t 2]) (n := 1) rfl rfl]
  have hlen := wL_len (w := wKp) l 
  have h := L_l_toKeptS (L := L) l (by omega) hb 
  try simp at h
  simp -implicitDefEqProofs [l_toKeptS_b, h, (by omega : (l.length : Int) * 136 ≤ 140737488355328)]
theorem L_l_eqKeptS (ps : List (Kp × Kp)) (hb : ps.length ≤ 9223372036854775807) (hb1 : ∀ x ∈ ps, bKp x.1) : loopW (evA (ev L TT) (okT TT) l_eqKeptS_L0) [(0, .row .bor 9 (ps.map (fun x : Kp × Kp => (eKp .bor) x.1))), (1, .row .bor 9 (ps.map (fun x : Kp × Kp => (eKp .bor) x.2))), (5, .int .i64 0)] = if allB eqB (ps) = true then some (.exit 0, [(0, .row .bor 9 (ps.map (fun x : Kp × Kp => (eKp .bor) x.1))), (1, .row .bor 9 (ps.map (fun x : Kp × Kp => (eKp .bor) x.2))), (5, .int .i64 ps.length), (14, .bool false)]) else some (.ret, [(4, .bool false)]) := by
  refine loop_all (f := evA (ev L TT) (okT TT) l_eqKeptS_L0) (ps) (fun i => [(0, .row .bor 9 (ps.map (fun x : Kp × Kp => (eKp .bor) x.1))), (1, .row .bor 9 (ps.map (fun x : Kp × Kp => (eKp .bor) x.2))), (5, .int .i64 i)]) eqB _ _ (fun i b hi hl => ?_) ?_
  · have hw := wrap_succ i (by first | omega | (simp at hl; omega))
    obtain ⟨_, rfl⟩ := List.getElem?_eq_some_iff.1 hi
    have h := c_l_eqKept (L := L) (ps[i]).1 (ps[i]).2 (hb1 _ (List.getElem_mem hl)); try simp at h
    simp -implicitDefEqProofs [l_eqKeptS_L0, l_eqKeptS_L0b, hl, hw, eqB, h]
  · simp -implicitDefEqProofs [l_eqKeptS_L0, l_eqKeptS_L0b]
theorem c_l_eqKeptS (a b : List Kp) (hb : bL bKp a) : ev L TT 29 [.row .bor 9 (a.map (eKp .bor)), .row .bor 9 (b.map (eKp .bor))] = some (.bool (decide (a = b)), [.dead, .dead]) := by
  rw [ev_run (b := l_eqKeptS_b) (rs := [.t 4]) (n := 2) rfl rfl]
  simp -implicitDefEqProofs [l_eqKeptS_b]
  by_cases h : a.length = b.length 
  · obtain ⟨ps, rfl, rfl⟩ := zip_ex h 
    have h1 := L_l_eqKeptS (L := L) ps (by simpa using hb.1) (fun x hx => hb.2 _ (List.mem_map_of_mem hx)) 
    have h2 := allB_eq ps 
    simp at h1 
    cases h3 : allB eqB ps <;> rw [h3] at h1 h2 <;> simp [h1, Function.comp_def, ← h2] 
  · have : ¬ a = b := fun e => h (by rw [e]) 
    simp [this] 
    omega
theorem c_l_szBan (a : Bn) (n : Int) (hb : bBn a) (hn : 0 ≤ n) (hm : n ≤ 9223372036854775807) : ev L TT 102 [.agg (eBn a), .int .i64 n] = some (.int .i64 (subW n (wBn a)), [.dead, .dead]) := by
  rw [ev_run (b := l_szBan_b) (rs := [.t 4]) (n := 2) rfl rfl]
  have hw : wBn a = a.a.length + a.b.length := rfl 
  have ht := subW_or n (wBn a) 
  have hl1 : a.a.length ≤ 9223372036854775807 := hb.k_a 
  obtain ⟨m1, e1⟩ : ∃ m, m = n - (a.a.length : Int) := ⟨_, rfl⟩ 
  have c1 : IntKind.i64.wrap (n - (a.a.length : Int)) = m1 := by rw [e1]; exact wrap_id (by omega) (by omega) 
  by_cases h1 : m1 < 0 
  · have ef : subW n (wBn a) = -1 := by omega 
    simp -implicitDefEqProofs [l_szBan_b, c1, h1, ef] 
  have hl2 : a.b.length ≤ 9223372036854775807 := hb.k_b 
  obtain ⟨m2, e2⟩ : ∃ m, m = m1 - (a.b.length : Int) := ⟨_, rfl⟩ 
  have c2 : IntKind.i64.wrap (m1 - (a.b.length : Int)) = m2 := by rw [e2]; exact wrap_id (by omega) (by omega) 
  by_cases h2 : m2 < 0 
  · have ef : subW n (wBn a) = -1 := by omega 
    simp -implicitDefEqProofs [l_szBan_b, c1, h1, c2, h2, ef] 
  have ef : subW n (wBn a) = m2 := by omega
  simp -implicitDefEqProofs [l_szBan_b, c1, h1, c2, h2, ef]
theorem c_l_toBan (a : Bn) (hb : wBn a ≤ 1048576) : ev L TT 106 [.agg (eBn a)] = some (.agg (eBn a), [.dead]) := by
  rw [ev_run (b := l_toBan_b) (rs := [.c 2 4 true 123]) (n := 1) rfl rfl]
  have hw : wBn a = a.a.length + a.b.length := rfl
  simp -implicitDefEqProofs [l_toBan_b, hw]
theorem c_l_eqBan (a b : Bn) (hb : bBn a) : ev L TT 68 [.agg (eBn a), .agg (eBn b)] = some (.bool (decide (a = b)), [.dead, .dead]) := by
  rw [ev_run (b := l_eqBan_b) (rs := [.t 4]) (n := 2) rfl rfl]
  rw [dec_Bn] 
  by_cases g1 : a.kind = b.kind 
  rotate_left 
  · simp -implicitDefEqProofs [l_eqBan_b, eq_false g1] 
  by_cases g2 : a.a = b.a 
  rotate_left 
  · simp -implicitDefEqProofs [l_eqBan_b, eq_true g1, eq_false g2] 
  by_cases g3 : a.b = b.b 
  rotate_left 
  · simp -implicitDefEqProofs [l_eqBan_b, eq_true g1, eq_true g2, eq_false g3] 
  by_cases g4 : a.t = b.t 
  rotate_left 
  · simp -implicitDefEqProofs [l_eqBan_b, eq_true g1, eq_true g2, eq_true g3, eq_false g4]
  simp -implicitDefEqProofs [l_eqBan_b, eq_true g1, eq_true g2, eq_true g3, eq_true g4]
theorem L_l_szBanS (l : List Bn) (hlen : l.length ≤ 9223372036854775807) (hb : bL bBn l) (n : Int) (hn : 0 ≤ n) (hm : n ≤ 9223372036854775807) : loopW (evA (ev L TT) (okT TT) l_szBanS_L0) [(0, .row .bor 4 (l.map (eBn))), (1, .int .i64 n), (5, .int .i64 0)] = if szL (fun b n => subW n (wBn b)) (l) n < 0 then some (.ret, [(4, .int .i64 (-1))]) else some (.exit 0, [(0, .row .bor 4 (l.map (eBn))), (1, .int .i64 (szL (fun b n => subW n (wBn b)) (l) n)), (5, .int .i64 (l).length), (15, .bool false)]) := by
  refine loop_sz (f := evA (ev L TT) (okT TT) l_szBanS_L0) (l) (fun i n => [(0, .row .bor 4 (l.map (eBn))), (1, .int .i64 n), (5, .int .i64 i)]) (fun b n => subW n (wBn b)) _ (fun n => [(0, .row .bor 4 (l.map (eBn))), (1, .int .i64 n), (5, .int .i64 (l).length), (15, .bool false)]) n hn hm (fun b n => subW_le _ n) (fun i b n hi hl hn hm => ?_) (fun n => ?_)
  · have hw := wrap_succ i (by first | omega | (simp at hl; omega))
    obtain ⟨_, rfl⟩ := List.getElem?_eq_some_iff.1 hi
    have h2 := c_l_szBan (L := L) l[i] n (hb.2 _ (List.getElem_mem hl)) hn hm 
    obtain ⟨m, e1⟩ : ∃ m, m = subW n (wBn l[i]) := ⟨_, rfl⟩ 
    rw [← e1] at h2 ⊢ 
    try simp at h2
    simp -implicitDefEqProofs [l_szBanS_L0, l_szBanS_L0b, hl, hw, h2]
  · simp -implicitDefEqProofs [l_szBanS_L0, l_szBanS_L0b]
theorem c_l_szBanS (l : List Bn) (n : Int) (hb : bL bBn l) (hn : 0 ≤ n) (hm : n ≤ 9223372036854775807) : ev L TT 78 [.row .bor 4 (l.map (eBn)), .int .i64 n] = some (.int .i64 (subW n (wL wBn l)), [.dead, .dead]) := by
  rw [ev_run (b := l_szBanS_b) (rs := [.t 4]) (n := 2) rfl rfl]
  have hl := hb.1 
  have hw : wL wBn l = l.length + (l.map wBn).sum := rfl 
  have ht := subW_or n (wL wBn l) 
  obtain ⟨m, e1⟩ : ∃ m, m = n - (l.length : Int) := ⟨_, rfl⟩ 
  have h2 : IntKind.i64.wrap (n - (l.length : Int)) = m := by rw [e1]; exact wrap_id (by omega) (by omega) 
  by_cases h : m < 0 
  · have ef : subW n (wL wBn l) = -1 := by omega 
    simp -implicitDefEqProofs [l_szBanS_b, h2, h, ef] 
  have h3 := L_l_szBanS (L := L) l hb.1 hb m (by omega) (by omega) 
  rw [szL_subW _ _ _ (by omega)] at h3 
  have hs := subW_or m (l.map wBn).sum 
  obtain ⟨q, e2⟩ : ∃ q, q = subW m (l.map wBn).sum := ⟨_, rfl⟩ 
  rw [← e2] at h3 hs 
  try simp at h3 
  by_cases h4 : q < 0 
  · have ef : subW n (wL wBn l) = -1 := by omega 
    simp only [h4, if_true] at h3 
    simp -implicitDefEqProofs [l_szBanS_b, h2, h, h3, ef] 
  have ef : subW n (wL wBn l) = q := by omega 
  simp only [h4, if_false] at h3
  simp -implicitDefEqProofs [l_szBanS_b, h2, h, h3, ef]
theorem L_l_toBanS (l : List Bn) (hlen : l.length ≤ 1048576) (hb : wL wBn l ≤ 1048576) : loopW (evA (ev L TT) (okT TT) l_toBanS_L0) [(0, .row .bor 4 (l.map eBn)), (3, .row .own 4 (fillN (l.map eBn) 0 [.int .i64 0, .str ⟨#[]⟩, .str ⟨#[]⟩, .int .i64 0])), (4, .int .i64 0), (6, .int .i64 l.length)] = some (.exit 0, [(0, .row .bor 4 (l.map eBn)), (3, .row .own 4 (l.map eBn)), (4, .int .i64 (l).length), (6, .int .i64 l.length), (11, .bool false)]) := by
  refine loop_count (f := evA (ev L TT) (okT TT) l_toBanS_L0) (l) (fun i => [(0, .row .bor 4 (l.map eBn)), (3, .row .own 4 (fillN (l.map eBn) i [.int .i64 0, .str ⟨#[]⟩, .str ⟨#[]⟩, .int .i64 0])), (4, .int .i64 i), (6, .int .i64 l.length)]) _ (fun i b hi hl => ?_) ?_
  · have hw := wrap_succ i (by first | omega | (simp at hl; omega))
    obtain ⟨_, rfl⟩ := List.getElem?_eq_some_iff.1 hi
    have h := c_l_toBan (L := L) l[i] (Nat.le_trans (wL_mem (List.getElem_mem hl)) hb) 
    try simp at h
    simp -implicitDefEqProofs [l_toBanS_L0, l_toBanS_L0b, hl, hw, h]
    first | done | (rw [fillN_set _ _ _ _ (by simpa using hl) (by simp)]; done) | (simp only [modify_two]; rw [fillN_set _ _ _ _ (by simpa using hl) (by simp)])
  · simp -implicitDefEqProofs [l_toBanS_L0, l_toBanS_L0b]
theorem c_l_toBanS (l : List Bn) (hb : wL wBn l ≤ 1048576) : ev L TT 83 [.row .bor 4 (l.map eBn)] = some (.row .own 4 (l.map eBn), [.dead]) := by
  rw [ev_run (b := l_toBanS_b) (rs := [.t 2]) (n := 1) rfl rfl]
  have hlen := wL_len (w := wBn) l 
  have h := L_l_toBanS (L := L) l (by omega) hb 
  try simp at h
  simp -implicitDefEqProofs [l_toBanS_b, h, (by omega : (l.length : Int) * 48 ≤ 140737488355328)]
theorem L_l_eqBanS (ps : List (Bn × Bn)) (hb : ps.length ≤ 9223372036854775807) (hb1 : ∀ x ∈ ps, bBn x.1) : loopW (evA (ev L TT) (okT TT) l_eqBanS_L0) [(0, .row .bor 4 (ps.map (fun x : Bn × Bn => eBn x.1))), (1, .row .bor 4 (ps.map (fun x : Bn × Bn => eBn x.2))), (5, .int .i64 0)] = if allB eqB (ps) = true then some (.exit 0, [(0, .row .bor 4 (ps.map (fun x : Bn × Bn => eBn x.1))), (1, .row .bor 4 (ps.map (fun x : Bn × Bn => eBn x.2))), (5, .int .i64 ps.length), (14, .bool false)]) else some (.ret, [(4, .bool false)]) := by
  refine loop_all (f := evA (ev L TT) (okT TT) l_eqBanS_L0) (ps) (fun i => [(0, .row .bor 4 (ps.map (fun x : Bn × Bn => eBn x.1))), (1, .row .bor 4 (ps.map (fun x : Bn × Bn => eBn x.2))), (5, .int .i64 i)]) eqB _ _ (fun i b hi hl => ?_) ?_
  · have hw := wrap_succ i (by first | omega | (simp at hl; omega))
    obtain ⟨_, rfl⟩ := List.getElem?_eq_some_iff.1 hi
    have h := c_l_eqBan (L := L) (ps[i]).1 (ps[i]).2 (hb1 _ (List.getElem_mem hl)); try simp at h
    simp -implicitDefEqProofs [l_eqBanS_L0, l_eqBanS_L0b, hl, hw, eqB, h]
  · simp -implicitDefEqProofs [l_eqBanS_L0, l_eqBanS_L0b]
theorem c_l_eqBanS (a b : List Bn) (hb : bL bBn a) : ev L TT 30 [.row .bor 4 (a.map eBn), .row .bor 4 (b.map eBn)] = some (.bool (decide (a = b)), [.dead, .dead]) := by
  rw [ev_run (b := l_eqBanS_b) (rs := [.t 4]) (n := 2) rfl rfl]
  simp -implicitDefEqProofs [l_eqBanS_b]
  by_cases h : a.length = b.length 
  · obtain ⟨ps, rfl, rfl⟩ := zip_ex h 
    have h1 := L_l_eqBanS (L := L) ps (by simpa using hb.1) (fun x hx => hb.2 _ (List.mem_map_of_mem hx)) 
    have h2 := allB_eq ps 
    simp at h1 
    cases h3 : allB eqB ps <;> rw [h3] at h1 h2 <;> simp [h1, Function.comp_def, ← h2] 
  · have : ¬ a = b := fun e => h (by rw [e]) 
    simp [this] 
    omega
theorem c_l_szShelf (a : Sh) (n : Int) (hb : bSh a) (hn : 0 ≤ n) (hm : n ≤ 9223372036854775807) : ev L TT 37 [.agg ((eSh .bor) a), .int .i64 n] = some (.int .i64 (subW n (wSh a)), [.dead, .dead]) := by
  rw [ev_run (b := l_szShelf_b) (rs := [.t 4]) (n := 2) rfl rfl]
  have hw : wSh a = wDsk a.disk + wL wKp a.objs + wL wBn a.bans := rfl 
  have ht := subW_or n (wSh a) 
  have c1 := c_l_szDisk (L := L) a.disk n hb.k_disk (by omega) (by omega) 
  have s1 := subW_or n (wDsk a.disk) 
  obtain ⟨m1, e1⟩ : ∃ m, m = subW n (wDsk a.disk) := ⟨_, rfl⟩ 
  rw [← e1] at c1 s1 
  try simp at c1 
  by_cases h1 : m1 < 0 
  · have ef : subW n (wSh a) = -1 := by omega 
    simp -implicitDefEqProofs [l_szShelf_b, c1, h1, ef] 
  have c2 := c_l_szKeptS (L := L) a.objs m1 hb.k_objs (by omega) (by omega) 
  have s2 := subW_or m1 (wL wKp a.objs) 
  obtain ⟨m2, e2⟩ : ∃ m, m = subW m1 (wL wKp a.objs) := ⟨_, rfl⟩ 
  rw [← e2] at c2 s2 
  try simp at c2 
  by_cases h2 : m2 < 0 
  · have ef : subW n (wSh a) = -1 := by omega 
    simp -implicitDefEqProofs [l_szShelf_b, c1, h1, c2, h2, ef] 
  have c3 := c_l_szBanS (L := L) a.bans m2 hb.k_bans (by omega) (by omega) 
  have s3 := subW_or m2 (wL wBn a.bans) 
  obtain ⟨m3, e3⟩ : ∃ m, m = subW m2 (wL wBn a.bans) := ⟨_, rfl⟩ 
  rw [← e3] at c3 s3 
  try simp at c3 
  by_cases h3 : m3 < 0 
  · have ef : subW n (wSh a) = -1 := by omega 
    simp -implicitDefEqProofs [l_szShelf_b, c1, h1, c2, h2, c3, h3, ef] 
  have ef : subW n (wSh a) = m3 := by omega
  simp -implicitDefEqProofs [l_szShelf_b, c1, h1, c2, h2, c3, h3, ef]
theorem c_l_toShelf (a : Sh) (hb : wSh a ≤ 1048576) : ev L TT 41 [.agg ((eSh .bor) a)] = some (.agg ((eSh .own) a), [.dead]) := by
  rw [ev_run (b := l_toShelf_b) (rs := [.c 2 6 true 29]) (n := 1) rfl rfl]
  have hw : wSh a = wDsk a.disk + wL wKp a.objs + wL wBn a.bans := rfl 
  have h1 := c_l_toDisk (L := L) a.disk (by omega) 
  try simp at h1 
  have h2 := c_l_toKeptS (L := L) a.objs (by omega) 
  try simp at h2 
  have h3 := c_l_toBanS (L := L) a.bans (by omega) 
  try simp at h3
  simp -implicitDefEqProofs [l_toShelf_b, h1, h2, h3, hw]
theorem c_l_eqShelf (a b : Sh) (hb : bSh a) : ev L TT 9 [.agg ((eSh .bor) a), .agg ((eSh .bor) b)] = some (.bool (decide (a = b)), [.dead, .dead]) := by
  rw [ev_run (b := l_eqShelf_b) (rs := [.t 4]) (n := 2) rfl rfl]
  rw [dec_Sh] 
  have c1 := c_l_eqDisk (L := L) a.disk b.disk hb.k_disk 
  cases g1 : decide (a.disk = b.disk) 
  · rw [g1] at c1 
    try simp at c1 
    simp -implicitDefEqProofs [l_eqShelf_b, c1] 
  rw [g1] at c1 
  try simp at c1 
  have c2 := c_l_eqKeptS (L := L) a.objs b.objs hb.k_objs 
  cases g2 : decide (a.objs = b.objs) 
  · rw [g2] at c2 
    try simp at c2 
    simp -implicitDefEqProofs [l_eqShelf_b, c1, c2] 
  rw [g2] at c2 
  try simp at c2 
  have c3 := c_l_eqBanS (L := L) a.bans b.bans hb.k_bans 
  cases g3 : decide (a.bans = b.bans) 
  · rw [g3] at c3 
    try simp at c3 
    simp -implicitDefEqProofs [l_eqShelf_b, c1, c2, c3] 
  rw [g3] at c3 
  try simp at c3 
  by_cases g4 : a.next = b.next 
  rotate_left 
  · simp -implicitDefEqProofs [l_eqShelf_b, c1, c2, c3, eq_false g4] 
  by_cases g5 : a.seq = b.seq 
  rotate_left 
  · simp -implicitDefEqProofs [l_eqShelf_b, c1, c2, c3, eq_true g4, eq_false g5]
  simp -implicitDefEqProofs [l_eqShelf_b, c1, c2, c3, eq_true g4, eq_true g5]
theorem c_l_szReq (a : Rq) (n : Int) (hb : bRq a) (hn : 0 ≤ n) (hm : n ≤ 9223372036854775807) : ev L TT 54 [.agg ((eRq .bor) a), .int .i64 n] = some (.int .i64 (subW n (wRq a)), [.dead, .dead]) := by
  rw [ev_run (b := l_szReq_b) (rs := [.t 4]) (n := 2) rfl rfl]
  have hw : wRq a = a.path.length + wL wFld a.fields + a.body.length := rfl 
  have ht := subW_or n (wRq a) 
  have hl1 : a.path.length ≤ 9223372036854775807 := hb.k_path 
  obtain ⟨m1, e1⟩ : ∃ m, m = n - (a.path.length : Int) := ⟨_, rfl⟩ 
  have c1 : IntKind.i64.wrap (n - (a.path.length : Int)) = m1 := by rw [e1]; exact wrap_id (by omega) (by omega) 
  by_cases h1 : m1 < 0 
  · have ef : subW n (wRq a) = -1 := by omega 
    simp -implicitDefEqProofs [l_szReq_b, c1, h1, ef] 
  have c2 := c_l_szFieldS (L := L) a.fields m1 hb.k_fields (by omega) (by omega) 
  have s2 := subW_or m1 (wL wFld a.fields) 
  obtain ⟨m2, e2⟩ : ∃ m, m = subW m1 (wL wFld a.fields) := ⟨_, rfl⟩ 
  rw [← e2] at c2 s2 
  try simp at c2 
  by_cases h2 : m2 < 0 
  · have ef : subW n (wRq a) = -1 := by omega 
    simp -implicitDefEqProofs [l_szReq_b, c1, h1, c2, h2, ef] 
  have hl3 : a.body.length ≤ 9223372036854775807 := hb.k_body 
  obtain ⟨m3, e3⟩ : ∃ m, m = m2 - (a.body.length : Int) := ⟨_, rfl⟩ 
  have c3 : IntKind.i64.wrap (m2 - (a.body.length : Int)) = m3 := by rw [e3]; exact wrap_id (by omega) (by omega) 
  by_cases h3 : m3 < 0 
  · have ef : subW n (wRq a) = -1 := by omega 
    simp -implicitDefEqProofs [l_szReq_b, c1, h1, c2, h2, c3, h3, ef] 
  have ef : subW n (wRq a) = m3 := by omega
  simp -implicitDefEqProofs [l_szReq_b, c1, h1, c2, h2, c3, h3, ef]
theorem c_l_toReq (a : Rq) (hb : wRq a ≤ 1048576) : ev L TT 58 [.agg ((eRq .bor) a)] = some (.agg ((eRq .own) a), [.dead]) := by
  rw [ev_run (b := l_toReq_b) (rs := [.c 2 4 true 72]) (n := 1) rfl rfl]
  have hw : wRq a = a.path.length + wL wFld a.fields + a.body.length := rfl 
  have h1 := c_l_toFieldS (L := L) a.fields (by omega) 
  try simp at h1
  simp -implicitDefEqProofs [l_toReq_b, h1, hw]
theorem c_l_eqReq (a b : Rq) (hb : bRq a) : ev L TT 62 [.agg ((eRq .bor) a), .agg ((eRq .bor) b)] = some (.bool (decide (a = b)), [.dead, .dead]) := by
  rw [ev_run (b := l_eqReq_b) (rs := [.t 4]) (n := 2) rfl rfl]
  rw [dec_Rq] 
  by_cases g1 : a.method = b.method 
  rotate_left 
  · simp -implicitDefEqProofs [l_eqReq_b, eq_false g1] 
  by_cases g2 : a.path = b.path 
  rotate_left 
  · simp -implicitDefEqProofs [l_eqReq_b, eq_true g1, eq_false g2] 
  have c3 := c_l_eqFieldS (L := L) a.fields b.fields hb.k_fields 
  cases g3 : decide (a.fields = b.fields) 
  · rw [g3] at c3 
    try simp at c3 
    simp -implicitDefEqProofs [l_eqReq_b, eq_true g1, eq_true g2, c3] 
  rw [g3] at c3 
  try simp at c3 
  by_cases g4 : a.body = b.body 
  rotate_left 
  · simp -implicitDefEqProofs [l_eqReq_b, eq_true g1, eq_true g2, c3, eq_false g4]
  simp -implicitDefEqProofs [l_eqReq_b, eq_true g1, eq_true g2, c3, eq_true g4]
theorem c_l_szIntS (l : List Int) (n : Int) (hb : l.length ≤ 9223372036854775807) (hn : 0 ≤ n) (hm : n ≤ 9223372036854775807) : ev L TT 103 [.row .bor 1 (l.map eI), .int .i64 n] = some (.int .i64 (subW n (wL wO l)), [.dead, .dead]) := by
  rw [ev_run (b := l_szIntS_b) (rs := [.t 4]) (n := 2) rfl rfl]
  have hw : wL wO l = l.length := by simp [wL, wO]; clear hb; induction l <;> simp_all [wO] 
  have ht := subW_or n (wL wO l) 
  obtain ⟨m, e1⟩ : ∃ m, m = n - (l.length : Int) := ⟨_, rfl⟩ 
  have h2 : IntKind.i64.wrap (n - (l.length : Int)) = m := by rw [e1]; exact wrap_id (by omega) (by omega) 
  by_cases h : m < 0 
  · have ef : subW n (wL wO l) = -1 := by omega 
    simp -implicitDefEqProofs [l_szIntS_b, h2, h, ef] 
  have ef : subW n (wL wO l) = m := by omega
  simp -implicitDefEqProofs [l_szIntS_b, h2, h, ef]
theorem L_l_toIntS (l : List Int) (hlen : l.length ≤ 1048576) (hb : wL wO l ≤ 1048576) : loopW (evA (ev L TT) (okT TT) l_toIntS_L0) [(0, .row .bor 1 (l.map eI)), (3, .row .own 1 (fillN (l.map eI) 0 [.int .i64 0])), (4, .int .i64 0), (6, .int .i64 l.length)] = some (.exit 0, [(0, .row .bor 1 (l.map eI)), (3, .row .own 1 (l.map eI)), (4, .int .i64 (l).length), (6, .int .i64 l.length), (11, .bool false)]) := by
  refine loop_count (f := evA (ev L TT) (okT TT) l_toIntS_L0) (l) (fun i => [(0, .row .bor 1 (l.map eI)), (3, .row .own 1 (fillN (l.map eI) i [.int .i64 0])), (4, .int .i64 i), (6, .int .i64 l.length)]) _ (fun i b hi hl => ?_) ?_
  · have hw := wrap_succ i (by first | omega | (simp at hl; omega))
    obtain ⟨_, rfl⟩ := List.getElem?_eq_some_iff.1 hi
    skip
    simp -implicitDefEqProofs [l_toIntS_L0, l_toIntS_L0b, hl, hw]
    first | done | (rw [fillN_set _ _ _ _ (by simpa using hl) (by simp)]; done) | (simp only [modify_two]; rw [fillN_set _ _ _ _ (by simpa using hl) (by simp)])
  · simp -implicitDefEqProofs [l_toIntS_L0, l_toIntS_L0b]
theorem c_l_toIntS (l : List Int) (hb : wL wO l ≤ 1048576) : ev L TT 107 [.row .bor 1 (l.map eI)] = some (.row .own 1 (l.map eI), [.dead]) := by
  rw [ev_run (b := l_toIntS_b) (rs := [.t 2]) (n := 1) rfl rfl]
  have hlen := wL_len (w := wO) l 
  have h := L_l_toIntS (L := L) l (by omega) hb 
  try simp at h
  simp -implicitDefEqProofs [l_toIntS_b, h, (by omega : (l.length : Int) * 8 ≤ 140737488355328)]
theorem L_l_eqIntS (ps : List (Int × Int)) (hb : ps.length ≤ 9223372036854775807) (hb1 : ∀ x ∈ ps, bI x.1) : loopW (evA (ev L TT) (okT TT) l_eqIntS_L0) [(0, .row .bor 1 (ps.map (fun x : Int × Int => eI x.1))), (1, .row .bor 1 (ps.map (fun x : Int × Int => eI x.2))), (5, .int .i64 0)] = if allB eqB (ps) = true then some (.exit 0, [(0, .row .bor 1 (ps.map (fun x : Int × Int => eI x.1))), (1, .row .bor 1 (ps.map (fun x : Int × Int => eI x.2))), (5, .int .i64 ps.length), (14, .bool false)]) else some (.ret, [(4, .bool false)]) := by
  refine loop_all (f := evA (ev L TT) (okT TT) l_eqIntS_L0) (ps) (fun i => [(0, .row .bor 1 (ps.map (fun x : Int × Int => eI x.1))), (1, .row .bor 1 (ps.map (fun x : Int × Int => eI x.2))), (5, .int .i64 i)]) eqB _ _ (fun i b hi hl => ?_) ?_
  · have hw := wrap_succ i (by first | omega | (simp at hl; omega))
    obtain ⟨_, rfl⟩ := List.getElem?_eq_some_iff.1 hi
    simp -implicitDefEqProofs [l_eqIntS_L0, l_eqIntS_L0b, hl, hw, eqB]
    first | done | (split <;> simp_all)
  · simp -implicitDefEqProofs [l_eqIntS_L0, l_eqIntS_L0b]
theorem c_l_eqIntS (a b : List Int) (hb : bL bI a) : ev L TT 108 [.row .bor 1 (a.map eI), .row .bor 1 (b.map eI)] = some (.bool (decide (a = b)), [.dead, .dead]) := by
  rw [ev_run (b := l_eqIntS_b) (rs := [.t 4]) (n := 2) rfl rfl]
  simp -implicitDefEqProofs [l_eqIntS_b]
  by_cases h : a.length = b.length 
  · obtain ⟨ps, rfl, rfl⟩ := zip_ex h 
    have h1 := L_l_eqIntS (L := L) ps (by simpa using hb.1) (fun x hx => hb.2 _ (List.mem_map_of_mem hx)) 
    have h2 := allB_eq ps 
    simp at h1 
    cases h3 : allB eqB ps <;> rw [h3] at h1 h2 <;> simp [h1, Function.comp_def, ← h2] 
  · have : ¬ a = b := fun e => h (by rw [e]) 
    simp [this] 
    omega
theorem c_l_szFlight (a : Fl) (n : Int) (hb : bFl a) (hn : 0 ≤ n) (hm : n ≤ 9223372036854775807) : ev L TT 79 [.agg ((eFl .bor) a), .int .i64 n] = some (.int .i64 (subW n (wFl a)), [.dead, .dead]) := by
  rw [ev_run (b := l_szFlight_b) (rs := [.t 4]) (n := 2) rfl rfl]
  have hw : wFl a = wRq a.q + wL wO a.who + wOb a.old := rfl 
  have ht := subW_or n (wFl a) 
  have c1 := c_l_szReq (L := L) a.q n hb.k_q (by omega) (by omega) 
  have s1 := subW_or n (wRq a.q) 
  obtain ⟨m1, e1⟩ : ∃ m, m = subW n (wRq a.q) := ⟨_, rfl⟩ 
  rw [← e1] at c1 s1 
  try simp at c1 
  by_cases h1 : m1 < 0 
  · have ef : subW n (wFl a) = -1 := by omega 
    simp -implicitDefEqProofs [l_szFlight_b, c1, h1, ef] 
  have c2 := c_l_szIntS (L := L) a.who m1 hb.k_who.1 (by omega) (by omega) 
  have s2 := subW_or m1 (wL wO a.who) 
  obtain ⟨m2, e2⟩ : ∃ m, m = subW m1 (wL wO a.who) := ⟨_, rfl⟩ 
  rw [← e2] at c2 s2 
  try simp at c2 
  by_cases h2 : m2 < 0 
  · have ef : subW n (wFl a) = -1 := by omega 
    simp -implicitDefEqProofs [l_szFlight_b, c1, h1, c2, h2, ef] 
  have c3 := c_l_szObj (L := L) a.old m2 hb.k_old (by omega) (by omega) 
  have s3 := subW_or m2 (wOb a.old) 
  obtain ⟨m3, e3⟩ : ∃ m, m = subW m2 (wOb a.old) := ⟨_, rfl⟩ 
  rw [← e3] at c3 s3 
  try simp at c3 
  by_cases h3 : m3 < 0 
  · have ef : subW n (wFl a) = -1 := by omega 
    simp -implicitDefEqProofs [l_szFlight_b, c1, h1, c2, h2, c3, h3, ef] 
  have ef : subW n (wFl a) = m3 := by omega
  simp -implicitDefEqProofs [l_szFlight_b, c1, h1, c2, h2, c3, h3, ef]
theorem c_l_toFlight (a : Fl) (hb : wFl a ≤ 1048576) : ev L TT 84 [.agg ((eFl .bor) a)] = some (.agg ((eFl .own) a), [.dead]) := by
  rw [ev_run (b := l_toFlight_b) (rs := [.c 2 13 true 142]) (n := 1) rfl rfl]
  have hw : wFl a = wRq a.q + wL wO a.who + wOb a.old := rfl 
  have h1 := c_l_toReq (L := L) a.q (by omega) 
  try simp at h1 
  have h2 := c_l_toIntS (L := L) a.who (by omega) 
  try simp at h2 
  have h3 := c_l_toObj (L := L) a.old (by omega) 
  try simp at h3
  simp -implicitDefEqProofs [l_toFlight_b, h1, h2, h3, hw]
theorem c_l_eqFlight (a b : Fl) (hb : bFl a) : ev L TT 86 [.agg ((eFl .bor) a), .agg ((eFl .bor) b)] = some (.bool (decide (a = b)), [.dead, .dead]) := by
  rw [ev_run (b := l_eqFlight_b) (rs := [.t 4]) (n := 2) rfl rfl]
  rw [dec_Fl] 
  have c1 := c_l_eqReq (L := L) a.q b.q hb.k_q 
  cases g1 : decide (a.q = b.q) 
  · rw [g1] at c1 
    try simp at c1 
    simp -implicitDefEqProofs [l_eqFlight_b, c1] 
  rw [g1] at c1 
  try simp at c1 
  have c2 := c_l_eqIntS (L := L) a.who b.who hb.k_who 
  cases g2 : decide (a.who = b.who) 
  · rw [g2] at c2 
    try simp at c2 
    simp -implicitDefEqProofs [l_eqFlight_b, c1, c2] 
  rw [g2] at c2 
  try simp at c2 
  have c3 := c_l_eqObj (L := L) a.old b.old hb.k_old 
  cases g3 : decide (a.old = b.old) 
  · rw [g3] at c3 
    try simp at c3 
    simp -implicitDefEqProofs [l_eqFlight_b, c1, c2, c3] 
  rw [g3] at c3 
  try simp at c3 
  by_cases g4 : a.hasOld = b.hasOld 
  rotate_left 
  · simp -implicitDefEqProofs [l_eqFlight_b, c1, c2, c3, eq_false g4]
  simp -implicitDefEqProofs [l_eqFlight_b, c1, c2, c3, eq_true g4]
theorem L_l_szFlightS (l : List Fl) (hlen : l.length ≤ 9223372036854775807) (hb : bL bFl l) (n : Int) (hn : 0 ≤ n) (hm : n ≤ 9223372036854775807) : loopW (evA (ev L TT) (okT TT) l_szFlightS_L0) [(0, .row .bor 13 (l.map (eFl .bor))), (1, .int .i64 n), (5, .int .i64 0)] = if szL (fun b n => subW n (wFl b)) (l) n < 0 then some (.ret, [(4, .int .i64 (-1))]) else some (.exit 0, [(0, .row .bor 13 (l.map (eFl .bor))), (1, .int .i64 (szL (fun b n => subW n (wFl b)) (l) n)), (5, .int .i64 (l).length), (15, .bool false)]) := by
  refine loop_sz (f := evA (ev L TT) (okT TT) l_szFlightS_L0) (l) (fun i n => [(0, .row .bor 13 (l.map (eFl .bor))), (1, .int .i64 n), (5, .int .i64 i)]) (fun b n => subW n (wFl b)) _ (fun n => [(0, .row .bor 13 (l.map (eFl .bor))), (1, .int .i64 n), (5, .int .i64 (l).length), (15, .bool false)]) n hn hm (fun b n => subW_le _ n) (fun i b n hi hl hn hm => ?_) (fun n => ?_)
  · have hw := wrap_succ i (by first | omega | (simp at hl; omega))
    obtain ⟨_, rfl⟩ := List.getElem?_eq_some_iff.1 hi
    have h2 := c_l_szFlight (L := L) l[i] n (hb.2 _ (List.getElem_mem hl)) hn hm 
    obtain ⟨m, e1⟩ : ∃ m, m = subW n (wFl l[i]) := ⟨_, rfl⟩ 
    rw [← e1] at h2 ⊢ 
    try simp at h2
    simp -implicitDefEqProofs [l_szFlightS_L0, l_szFlightS_L0b, hl, hw, h2]
  · simp -implicitDefEqProofs [l_szFlightS_L0, l_szFlightS_L0b]
theorem c_l_szFlightS (l : List Fl) (n : Int) (hb : bL bFl l) (hn : 0 ≤ n) (hm : n ≤ 9223372036854775807) : ev L TT 38 [.row .bor 13 (l.map (eFl .bor)), .int .i64 n] = some (.int .i64 (subW n (wL wFl l)), [.dead, .dead]) := by
  rw [ev_run (b := l_szFlightS_b) (rs := [.t 4]) (n := 2) rfl rfl]
  have hl := hb.1 
  have hw : wL wFl l = l.length + (l.map wFl).sum := rfl 
  have ht := subW_or n (wL wFl l) 
  obtain ⟨m, e1⟩ : ∃ m, m = n - (l.length : Int) := ⟨_, rfl⟩ 
  have h2 : IntKind.i64.wrap (n - (l.length : Int)) = m := by rw [e1]; exact wrap_id (by omega) (by omega) 
  by_cases h : m < 0 
  · have ef : subW n (wL wFl l) = -1 := by omega 
    simp -implicitDefEqProofs [l_szFlightS_b, h2, h, ef] 
  have h3 := L_l_szFlightS (L := L) l hb.1 hb m (by omega) (by omega) 
  rw [szL_subW _ _ _ (by omega)] at h3 
  have hs := subW_or m (l.map wFl).sum 
  obtain ⟨q, e2⟩ : ∃ q, q = subW m (l.map wFl).sum := ⟨_, rfl⟩ 
  rw [← e2] at h3 hs 
  try simp at h3 
  by_cases h4 : q < 0 
  · have ef : subW n (wL wFl l) = -1 := by omega 
    simp only [h4, if_true] at h3 
    simp -implicitDefEqProofs [l_szFlightS_b, h2, h, h3, ef] 
  have ef : subW n (wL wFl l) = q := by omega 
  simp only [h4, if_false] at h3
  simp -implicitDefEqProofs [l_szFlightS_b, h2, h, h3, ef]
theorem L_l_toFlightS (l : List Fl) (hlen : l.length ≤ 1048576) (hb : wL wFl l ≤ 1048576) : loopW (evA (ev L TT) (okT TT) l_toFlightS_L0) [(0, .row .bor 13 (l.map (eFl .bor))), (3, .row .own 13 (fillN (l.map (eFl .own)) 0 [.int .i64 0, .str ⟨#[]⟩, .row .own 2 [], .str ⟨#[]⟩, .row .own 1 [], .str ⟨#[]⟩, .row .own 1 [], .row .own 1 [], .int .i64 0, .row .own 2 [], .str ⟨#[]⟩, .int .i64 0, .bool false])), (4, .int .i64 0), (6, .int .i64 l.length)] = some (.exit 0, [(0, .row .bor 13 (l.map (eFl .bor))), (3, .row .own 13 (l.map (eFl .own))), (4, .int .i64 (l).length), (6, .int .i64 l.length), (11, .bool false)]) := by
  refine loop_count (f := evA (ev L TT) (okT TT) l_toFlightS_L0) (l) (fun i => [(0, .row .bor 13 (l.map (eFl .bor))), (3, .row .own 13 (fillN (l.map (eFl .own)) i [.int .i64 0, .str ⟨#[]⟩, .row .own 2 [], .str ⟨#[]⟩, .row .own 1 [], .str ⟨#[]⟩, .row .own 1 [], .row .own 1 [], .int .i64 0, .row .own 2 [], .str ⟨#[]⟩, .int .i64 0, .bool false])), (4, .int .i64 i), (6, .int .i64 l.length)]) _ (fun i b hi hl => ?_) ?_
  · have hw := wrap_succ i (by first | omega | (simp at hl; omega))
    obtain ⟨_, rfl⟩ := List.getElem?_eq_some_iff.1 hi
    have h := c_l_toFlight (L := L) l[i] (Nat.le_trans (wL_mem (List.getElem_mem hl)) hb) 
    try simp at h
    simp -implicitDefEqProofs [l_toFlightS_L0, l_toFlightS_L0b, hl, hw, h]
    first | done | (rw [fillN_set _ _ _ _ (by simpa using hl) (by simp)]; done) | (simp only [modify_two]; rw [fillN_set _ _ _ _ (by simpa using hl) (by simp)])
  · simp -implicitDefEqProofs [l_toFlightS_L0, l_toFlightS_L0b]
theorem c_l_toFlightS (l : List Fl) (hb : wL wFl l ≤ 1048576) : ev L TT 42 [.row .bor 13 (l.map (eFl .bor))] = some (.row .own 13 (l.map (eFl .own)), [.dead]) := by
  rw [ev_run (b := l_toFlightS_b) (rs := [.t 2]) (n := 1) rfl rfl]
  have hlen := wL_len (w := wFl) l 
  have h := L_l_toFlightS (L := L) l (by omega) hb 
  try simp at h
  simp -implicitDefEqProofs [l_toFlightS_b, h, (by omega : (l.length : Int) * 216 ≤ 140737488355328)]
theorem L_l_eqFlightS (ps : List (Fl × Fl)) (hb : ps.length ≤ 9223372036854775807) (hb1 : ∀ x ∈ ps, bFl x.1) : loopW (evA (ev L TT) (okT TT) l_eqFlightS_L0) [(0, .row .bor 13 (ps.map (fun x : Fl × Fl => (eFl .bor) x.1))), (1, .row .bor 13 (ps.map (fun x : Fl × Fl => (eFl .bor) x.2))), (5, .int .i64 0)] = if allB eqB (ps) = true then some (.exit 0, [(0, .row .bor 13 (ps.map (fun x : Fl × Fl => (eFl .bor) x.1))), (1, .row .bor 13 (ps.map (fun x : Fl × Fl => (eFl .bor) x.2))), (5, .int .i64 ps.length), (14, .bool false)]) else some (.ret, [(4, .bool false)]) := by
  refine loop_all (f := evA (ev L TT) (okT TT) l_eqFlightS_L0) (ps) (fun i => [(0, .row .bor 13 (ps.map (fun x : Fl × Fl => (eFl .bor) x.1))), (1, .row .bor 13 (ps.map (fun x : Fl × Fl => (eFl .bor) x.2))), (5, .int .i64 i)]) eqB _ _ (fun i b hi hl => ?_) ?_
  · have hw := wrap_succ i (by first | omega | (simp at hl; omega))
    obtain ⟨_, rfl⟩ := List.getElem?_eq_some_iff.1 hi
    have h := c_l_eqFlight (L := L) (ps[i]).1 (ps[i]).2 (hb1 _ (List.getElem_mem hl)); try simp at h
    simp -implicitDefEqProofs [l_eqFlightS_L0, l_eqFlightS_L0b, hl, hw, eqB, h]
  · simp -implicitDefEqProofs [l_eqFlightS_L0, l_eqFlightS_L0b]
theorem c_l_eqFlightS (a b : List Fl) (hb : bL bFl a) : ev L TT 45 [.row .bor 13 (a.map (eFl .bor)), .row .bor 13 (b.map (eFl .bor))] = some (.bool (decide (a = b)), [.dead, .dead]) := by
  rw [ev_run (b := l_eqFlightS_b) (rs := [.t 4]) (n := 2) rfl rfl]
  simp -implicitDefEqProofs [l_eqFlightS_b]
  by_cases h : a.length = b.length 
  · obtain ⟨ps, rfl, rfl⟩ := zip_ex h 
    have h1 := L_l_eqFlightS (L := L) ps (by simpa using hb.1) (fun x hx => hb.2 _ (List.mem_map_of_mem hx)) 
    have h2 := allB_eq ps 
    simp at h1 
    cases h3 : allB eqB ps <;> rw [h3] at h1 h2 <;> simp [h1, Function.comp_def, ← h2] 
  · have : ¬ a = b := fun e => h (by rw [e]) 
    simp [this] 
    omega
theorem c_l_szSeen (a : Se) (n : Int) (hb : bSe a) (hn : 0 ≤ n) (hm : n ≤ 9223372036854775807) : ev L TT 80 [.agg ((eSe .bor) a), .int .i64 n] = some (.int .i64 (subW n (wSe a)), [.dead, .dead]) := by
  rw [ev_run (b := l_szSeen_b) (rs := [.t 4]) (n := 2) rfl rfl]
  have hw : wSe a = wRq a.q + wRsp a.resp := rfl 
  have ht := subW_or n (wSe a) 
  have c1 := c_l_szReq (L := L) a.q n hb.k_q (by omega) (by omega) 
  have s1 := subW_or n (wRq a.q) 
  obtain ⟨m1, e1⟩ : ∃ m, m = subW n (wRq a.q) := ⟨_, rfl⟩ 
  rw [← e1] at c1 s1 
  try simp at c1 
  by_cases h1 : m1 < 0 
  · have ef : subW n (wSe a) = -1 := by omega 
    simp -implicitDefEqProofs [l_szSeen_b, c1, h1, ef] 
  have c2 := c_l_szResp (L := L) a.resp m1 hb.k_resp (by omega) (by omega) 
  have s2 := subW_or m1 (wRsp a.resp) 
  obtain ⟨m2, e2⟩ : ∃ m, m = subW m1 (wRsp a.resp) := ⟨_, rfl⟩ 
  rw [← e2] at c2 s2 
  try simp at c2 
  by_cases h2 : m2 < 0 
  · have ef : subW n (wSe a) = -1 := by omega 
    simp -implicitDefEqProofs [l_szSeen_b, c1, h1, c2, h2, ef] 
  have ef : subW n (wSe a) = m2 := by omega
  simp -implicitDefEqProofs [l_szSeen_b, c1, h1, c2, h2, ef]
theorem c_l_toSeen (a : Se) (hb : wSe a ≤ 1048576) : ev L TT 85 [.agg ((eSe .bor) a)] = some (.agg ((eSe .own) a), [.dead]) := by
  rw [ev_run (b := l_toSeen_b) (rs := [.c 2 8 true 107]) (n := 1) rfl rfl]
  have hw : wSe a = wRq a.q + wRsp a.resp := rfl 
  have h1 := c_l_toReq (L := L) a.q (by omega) 
  try simp at h1 
  have h2 := c_l_toResp (L := L) a.resp (by omega) 
  try simp at h2
  simp -implicitDefEqProofs [l_toSeen_b, h1, h2, hw]
theorem c_l_eqSeen (a b : Se) (hb : bSe a) : ev L TT 87 [.agg ((eSe .bor) a), .agg ((eSe .bor) b)] = some (.bool (decide (a = b)), [.dead, .dead]) := by
  rw [ev_run (b := l_eqSeen_b) (rs := [.t 4]) (n := 2) rfl rfl]
  rw [dec_Se] 
  have c1 := c_l_eqReq (L := L) a.q b.q hb.k_q 
  cases g1 : decide (a.q = b.q) 
  · rw [g1] at c1 
    try simp at c1 
    simp -implicitDefEqProofs [l_eqSeen_b, c1] 
  rw [g1] at c1 
  try simp at c1 
  have c2 := c_l_eqResp (L := L) a.resp b.resp hb.k_resp 
  cases g2 : decide (a.resp = b.resp) 
  · rw [g2] at c2 
    try simp at c2 
    simp -implicitDefEqProofs [l_eqSeen_b, c1, c2] 
  rw [g2] at c2 
  try simp at c2 
  by_cases g3 : a.t = b.t 
  rotate_left 
  · simp -implicitDefEqProofs [l_eqSeen_b, c1, c2, eq_false g3]
  simp -implicitDefEqProofs [l_eqSeen_b, c1, c2, eq_true g3]
theorem L_l_szSeenS (l : List Se) (hlen : l.length ≤ 9223372036854775807) (hb : bL bSe l) (n : Int) (hn : 0 ≤ n) (hm : n ≤ 9223372036854775807) : loopW (evA (ev L TT) (okT TT) l_szSeenS_L0) [(0, .row .bor 8 (l.map (eSe .bor))), (1, .int .i64 n), (5, .int .i64 0)] = if szL (fun b n => subW n (wSe b)) (l) n < 0 then some (.ret, [(4, .int .i64 (-1))]) else some (.exit 0, [(0, .row .bor 8 (l.map (eSe .bor))), (1, .int .i64 (szL (fun b n => subW n (wSe b)) (l) n)), (5, .int .i64 (l).length), (15, .bool false)]) := by
  refine loop_sz (f := evA (ev L TT) (okT TT) l_szSeenS_L0) (l) (fun i n => [(0, .row .bor 8 (l.map (eSe .bor))), (1, .int .i64 n), (5, .int .i64 i)]) (fun b n => subW n (wSe b)) _ (fun n => [(0, .row .bor 8 (l.map (eSe .bor))), (1, .int .i64 n), (5, .int .i64 (l).length), (15, .bool false)]) n hn hm (fun b n => subW_le _ n) (fun i b n hi hl hn hm => ?_) (fun n => ?_)
  · have hw := wrap_succ i (by first | omega | (simp at hl; omega))
    obtain ⟨_, rfl⟩ := List.getElem?_eq_some_iff.1 hi
    have h2 := c_l_szSeen (L := L) l[i] n (hb.2 _ (List.getElem_mem hl)) hn hm 
    obtain ⟨m, e1⟩ : ∃ m, m = subW n (wSe l[i]) := ⟨_, rfl⟩ 
    rw [← e1] at h2 ⊢ 
    try simp at h2
    simp -implicitDefEqProofs [l_szSeenS_L0, l_szSeenS_L0b, hl, hw, h2]
  · simp -implicitDefEqProofs [l_szSeenS_L0, l_szSeenS_L0b]
theorem c_l_szSeenS (l : List Se) (n : Int) (hb : bL bSe l) (hn : 0 ≤ n) (hm : n ≤ 9223372036854775807) : ev L TT 39 [.row .bor 8 (l.map (eSe .bor)), .int .i64 n] = some (.int .i64 (subW n (wL wSe l)), [.dead, .dead]) := by
  rw [ev_run (b := l_szSeenS_b) (rs := [.t 4]) (n := 2) rfl rfl]
  have hl := hb.1 
  have hw : wL wSe l = l.length + (l.map wSe).sum := rfl 
  have ht := subW_or n (wL wSe l) 
  obtain ⟨m, e1⟩ : ∃ m, m = n - (l.length : Int) := ⟨_, rfl⟩ 
  have h2 : IntKind.i64.wrap (n - (l.length : Int)) = m := by rw [e1]; exact wrap_id (by omega) (by omega) 
  by_cases h : m < 0 
  · have ef : subW n (wL wSe l) = -1 := by omega 
    simp -implicitDefEqProofs [l_szSeenS_b, h2, h, ef] 
  have h3 := L_l_szSeenS (L := L) l hb.1 hb m (by omega) (by omega) 
  rw [szL_subW _ _ _ (by omega)] at h3 
  have hs := subW_or m (l.map wSe).sum 
  obtain ⟨q, e2⟩ : ∃ q, q = subW m (l.map wSe).sum := ⟨_, rfl⟩ 
  rw [← e2] at h3 hs 
  try simp at h3 
  by_cases h4 : q < 0 
  · have ef : subW n (wL wSe l) = -1 := by omega 
    simp only [h4, if_true] at h3 
    simp -implicitDefEqProofs [l_szSeenS_b, h2, h, h3, ef] 
  have ef : subW n (wL wSe l) = q := by omega 
  simp only [h4, if_false] at h3
  simp -implicitDefEqProofs [l_szSeenS_b, h2, h, h3, ef]
theorem L_l_toSeenS (l : List Se) (hlen : l.length ≤ 1048576) (hb : wL wSe l ≤ 1048576) : loopW (evA (ev L TT) (okT TT) l_toSeenS_L0) [(0, .row .bor 8 (l.map (eSe .bor))), (3, .row .own 8 (fillN (l.map (eSe .own)) 0 [.int .i64 0, .str ⟨#[]⟩, .row .own 2 [], .str ⟨#[]⟩, .int .i64 0, .row .own 2 [], .str ⟨#[]⟩, .int .i64 0])), (4, .int .i64 0), (6, .int .i64 l.length)] = some (.exit 0, [(0, .row .bor 8 (l.map (eSe .bor))), (3, .row .own 8 (l.map (eSe .own))), (4, .int .i64 (l).length), (6, .int .i64 l.length), (11, .bool false)]) := by
  refine loop_count (f := evA (ev L TT) (okT TT) l_toSeenS_L0) (l) (fun i => [(0, .row .bor 8 (l.map (eSe .bor))), (3, .row .own 8 (fillN (l.map (eSe .own)) i [.int .i64 0, .str ⟨#[]⟩, .row .own 2 [], .str ⟨#[]⟩, .int .i64 0, .row .own 2 [], .str ⟨#[]⟩, .int .i64 0])), (4, .int .i64 i), (6, .int .i64 l.length)]) _ (fun i b hi hl => ?_) ?_
  · have hw := wrap_succ i (by first | omega | (simp at hl; omega))
    obtain ⟨_, rfl⟩ := List.getElem?_eq_some_iff.1 hi
    have h := c_l_toSeen (L := L) l[i] (Nat.le_trans (wL_mem (List.getElem_mem hl)) hb) 
    try simp at h
    simp -implicitDefEqProofs [l_toSeenS_L0, l_toSeenS_L0b, hl, hw, h]
    first | done | (rw [fillN_set _ _ _ _ (by simpa using hl) (by simp)]; done) | (simp only [modify_two]; rw [fillN_set _ _ _ _ (by simpa using hl) (by simp)])
  · simp -implicitDefEqProofs [l_toSeenS_L0, l_toSeenS_L0b]
theorem c_l_toSeenS (l : List Se) (hb : wL wSe l ≤ 1048576) : ev L TT 43 [.row .bor 8 (l.map (eSe .bor))] = some (.row .own 8 (l.map (eSe .own)), [.dead]) := by
  rw [ev_run (b := l_toSeenS_b) (rs := [.t 2]) (n := 1) rfl rfl]
  have hlen := wL_len (w := wSe) l 
  have h := L_l_toSeenS (L := L) l (by omega) hb 
  try simp at h
  simp -implicitDefEqProofs [l_toSeenS_b, h, (by omega : (l.length : Int) * 120 ≤ 140737488355328)]
theorem L_l_eqSeenS (ps : List (Se × Se)) (hb : ps.length ≤ 9223372036854775807) (hb1 : ∀ x ∈ ps, bSe x.1) : loopW (evA (ev L TT) (okT TT) l_eqSeenS_L0) [(0, .row .bor 8 (ps.map (fun x : Se × Se => (eSe .bor) x.1))), (1, .row .bor 8 (ps.map (fun x : Se × Se => (eSe .bor) x.2))), (5, .int .i64 0)] = if allB eqB (ps) = true then some (.exit 0, [(0, .row .bor 8 (ps.map (fun x : Se × Se => (eSe .bor) x.1))), (1, .row .bor 8 (ps.map (fun x : Se × Se => (eSe .bor) x.2))), (5, .int .i64 ps.length), (14, .bool false)]) else some (.ret, [(4, .bool false)]) := by
  refine loop_all (f := evA (ev L TT) (okT TT) l_eqSeenS_L0) (ps) (fun i => [(0, .row .bor 8 (ps.map (fun x : Se × Se => (eSe .bor) x.1))), (1, .row .bor 8 (ps.map (fun x : Se × Se => (eSe .bor) x.2))), (5, .int .i64 i)]) eqB _ _ (fun i b hi hl => ?_) ?_
  · have hw := wrap_succ i (by first | omega | (simp at hl; omega))
    obtain ⟨_, rfl⟩ := List.getElem?_eq_some_iff.1 hi
    have h := c_l_eqSeen (L := L) (ps[i]).1 (ps[i]).2 (hb1 _ (List.getElem_mem hl)); try simp at h
    simp -implicitDefEqProofs [l_eqSeenS_L0, l_eqSeenS_L0b, hl, hw, eqB, h]
  · simp -implicitDefEqProofs [l_eqSeenS_L0, l_eqSeenS_L0b]
theorem c_l_eqSeenS (a b : List Se) (hb : bL bSe a) : ev L TT 46 [.row .bor 8 (a.map (eSe .bor)), .row .bor 8 (b.map (eSe .bor))] = some (.bool (decide (a = b)), [.dead, .dead]) := by
  rw [ev_run (b := l_eqSeenS_b) (rs := [.t 4]) (n := 2) rfl rfl]
  simp -implicitDefEqProofs [l_eqSeenS_b]
  by_cases h : a.length = b.length 
  · obtain ⟨ps, rfl, rfl⟩ := zip_ex h 
    have h1 := L_l_eqSeenS (L := L) ps (by simpa using hb.1) (fun x hx => hb.2 _ (List.mem_map_of_mem hx)) 
    have h2 := allB_eq ps 
    simp at h1 
    cases h3 : allB eqB ps <;> rw [h3] at h1 h2 <;> simp [h1, Function.comp_def, ← h2] 
  · have : ¬ a = b := fun e => h (by rw [e]) 
    simp [this] 
    omega
theorem c_l_szReply (a : Rp) (n : Int) (hb : bRp a) (hn : 0 ≤ n) (hm : n ≤ 9223372036854775807) : ev L TT 21 [.agg ((eRp .bor) a), .int .i64 n] = some (.int .i64 (subW n (wRp a)), [.dead, .dead]) := by
  rw [ev_run (b := l_szReply_b) (rs := [.t 4]) (n := 2) rfl rfl]
  have hw : wRp a = wRq a.q + wRsp a.resp + wOb a.obj := rfl 
  have ht := subW_or n (wRp a) 
  have c1 := c_l_szReq (L := L) a.q n hb.k_q (by omega) (by omega) 
  have s1 := subW_or n (wRq a.q) 
  obtain ⟨m1, e1⟩ : ∃ m, m = subW n (wRq a.q) := ⟨_, rfl⟩ 
  rw [← e1] at c1 s1 
  try simp at c1 
  by_cases h1 : m1 < 0 
  · have ef : subW n (wRp a) = -1 := by omega 
    simp -implicitDefEqProofs [l_szReply_b, c1, h1, ef] 
  have c2 := c_l_szResp (L := L) a.resp m1 hb.k_resp (by omega) (by omega) 
  have s2 := subW_or m1 (wRsp a.resp) 
  obtain ⟨m2, e2⟩ : ∃ m, m = subW m1 (wRsp a.resp) := ⟨_, rfl⟩ 
  rw [← e2] at c2 s2 
  try simp at c2 
  by_cases h2 : m2 < 0 
  · have ef : subW n (wRp a) = -1 := by omega 
    simp -implicitDefEqProofs [l_szReply_b, c1, h1, c2, h2, ef] 
  have c3 := c_l_szObj (L := L) a.obj m2 hb.k_obj (by omega) (by omega) 
  have s3 := subW_or m2 (wOb a.obj) 
  obtain ⟨m3, e3⟩ : ∃ m, m = subW m2 (wOb a.obj) := ⟨_, rfl⟩ 
  rw [← e3] at c3 s3 
  try simp at c3 
  by_cases h3 : m3 < 0 
  · have ef : subW n (wRp a) = -1 := by omega 
    simp -implicitDefEqProofs [l_szReply_b, c1, h1, c2, h2, c3, h3, ef] 
  have ef : subW n (wRp a) = m3 := by omega
  simp -implicitDefEqProofs [l_szReply_b, c1, h1, c2, h2, c3, h3, ef]
theorem c_l_toReply (a : Rp) (hb : wRp a ≤ 1048576) : ev L TT 23 [.agg ((eRp .bor) a)] = some (.agg ((eRp .own) a), [.dead]) := by
  rw [ev_run (b := l_toReply_b) (rs := [.c 2 18 true 78]) (n := 1) rfl rfl]
  have hw : wRp a = wRq a.q + wRsp a.resp + wOb a.obj := rfl 
  have h1 := c_l_toReq (L := L) a.q (by omega) 
  try simp at h1 
  have h2 := c_l_toResp (L := L) a.resp (by omega) 
  try simp at h2 
  have h3 := c_l_toObj (L := L) a.obj (by omega) 
  try simp at h3
  simp -implicitDefEqProofs [l_toReply_b, h1, h2, h3, hw]
theorem c_l_eqReply (a b : Rp) (hb : bRp a) : ev L TT 25 [.agg ((eRp .bor) a), .agg ((eRp .bor) b)] = some (.bool (decide (a = b)), [.dead, .dead]) := by
  rw [ev_run (b := l_eqReply_b) (rs := [.t 4]) (n := 2) rfl rfl]
  rw [dec_Rp] 
  by_cases g1 : a.client = b.client 
  rotate_left 
  · simp -implicitDefEqProofs [l_eqReply_b, eq_false g1] 
  have c2 := c_l_eqReq (L := L) a.q b.q hb.k_q 
  cases g2 : decide (a.q = b.q) 
  · rw [g2] at c2 
    try simp at c2 
    simp -implicitDefEqProofs [l_eqReply_b, eq_true g1, c2] 
  rw [g2] at c2 
  try simp at c2 
  have c3 := c_l_eqResp (L := L) a.resp b.resp hb.k_resp 
  cases g3 : decide (a.resp = b.resp) 
  · rw [g3] at c3 
    try simp at c3 
    simp -implicitDefEqProofs [l_eqReply_b, eq_true g1, c2, c3] 
  rw [g3] at c3 
  try simp at c3 
  by_cases g4 : a.kind = b.kind 
  rotate_left 
  · simp -implicitDefEqProofs [l_eqReply_b, eq_true g1, c2, c3, eq_false g4] 
  by_cases g5 : a.t = b.t 
  rotate_left 
  · simp -implicitDefEqProofs [l_eqReply_b, eq_true g1, c2, c3, eq_true g4, eq_false g5] 
  have c6 := c_l_eqObj (L := L) a.obj b.obj hb.k_obj 
  cases g6 : decide (a.obj = b.obj) 
  · rw [g6] at c6 
    try simp at c6 
    simp -implicitDefEqProofs [l_eqReply_b, eq_true g1, c2, c3, eq_true g4, eq_true g5, c6] 
  rw [g6] at c6 
  try simp at c6 
  by_cases g7 : a.bans = b.bans 
  rotate_left 
  · simp -implicitDefEqProofs [l_eqReply_b, eq_true g1, c2, c3, eq_true g4, eq_true g5, c6, eq_false g7]
  simp -implicitDefEqProofs [l_eqReply_b, eq_true g1, c2, c3, eq_true g4, eq_true g5, c6, eq_true g7]
theorem L_l_szReplyS (l : List Rp) (hlen : l.length ≤ 9223372036854775807) (hb : bL bRp l) (n : Int) (hn : 0 ≤ n) (hm : n ≤ 9223372036854775807) : loopW (evA (ev L TT) (okT TT) l_szReplyS_L0) [(0, .row .bor 18 (l.map (eRp .bor))), (1, .int .i64 n), (5, .int .i64 0)] = if szL (fun b n => subW n (wRp b)) (l) n < 0 then some (.ret, [(4, .int .i64 (-1))]) else some (.exit 0, [(0, .row .bor 18 (l.map (eRp .bor))), (1, .int .i64 (szL (fun b n => subW n (wRp b)) (l) n)), (5, .int .i64 (l).length), (15, .bool false)]) := by
  refine loop_sz (f := evA (ev L TT) (okT TT) l_szReplyS_L0) (l) (fun i n => [(0, .row .bor 18 (l.map (eRp .bor))), (1, .int .i64 n), (5, .int .i64 i)]) (fun b n => subW n (wRp b)) _ (fun n => [(0, .row .bor 18 (l.map (eRp .bor))), (1, .int .i64 n), (5, .int .i64 (l).length), (15, .bool false)]) n hn hm (fun b n => subW_le _ n) (fun i b n hi hl hn hm => ?_) (fun n => ?_)
  · have hw := wrap_succ i (by first | omega | (simp at hl; omega))
    obtain ⟨_, rfl⟩ := List.getElem?_eq_some_iff.1 hi
    have h2 := c_l_szReply (L := L) l[i] n (hb.2 _ (List.getElem_mem hl)) hn hm 
    obtain ⟨m, e1⟩ : ∃ m, m = subW n (wRp l[i]) := ⟨_, rfl⟩ 
    rw [← e1] at h2 ⊢ 
    try simp at h2
    simp -implicitDefEqProofs [l_szReplyS_L0, l_szReplyS_L0b, hl, hw, h2]
  · simp -implicitDefEqProofs [l_szReplyS_L0, l_szReplyS_L0b]
theorem c_l_szReplyS (l : List Rp) (n : Int) (hb : bL bRp l) (hn : 0 ≤ n) (hm : n ≤ 9223372036854775807) : ev L TT 40 [.row .bor 18 (l.map (eRp .bor)), .int .i64 n] = some (.int .i64 (subW n (wL wRp l)), [.dead, .dead]) := by
  rw [ev_run (b := l_szReplyS_b) (rs := [.t 4]) (n := 2) rfl rfl]
  have hl := hb.1 
  have hw : wL wRp l = l.length + (l.map wRp).sum := rfl 
  have ht := subW_or n (wL wRp l) 
  obtain ⟨m, e1⟩ : ∃ m, m = n - (l.length : Int) := ⟨_, rfl⟩ 
  have h2 : IntKind.i64.wrap (n - (l.length : Int)) = m := by rw [e1]; exact wrap_id (by omega) (by omega) 
  by_cases h : m < 0 
  · have ef : subW n (wL wRp l) = -1 := by omega 
    simp -implicitDefEqProofs [l_szReplyS_b, h2, h, ef] 
  have h3 := L_l_szReplyS (L := L) l hb.1 hb m (by omega) (by omega) 
  rw [szL_subW _ _ _ (by omega)] at h3 
  have hs := subW_or m (l.map wRp).sum 
  obtain ⟨q, e2⟩ : ∃ q, q = subW m (l.map wRp).sum := ⟨_, rfl⟩ 
  rw [← e2] at h3 hs 
  try simp at h3 
  by_cases h4 : q < 0 
  · have ef : subW n (wL wRp l) = -1 := by omega 
    simp only [h4, if_true] at h3 
    simp -implicitDefEqProofs [l_szReplyS_b, h2, h, h3, ef] 
  have ef : subW n (wL wRp l) = q := by omega 
  simp only [h4, if_false] at h3
  simp -implicitDefEqProofs [l_szReplyS_b, h2, h, h3, ef]
theorem L_l_toReplyS (l : List Rp) (hlen : l.length ≤ 1048576) (hb : wL wRp l ≤ 1048576) : loopW (evA (ev L TT) (okT TT) l_toReplyS_L0) [(0, .row .bor 18 (l.map (eRp .bor))), (3, .row .own 18 (fillN (l.map (eRp .own)) 0 [.int .i64 0, .int .i64 0, .str ⟨#[]⟩, .row .own 2 [], .str ⟨#[]⟩, .int .i64 0, .row .own 2 [], .str ⟨#[]⟩, .int .i64 0, .int .i64 0, .str ⟨#[]⟩, .row .own 1 [], .row .own 1 [], .int .i64 0, .row .own 2 [], .str ⟨#[]⟩, .int .i64 0, .int .i64 0])), (4, .int .i64 0), (6, .int .i64 l.length)] = some (.exit 0, [(0, .row .bor 18 (l.map (eRp .bor))), (3, .row .own 18 (l.map (eRp .own))), (4, .int .i64 (l).length), (6, .int .i64 l.length), (11, .bool false)]) := by
  refine loop_count (f := evA (ev L TT) (okT TT) l_toReplyS_L0) (l) (fun i => [(0, .row .bor 18 (l.map (eRp .bor))), (3, .row .own 18 (fillN (l.map (eRp .own)) i [.int .i64 0, .int .i64 0, .str ⟨#[]⟩, .row .own 2 [], .str ⟨#[]⟩, .int .i64 0, .row .own 2 [], .str ⟨#[]⟩, .int .i64 0, .int .i64 0, .str ⟨#[]⟩, .row .own 1 [], .row .own 1 [], .int .i64 0, .row .own 2 [], .str ⟨#[]⟩, .int .i64 0, .int .i64 0])), (4, .int .i64 i), (6, .int .i64 l.length)]) _ (fun i b hi hl => ?_) ?_
  · have hw := wrap_succ i (by first | omega | (simp at hl; omega))
    obtain ⟨_, rfl⟩ := List.getElem?_eq_some_iff.1 hi
    have h := c_l_toReply (L := L) l[i] (Nat.le_trans (wL_mem (List.getElem_mem hl)) hb) 
    try simp at h
    simp -implicitDefEqProofs [l_toReplyS_L0, l_toReplyS_L0b, hl, hw, h]
    first | done | (rw [fillN_set _ _ _ _ (by simpa using hl) (by simp)]; done) | (simp only [modify_two]; rw [fillN_set _ _ _ _ (by simpa using hl) (by simp)])
  · simp -implicitDefEqProofs [l_toReplyS_L0, l_toReplyS_L0b]
theorem c_l_toReplyS (l : List Rp) (hb : wL wRp l ≤ 1048576) : ev L TT 44 [.row .bor 18 (l.map (eRp .bor))] = some (.row .own 18 (l.map (eRp .own)), [.dead]) := by
  rw [ev_run (b := l_toReplyS_b) (rs := [.t 2]) (n := 1) rfl rfl]
  have hlen := wL_len (w := wRp) l 
  have h := L_l_toReplyS (L := L) l (by omega) hb 
  try simp at h
  simp -implicitDefEqProofs [l_toReplyS_b, h, (by omega : (l.length : Int) * 264 ≤ 140737488355328)]
theorem L_l_eqReplyS (ps : List (Rp × Rp)) (hb : ps.length ≤ 9223372036854775807) (hb1 : ∀ x ∈ ps, bRp x.1) : loopW (evA (ev L TT) (okT TT) l_eqReplyS_L0) [(0, .row .bor 18 (ps.map (fun x : Rp × Rp => (eRp .bor) x.1))), (1, .row .bor 18 (ps.map (fun x : Rp × Rp => (eRp .bor) x.2))), (5, .int .i64 0)] = if allB eqB (ps) = true then some (.exit 0, [(0, .row .bor 18 (ps.map (fun x : Rp × Rp => (eRp .bor) x.1))), (1, .row .bor 18 (ps.map (fun x : Rp × Rp => (eRp .bor) x.2))), (5, .int .i64 ps.length), (14, .bool false)]) else some (.ret, [(4, .bool false)]) := by
  refine loop_all (f := evA (ev L TT) (okT TT) l_eqReplyS_L0) (ps) (fun i => [(0, .row .bor 18 (ps.map (fun x : Rp × Rp => (eRp .bor) x.1))), (1, .row .bor 18 (ps.map (fun x : Rp × Rp => (eRp .bor) x.2))), (5, .int .i64 i)]) eqB _ _ (fun i b hi hl => ?_) ?_
  · have hw := wrap_succ i (by first | omega | (simp at hl; omega))
    obtain ⟨_, rfl⟩ := List.getElem?_eq_some_iff.1 hi
    have h := c_l_eqReply (L := L) (ps[i]).1 (ps[i]).2 (hb1 _ (List.getElem_mem hl)); try simp at h
    simp -implicitDefEqProofs [l_eqReplyS_L0, l_eqReplyS_L0b, hl, hw, eqB, h]
  · simp -implicitDefEqProofs [l_eqReplyS_L0, l_eqReplyS_L0b]
theorem c_l_eqReplyS (a b : List Rp) (hb : bL bRp a) : ev L TT 47 [.row .bor 18 (a.map (eRp .bor)), .row .bor 18 (b.map (eRp .bor))] = some (.bool (decide (a = b)), [.dead, .dead]) := by
  rw [ev_run (b := l_eqReplyS_b) (rs := [.t 4]) (n := 2) rfl rfl]
  simp -implicitDefEqProofs [l_eqReplyS_b]
  by_cases h : a.length = b.length 
  · obtain ⟨ps, rfl, rfl⟩ := zip_ex h 
    have h1 := L_l_eqReplyS (L := L) ps (by simpa using hb.1) (fun x hx => hb.2 _ (List.mem_map_of_mem hx)) 
    have h2 := allB_eq ps 
    simp at h1 
    cases h3 : allB eqB ps <;> rw [h3] at h1 h2 <;> simp [h1, Function.comp_def, ← h2] 
  · have : ¬ a = b := fun e => h (by rw [e]) 
    simp [this] 
    omega
theorem c_l_szCache (a : Ca) (n : Int) (hb : bCa a) (hn : 0 ≤ n) (hm : n ≤ 9223372036854775807) : ev L TT 12 [.agg ((eCa .bor) a), .int .i64 n] = some (.int .i64 (subW n (wCa a)), [.dead, .dead]) := by
  rw [ev_run (b := l_szCache_b) (rs := [.t 4]) (n := 2) rfl rfl]
  have hw : wCa a = wSh a.shelf + wL wFl a.flights + wL wSe a.seen + wL wRp a.sent := rfl 
  have ht := subW_or n (wCa a) 
  have c1 := c_l_szShelf (L := L) a.shelf n hb.k_shelf (by omega) (by omega) 
  have s1 := subW_or n (wSh a.shelf) 
  obtain ⟨m1, e1⟩ : ∃ m, m = subW n (wSh a.shelf) := ⟨_, rfl⟩ 
  rw [← e1] at c1 s1 
  try simp at c1 
  by_cases h1 : m1 < 0 
  · have ef : subW n (wCa a) = -1 := by omega 
    simp -implicitDefEqProofs [l_szCache_b, c1, h1, ef] 
  have c2 := c_l_szFlightS (L := L) a.flights m1 hb.k_flights (by omega) (by omega) 
  have s2 := subW_or m1 (wL wFl a.flights) 
  obtain ⟨m2, e2⟩ : ∃ m, m = subW m1 (wL wFl a.flights) := ⟨_, rfl⟩ 
  rw [← e2] at c2 s2 
  try simp at c2 
  by_cases h2 : m2 < 0 
  · have ef : subW n (wCa a) = -1 := by omega 
    simp -implicitDefEqProofs [l_szCache_b, c1, h1, c2, h2, ef] 
  have c3 := c_l_szSeenS (L := L) a.seen m2 hb.k_seen (by omega) (by omega) 
  have s3 := subW_or m2 (wL wSe a.seen) 
  obtain ⟨m3, e3⟩ : ∃ m, m = subW m2 (wL wSe a.seen) := ⟨_, rfl⟩ 
  rw [← e3] at c3 s3 
  try simp at c3 
  by_cases h3 : m3 < 0 
  · have ef : subW n (wCa a) = -1 := by omega 
    simp -implicitDefEqProofs [l_szCache_b, c1, h1, c2, h2, c3, h3, ef] 
  have c4 := c_l_szReplyS (L := L) a.sent m3 hb.k_sent (by omega) (by omega) 
  have s4 := subW_or m3 (wL wRp a.sent) 
  obtain ⟨m4, e4⟩ : ∃ m, m = subW m3 (wL wRp a.sent) := ⟨_, rfl⟩ 
  rw [← e4] at c4 s4 
  try simp at c4 
  by_cases h4 : m4 < 0 
  · have ef : subW n (wCa a) = -1 := by omega 
    simp -implicitDefEqProofs [l_szCache_b, c1, h1, c2, h2, c3, h3, c4, h4, ef] 
  have ef : subW n (wCa a) = m4 := by omega
  simp -implicitDefEqProofs [l_szCache_b, c1, h1, c2, h2, c3, h3, c4, h4, ef]
theorem c_l_toCache (a : Ca) (hb : wCa a ≤ 1048576) : ev L TT 14 [.agg ((eCa .bor) a)] = some (.agg ((eCa .own) a), [.dead]) := by
  rw [ev_run (b := l_toCache_b) (rs := [.c 2 10 true 53]) (n := 1) rfl rfl]
  have hw : wCa a = wSh a.shelf + wL wFl a.flights + wL wSe a.seen + wL wRp a.sent := rfl 
  have h1 := c_l_toShelf (L := L) a.shelf (by omega) 
  try simp at h1 
  have h2 := c_l_toFlightS (L := L) a.flights (by omega) 
  try simp at h2 
  have h3 := c_l_toSeenS (L := L) a.seen (by omega) 
  try simp at h3 
  have h4 := c_l_toReplyS (L := L) a.sent (by omega) 
  try simp at h4
  simp -implicitDefEqProofs [l_toCache_b, h1, h2, h3, h4, hw]
theorem c_l_eqCache (a b : Ca) (hb : bCa a) : ev L TT 16 [.agg ((eCa .bor) a), .agg ((eCa .bor) b)] = some (.bool (decide (a = b)), [.dead, .dead]) := by
  rw [ev_run (b := l_eqCache_b) (rs := [.t 4]) (n := 2) rfl rfl]
  rw [dec_Ca] 
  have c1 := c_l_eqShelf (L := L) a.shelf b.shelf hb.k_shelf 
  cases g1 : decide (a.shelf = b.shelf) 
  · rw [g1] at c1 
    try simp at c1 
    simp -implicitDefEqProofs [l_eqCache_b, c1] 
  rw [g1] at c1 
  try simp at c1 
  have c2 := c_l_eqFlightS (L := L) a.flights b.flights hb.k_flights 
  cases g2 : decide (a.flights = b.flights) 
  · rw [g2] at c2 
    try simp at c2 
    simp -implicitDefEqProofs [l_eqCache_b, c1, c2] 
  rw [g2] at c2 
  try simp at c2 
  by_cases g3 : a.now = b.now 
  rotate_left 
  · simp -implicitDefEqProofs [l_eqCache_b, c1, c2, eq_false g3] 
  have c4 := c_l_eqSeenS (L := L) a.seen b.seen hb.k_seen 
  cases g4 : decide (a.seen = b.seen) 
  · rw [g4] at c4 
    try simp at c4 
    simp -implicitDefEqProofs [l_eqCache_b, c1, c2, eq_true g3, c4] 
  rw [g4] at c4 
  try simp at c4 
  have c5 := c_l_eqReplyS (L := L) a.sent b.sent hb.k_sent 
  cases g5 : decide (a.sent = b.sent) 
  · rw [g5] at c5 
    try simp at c5 
    simp -implicitDefEqProofs [l_eqCache_b, c1, c2, eq_true g3, c4, c5] 
  rw [g5] at c5 
  try simp at c5
  simp -implicitDefEqProofs [l_eqCache_b, c1, c2, eq_true g3, c4, c5]
end M
