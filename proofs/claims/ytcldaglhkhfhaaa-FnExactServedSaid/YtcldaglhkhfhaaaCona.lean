/- What the functions come to in the machine; no conditions. -/
import Derived.Test.YtcldaglhkhfhaaaTab
import Derived.Test.YtcldaglhkhfhaaaMd
set_option linter.unusedSectionVars false
set_option linter.unusedVariables false
set_option linter.unusedSimpArgs false
namespace M
open Go
theorem L_l_szStringS (l : List Str) (hlen : l.length ≤ 9223372036854775807) (hb : bL bS l) (n : Int) (hn : 0 ≤ n) (hm : n ≤ 9223372036854775807) : loopW (evA (ev LI TT) (okT TT) l_szStringS_L0) [(0, .row .bor 1 (l.map (eS))), (1, .int .i64 n), (5, .int .i64 0)] = if szL (fun b n => subW n (wS b)) (l) n < 0 then some (.ret, [(4, .int .i64 (-1))]) else some (.exit 0, [(0, .row .bor 1 (l.map (eS))), (1, .int .i64 (szL (fun b n => subW n (wS b)) (l) n)), (5, .int .i64 (l).length), (15, .bool false)]) := by
  refine loop_sz (f := evA (ev LI TT) (okT TT) l_szStringS_L0) (l) (fun i n => [(0, .row .bor 1 (l.map (eS))), (1, .int .i64 n), (5, .int .i64 i)]) (fun b n => subW n (wS b)) _ (fun n => [(0, .row .bor 1 (l.map (eS))), (1, .int .i64 n), (5, .int .i64 (l).length), (15, .bool false)]) n hn hm (fun b n => subW_le _ n) (fun i b n hi hl hn hm => ?_) (fun n => ?_)
  · have hw := wrap_succ i (by first | omega | (simp at hl; omega))
    obtain ⟨_, rfl⟩ := List.getElem?_eq_some_iff.1 hi
    have h1 : (l[i]).length ≤ 9223372036854775807 := hb.2 _ (List.getElem_mem hl) 
    have h3 := subW_or n (wS l[i]) 
    have h4 : wS l[i] = (l[i]).length := rfl 
    obtain ⟨m, e1⟩ : ∃ m, m = n - ((l[i]).length : Int) := ⟨_, rfl⟩ 
    have h2 : IntKind.i64.wrap (n - ((l[i]).length : Int)) = m := by rw [e1]; exact wrap_id (by omega) (by omega) 
    by_cases h5 : m < 0 
    · have ef : subW n (wS l[i]) = -1 := by omega 
      simp -implicitDefEqProofs [l_szStringS_L0, l_szStringS_L0b, hl, hw, h2, h5, ef] 
    have ef : subW n (wS l[i]) = m := by omega
    simp -implicitDefEqProofs [l_szStringS_L0, l_szStringS_L0b, hl, hw, h2, h5, ef]
  · simp -implicitDefEqProofs [l_szStringS_L0, l_szStringS_L0b]
theorem c_l_szStringS (l : List Str) (n : Int) (hb : bL bS l) (hn : 0 ≤ n) (hm : n ≤ 9223372036854775807) : ev LI TT 63 [.row .bor 1 (l.map (eS)), .int .i64 n] = some (.int .i64 (subW n (wL wS l)), [.dead, .dead]) := by
  rw [ev_run (b := l_szStringS_b) (rs := [.t 4]) (n := 2) rfl rfl]
  have hl := hb.1 
  have hw : wL wS l = l.length + (l.map wS).sum := rfl 
  have ht := subW_or n (wL wS l) 
  obtain ⟨m, e1⟩ : ∃ m, m = n - (l.length : Int) := ⟨_, rfl⟩ 
  have h2 : IntKind.i64.wrap (n - (l.length : Int)) = m := by rw [e1]; exact wrap_id (by omega) (by omega) 
  by_cases h : m < 0 
  · have ef : subW n (wL wS l) = -1 := by omega 
    simp -implicitDefEqProofs [l_szStringS_b, h2, h, ef] 
  have h3 := L_l_szStringS  l hb.1 hb m (by omega) (by omega) 
  rw [szL_subW _ _ _ (by omega)] at h3 
  have hs := subW_or m (l.map wS).sum 
  obtain ⟨q, e2⟩ : ∃ q, q = subW m (l.map wS).sum := ⟨_, rfl⟩ 
  rw [← e2] at h3 hs 
  try simp at h3 
  by_cases h4 : q < 0 
  · have ef : subW n (wL wS l) = -1 := by omega 
    simp only [h4, if_true] at h3 
    simp -implicitDefEqProofs [l_szStringS_b, h2, h, h3, ef] 
  have ef : subW n (wL wS l) = q := by omega 
  simp only [h4, if_false] at h3
  simp -implicitDefEqProofs [l_szStringS_b, h2, h, h3, ef]
  all_goals (repeat' split) <;> first | rfl | omega | (simp_all; done) | (simp_all; omega) | skip
theorem L_l_toStringS (l : List Str) (hlen : l.length ≤ 1048576) (hb : wL wS l ≤ 1048576) : loopW (evA (ev LI TT) (okT TT) l_toStringS_L0) [(0, .row .bor 1 (l.map eS)), (3, .row .own 1 (fillN (l.map eS) 0 [.str ⟨#[]⟩])), (4, .int .i64 0), (6, .int .i64 l.length)] = some (.exit 0, [(0, .row .bor 1 (l.map eS)), (3, .row .own 1 (l.map eS)), (4, .int .i64 (l).length), (6, .int .i64 l.length), (11, .bool false)]) := by
  refine loop_count (f := evA (ev LI TT) (okT TT) l_toStringS_L0) (l) (fun i => [(0, .row .bor 1 (l.map eS)), (3, .row .own 1 (fillN (l.map eS) i [.str ⟨#[]⟩])), (4, .int .i64 i), (6, .int .i64 l.length)]) _ (fun i b hi hl => ?_) ?_
  · have hw := wrap_succ i (by first | omega | (simp at hl; omega))
    obtain ⟨_, rfl⟩ := List.getElem?_eq_some_iff.1 hi
    skip
    simp -implicitDefEqProofs [l_toStringS_L0, l_toStringS_L0b, hl, hw]
    first | done | (rw [fillN_set _ _ _ _ (by simpa using hl) (by simp)]; done) | (simp only [modify_two]; rw [fillN_set _ _ _ _ (by simpa using hl) (by simp)])
  · simp -implicitDefEqProofs [l_toStringS_L0, l_toStringS_L0b]
theorem c_l_toStringS (l : List Str) (hb : wL wS l ≤ 1048576) : ev LI TT 73 [.row .bor 1 (l.map eS)] = some (.row .own 1 (l.map eS), [.dead]) := by
  rw [ev_run (b := l_toStringS_b) (rs := [.t 2]) (n := 1) rfl rfl]
  have hlen := wL_len (w := wS) l 
  have h := L_l_toStringS  l (by omega) hb 
  try simp at h
  simp -implicitDefEqProofs [l_toStringS_b, h, (by omega : (l.length : Int) * 16 ≤ 140737488355328)]
  all_goals (repeat' split) <;> first | rfl | omega | (simp_all; done) | (simp_all; omega) | skip
theorem L_l_eqStringS (ps : List (Str × Str)) (hb : ps.length ≤ 9223372036854775807) (hb1 : ∀ x ∈ ps, wS x.1 ≤ 1073741824) : loopW (evA (ev LI TT) (okT TT) l_eqStringS_L0) [(0, .row .bor 1 (ps.map (fun x : Str × Str => eS x.1))), (1, .row .bor 1 (ps.map (fun x : Str × Str => eS x.2))), (5, .int .i64 0)] = if allB eqB (ps) = true then some (.exit 0, [(0, .row .bor 1 (ps.map (fun x : Str × Str => eS x.1))), (1, .row .bor 1 (ps.map (fun x : Str × Str => eS x.2))), (5, .int .i64 ps.length), (14, .bool false)]) else some (.ret, [(4, .bool false)]) := by
  refine loop_all (f := evA (ev LI TT) (okT TT) l_eqStringS_L0) (ps) (fun i => [(0, .row .bor 1 (ps.map (fun x : Str × Str => eS x.1))), (1, .row .bor 1 (ps.map (fun x : Str × Str => eS x.2))), (5, .int .i64 i)]) eqB _ _ (fun i b hi hl => ?_) ?_
  · have hw := wrap_succ i (by first | omega | (simp at hl; omega))
    obtain ⟨_, rfl⟩ := List.getElem?_eq_some_iff.1 hi
    simp -implicitDefEqProofs [l_eqStringS_L0, l_eqStringS_L0b, hl, hw, eqB]
    first | done | (split <;> simp_all)
  · simp -implicitDefEqProofs [l_eqStringS_L0, l_eqStringS_L0b]
theorem c_l_eqStringS (a b : List Str) (hb : wL wS a ≤ 1073741824) : ev LI TT 80 [.row .bor 1 (a.map eS), .row .bor 1 (b.map eS)] = some (.bool (decide (a = b)), [.dead, .dead]) := by
  rw [ev_run (b := l_eqStringS_b) (rs := [.t 4]) (n := 2) rfl rfl]
  simp -implicitDefEqProofs [l_eqStringS_b]
  have hlen := wL_len (w := wS) a 
  by_cases h : a.length = b.length 
  · obtain ⟨ps, rfl, rfl⟩ := zip_ex h 
    have h1 := L_l_eqStringS  ps (by simp at hlen; omega) (fun x hx => Nat.le_trans (wL_mem (List.mem_map_of_mem hx)) hb) 
    have h2 := allB_eq ps 
    simp at h1 
    cases h3 : allB eqB ps <;> rw [h3] at h1 h2 <;> simp [h1, Function.comp_def, ← h2] 
  · have : ¬ a = b := fun e => h (by rw [e]) 
    simp [this] 
    omega
theorem c_l_szWrite (a : Wr) (n : Int) (hb : bWr a) (hn : 0 ≤ n) (hm : n ≤ 9223372036854775807) : ev LI TT 107 [.agg (eW a), .int .i64 n] = some (.int .i64 (subW n (wWr a)), [.dead, .dead]) := by
  rw [ev_run (b := l_szWrite_b) (rs := [.t 4]) (n := 2) rfl rfl]
  have hw : wWr a = a.text.length := rfl 
  have ht := subW_or n (wWr a) 
  have hl1 : a.text.length ≤ 9223372036854775807 := hb.k_text 
  obtain ⟨m1, e1⟩ : ∃ m, m = n - (a.text.length : Int) := ⟨_, rfl⟩ 
  have c1 : IntKind.i64.wrap (n - (a.text.length : Int)) = m1 := by rw [e1]; exact wrap_id (by omega) (by omega) 
  by_cases h1 : m1 < 0 
  · have ef : subW n (wWr a) = -1 := by omega 
    simp -implicitDefEqProofs [l_szWrite_b, c1, h1, ef] 
  have ef : subW n (wWr a) = m1 := by omega
  simp -implicitDefEqProofs [l_szWrite_b, c1, h1, ef]
  all_goals (repeat' split) <;> first | rfl | omega | (simp_all; done) | (simp_all; omega) | skip
theorem c_l_toWrite (a : Wr) (hb : wWr a ≤ 1048576) : ev LI TT 109 [.agg (eW a)] = some (.agg (eW a), [.dead]) := by
  rw [ev_run (b := l_toWrite_b) (rs := [.c 2 2 true 182]) (n := 1) rfl rfl]
  have hw : wWr a = a.text.length := rfl
  simp -implicitDefEqProofs [l_toWrite_b, hw]
  all_goals (repeat' split) <;> first | rfl | omega | (simp_all; done) | (simp_all; omega) | skip
theorem c_l_eqWrite (a b : Wr) (hb : wWr a ≤ 1073741824) : ev LI TT 112 [.agg (eW a), .agg (eW b)] = some (.bool (decide (a = b)), [.dead, .dead]) := by
  rw [ev_run (b := l_eqWrite_b) (rs := [.t 4]) (n := 2) rfl rfl]
  have hw : wWr a = a.text.length := rfl 
  rw [dec_Wr] 
  by_cases g1 : a.at_ = b.at_ 
  rotate_left 
  · simp -implicitDefEqProofs [l_eqWrite_b, eq_false g1] 
  by_cases g2 : a.text = b.text 
  rotate_left 
  · simp -implicitDefEqProofs [l_eqWrite_b, eq_true g1, eq_false g2]
  simp -implicitDefEqProofs [l_eqWrite_b, eq_true g1, eq_true g2]
  all_goals (repeat' split) <;> first | rfl | omega | (simp_all; done) | (simp_all; omega) | skip
theorem L_l_szWriteS (l : List Wr) (hlen : l.length ≤ 9223372036854775807) (hb : bL bWr l) (n : Int) (hn : 0 ≤ n) (hm : n ≤ 9223372036854775807) : loopW (evA (ev LI TT) (okT TT) l_szWriteS_L0) [(0, .row .bor 2 (l.map (eW))), (1, .int .i64 n), (5, .int .i64 0)] = if szL (fun b n => subW n (wWr b)) (l) n < 0 then some (.ret, [(4, .int .i64 (-1))]) else some (.exit 0, [(0, .row .bor 2 (l.map (eW))), (1, .int .i64 (szL (fun b n => subW n (wWr b)) (l) n)), (5, .int .i64 (l).length), (15, .bool false)]) := by
  refine loop_sz (f := evA (ev LI TT) (okT TT) l_szWriteS_L0) (l) (fun i n => [(0, .row .bor 2 (l.map (eW))), (1, .int .i64 n), (5, .int .i64 i)]) (fun b n => subW n (wWr b)) _ (fun n => [(0, .row .bor 2 (l.map (eW))), (1, .int .i64 n), (5, .int .i64 (l).length), (15, .bool false)]) n hn hm (fun b n => subW_le _ n) (fun i b n hi hl hn hm => ?_) (fun n => ?_)
  · have hw := wrap_succ i (by first | omega | (simp at hl; omega))
    obtain ⟨_, rfl⟩ := List.getElem?_eq_some_iff.1 hi
    have h2 := c_l_szWrite  l[i] n (hb.2 _ (List.getElem_mem hl)) hn hm 
    obtain ⟨m, e1⟩ : ∃ m, m = subW n (wWr l[i]) := ⟨_, rfl⟩ 
    rw [← e1] at h2 ⊢ 
    try simp at h2
    simp -implicitDefEqProofs [l_szWriteS_L0, l_szWriteS_L0b, hl, hw, h2]
  · simp -implicitDefEqProofs [l_szWriteS_L0, l_szWriteS_L0b]
theorem c_l_szWriteS (l : List Wr) (n : Int) (hb : bL bWr l) (hn : 0 ≤ n) (hm : n ≤ 9223372036854775807) : ev LI TT 89 [.row .bor 2 (l.map (eW)), .int .i64 n] = some (.int .i64 (subW n (wL wWr l)), [.dead, .dead]) := by
  rw [ev_run (b := l_szWriteS_b) (rs := [.t 4]) (n := 2) rfl rfl]
  have hl := hb.1 
  have hw : wL wWr l = l.length + (l.map wWr).sum := rfl 
  have ht := subW_or n (wL wWr l) 
  obtain ⟨m, e1⟩ : ∃ m, m = n - (l.length : Int) := ⟨_, rfl⟩ 
  have h2 : IntKind.i64.wrap (n - (l.length : Int)) = m := by rw [e1]; exact wrap_id (by omega) (by omega) 
  by_cases h : m < 0 
  · have ef : subW n (wL wWr l) = -1 := by omega 
    simp -implicitDefEqProofs [l_szWriteS_b, h2, h, ef] 
  have h3 := L_l_szWriteS  l hb.1 hb m (by omega) (by omega) 
  rw [szL_subW _ _ _ (by omega)] at h3 
  have hs := subW_or m (l.map wWr).sum 
  obtain ⟨q, e2⟩ : ∃ q, q = subW m (l.map wWr).sum := ⟨_, rfl⟩ 
  rw [← e2] at h3 hs 
  try simp at h3 
  by_cases h4 : q < 0 
  · have ef : subW n (wL wWr l) = -1 := by omega 
    simp only [h4, if_true] at h3 
    simp -implicitDefEqProofs [l_szWriteS_b, h2, h, h3, ef] 
  have ef : subW n (wL wWr l) = q := by omega 
  simp only [h4, if_false] at h3
  simp -implicitDefEqProofs [l_szWriteS_b, h2, h, h3, ef]
  all_goals (repeat' split) <;> first | rfl | omega | (simp_all; done) | (simp_all; omega) | skip
theorem L_l_toWriteS (l : List Wr) (hlen : l.length ≤ 1048576) (hb : wL wWr l ≤ 1048576) : loopW (evA (ev LI TT) (okT TT) l_toWriteS_L0) [(0, .row .bor 2 (l.map eW)), (3, .row .own 2 (fillN (l.map eW) 0 [.int .i64 0, .str ⟨#[]⟩])), (4, .int .i64 0), (6, .int .i64 l.length)] = some (.exit 0, [(0, .row .bor 2 (l.map eW)), (3, .row .own 2 (l.map eW)), (4, .int .i64 (l).length), (6, .int .i64 l.length), (11, .bool false)]) := by
  refine loop_count (f := evA (ev LI TT) (okT TT) l_toWriteS_L0) (l) (fun i => [(0, .row .bor 2 (l.map eW)), (3, .row .own 2 (fillN (l.map eW) i [.int .i64 0, .str ⟨#[]⟩])), (4, .int .i64 i), (6, .int .i64 l.length)]) _ (fun i b hi hl => ?_) ?_
  · have hw := wrap_succ i (by first | omega | (simp at hl; omega))
    obtain ⟨_, rfl⟩ := List.getElem?_eq_some_iff.1 hi
    have h := c_l_toWrite  l[i] (Nat.le_trans (wL_mem (List.getElem_mem hl)) hb) 
    try simp at h
    simp -implicitDefEqProofs [l_toWriteS_L0, l_toWriteS_L0b, hl, hw, h]
    first | done | (rw [fillN_set _ _ _ _ (by simpa using hl) (by simp)]; done) | (simp only [modify_two]; rw [fillN_set _ _ _ _ (by simpa using hl) (by simp)])
  · simp -implicitDefEqProofs [l_toWriteS_L0, l_toWriteS_L0b]
theorem c_l_toWriteS (l : List Wr) (hb : wL wWr l ≤ 1048576) : ev LI TT 95 [.row .bor 2 (l.map eW)] = some (.row .own 2 (l.map eW), [.dead]) := by
  rw [ev_run (b := l_toWriteS_b) (rs := [.t 2]) (n := 1) rfl rfl]
  have hlen := wL_len (w := wWr) l 
  have h := L_l_toWriteS  l (by omega) hb 
  try simp at h
  simp -implicitDefEqProofs [l_toWriteS_b, h, (by omega : (l.length : Int) * 24 ≤ 140737488355328)]
  all_goals (repeat' split) <;> first | rfl | omega | (simp_all; done) | (simp_all; omega) | skip
theorem L_l_eqWriteS (ps : List (Wr × Wr)) (hb : ps.length ≤ 9223372036854775807) (hb1 : ∀ x ∈ ps, wWr x.1 ≤ 1073741824) : loopW (evA (ev LI TT) (okT TT) l_eqWriteS_L0) [(0, .row .bor 2 (ps.map (fun x : Wr × Wr => eW x.1))), (1, .row .bor 2 (ps.map (fun x : Wr × Wr => eW x.2))), (5, .int .i64 0)] = if allB eqB (ps) = true then some (.exit 0, [(0, .row .bor 2 (ps.map (fun x : Wr × Wr => eW x.1))), (1, .row .bor 2 (ps.map (fun x : Wr × Wr => eW x.2))), (5, .int .i64 ps.length), (14, .bool false)]) else some (.ret, [(4, .bool false)]) := by
  refine loop_all (f := evA (ev LI TT) (okT TT) l_eqWriteS_L0) (ps) (fun i => [(0, .row .bor 2 (ps.map (fun x : Wr × Wr => eW x.1))), (1, .row .bor 2 (ps.map (fun x : Wr × Wr => eW x.2))), (5, .int .i64 i)]) eqB _ _ (fun i b hi hl => ?_) ?_
  · have hw := wrap_succ i (by first | omega | (simp at hl; omega))
    obtain ⟨_, rfl⟩ := List.getElem?_eq_some_iff.1 hi
    have h := c_l_eqWrite  (ps[i]).1 (ps[i]).2 (hb1 _ (List.getElem_mem hl)); try simp at h
    simp -implicitDefEqProofs [l_eqWriteS_L0, l_eqWriteS_L0b, hl, hw, eqB, h]
  · simp -implicitDefEqProofs [l_eqWriteS_L0, l_eqWriteS_L0b]
theorem c_l_eqWriteS (a b : List Wr) (hb : wL wWr a ≤ 1073741824) : ev LI TT 103 [.row .bor 2 (a.map eW), .row .bor 2 (b.map eW)] = some (.bool (decide (a = b)), [.dead, .dead]) := by
  rw [ev_run (b := l_eqWriteS_b) (rs := [.t 4]) (n := 2) rfl rfl]
  simp -implicitDefEqProofs [l_eqWriteS_b]
  have hlen := wL_len (w := wWr) a 
  by_cases h : a.length = b.length 
  · obtain ⟨ps, rfl, rfl⟩ := zip_ex h 
    have h1 := L_l_eqWriteS  ps (by simp at hlen; omega) (fun x hx => Nat.le_trans (wL_mem (List.mem_map_of_mem hx)) hb) 
    have h2 := allB_eq ps 
    simp at h1 
    cases h3 : allB eqB ps <;> rw [h3] at h1 h2 <;> simp [h1, Function.comp_def, ← h2] 
  · have : ¬ a = b := fun e => h (by rw [e]) 
    simp [this] 
    omega
theorem c_l_szDisk (a : Dsk) (n : Int) (hb : bDsk a) (hn : 0 ≤ n) (hm : n ≤ 9223372036854775807) : ev LI TT 57 [.agg ((eDsk .bor) a), .int .i64 n] = some (.int .i64 (subW n (wDsk a)), [.dead, .dead]) := by
  rw [ev_run (b := l_szDisk_b) (rs := [.t 4]) (n := 2) rfl rfl]
  have hw : wDsk a = wL wS a.cells + wL wWr a.pending := rfl 
  have ht := subW_or n (wDsk a) 
  have c1 := c_l_szStringS  a.cells n hb.k_cells (by omega) (by omega) 
  have s1 := subW_or n (wL wS a.cells) 
  obtain ⟨m1, e1⟩ : ∃ m, m = subW n (wL wS a.cells) := ⟨_, rfl⟩ 
  rw [← e1] at c1 s1 
  try simp at c1 
  by_cases h1 : m1 < 0 
  · have ef : subW n (wDsk a) = -1 := by omega 
    simp -implicitDefEqProofs [l_szDisk_b, c1, h1, ef] 
  have c2 := c_l_szWriteS  a.pending m1 hb.k_pending (by omega) (by omega) 
  have s2 := subW_or m1 (wL wWr a.pending) 
  obtain ⟨m2, e2⟩ : ∃ m, m = subW m1 (wL wWr a.pending) := ⟨_, rfl⟩ 
  rw [← e2] at c2 s2 
  try simp at c2 
  by_cases h2 : m2 < 0 
  · have ef : subW n (wDsk a) = -1 := by omega 
    simp -implicitDefEqProofs [l_szDisk_b, c1, h1, c2, h2, ef] 
  have ef : subW n (wDsk a) = m2 := by omega
  simp -implicitDefEqProofs [l_szDisk_b, c1, h1, c2, h2, ef]
  all_goals (repeat' split) <;> first | rfl | omega | (simp_all; done) | (simp_all; omega) | skip
theorem c_l_toDisk (a : Dsk) (hb : wDsk a ≤ 1048576) : ev LI TT 67 [.agg ((eDsk .bor) a)] = some (.agg ((eDsk .own) a), [.dead]) := by
  rw [ev_run (b := l_toDisk_b) (rs := [.c 2 2 true 49]) (n := 1) rfl rfl]
  have hw : wDsk a = wL wS a.cells + wL wWr a.pending := rfl 
  have h1 := c_l_toStringS  a.cells (by omega) 
  try simp at h1 
  have h2 := c_l_toWriteS  a.pending (by omega) 
  try simp at h2
  simp -implicitDefEqProofs [l_toDisk_b, h1, h2, hw]
  all_goals (repeat' split) <;> first | rfl | omega | (simp_all; done) | (simp_all; omega) | skip
theorem c_l_eqDisk (a b : Dsk) (hb : wDsk a ≤ 1073741824) : ev LI TT 75 [.agg ((eDsk .bor) a), .agg ((eDsk .bor) b)] = some (.bool (decide (a = b)), [.dead, .dead]) := by
  rw [ev_run (b := l_eqDisk_b) (rs := [.t 4]) (n := 2) rfl rfl]
  have hw : wDsk a = wL wS a.cells + wL wWr a.pending := rfl 
  rw [dec_Dsk] 
  have c1 := c_l_eqStringS  a.cells b.cells (by omega) 
  cases g1 : decide (a.cells = b.cells) 
  · rw [g1] at c1 
    try simp at c1 
    simp -implicitDefEqProofs [l_eqDisk_b, c1] 
  rw [g1] at c1 
  try simp at c1 
  have c2 := c_l_eqWriteS  a.pending b.pending (by omega) 
  cases g2 : decide (a.pending = b.pending) 
  · rw [g2] at c2 
    try simp at c2 
    simp -implicitDefEqProofs [l_eqDisk_b, c1, c2] 
  rw [g2] at c2 
  try simp at c2
  simp -implicitDefEqProofs [l_eqDisk_b, c1, c2]
  all_goals (repeat' split) <;> first | rfl | omega | (simp_all; done) | (simp_all; omega) | skip
theorem c_l_szField (a : Fld) (n : Int) (hb : bFld a) (hn : 0 ≤ n) (hm : n ≤ 9223372036854775807) : ev LI TT 93 [.agg (eFld a), .int .i64 n] = some (.int .i64 (subW n (wFld a)), [.dead, .dead]) := by
  rw [ev_run (b := l_szField_b) (rs := [.t 4]) (n := 2) rfl rfl]
  have hw : wFld a = a.name.length + a.value.length := rfl 
  have ht := subW_or n (wFld a) 
  have hl1 : a.name.length ≤ 9223372036854775807 := hb.k_name 
  obtain ⟨m1, e1⟩ : ∃ m, m = n - (a.name.length : Int) := ⟨_, rfl⟩ 
  have c1 : IntKind.i64.wrap (n - (a.name.length : Int)) = m1 := by rw [e1]; exact wrap_id (by omega) (by omega) 
  by_cases h1 : m1 < 0 
  · have ef : subW n (wFld a) = -1 := by omega 
    simp -implicitDefEqProofs [l_szField_b, c1, h1, ef] 
  have hl2 : a.value.length ≤ 9223372036854775807 := hb.k_value 
  obtain ⟨m2, e2⟩ : ∃ m, m = m1 - (a.value.length : Int) := ⟨_, rfl⟩ 
  have c2 : IntKind.i64.wrap (m1 - (a.value.length : Int)) = m2 := by rw [e2]; exact wrap_id (by omega) (by omega) 
  by_cases h2 : m2 < 0 
  · have ef : subW n (wFld a) = -1 := by omega 
    simp -implicitDefEqProofs [l_szField_b, c1, h1, c2, h2, ef] 
  have ef : subW n (wFld a) = m2 := by omega
  simp -implicitDefEqProofs [l_szField_b, c1, h1, c2, h2, ef]
  all_goals (repeat' split) <;> first | rfl | omega | (simp_all; done) | (simp_all; omega) | skip
theorem c_l_toField (a : Fld) (hb : wFld a ≤ 1048576) : ev LI TT 99 [.agg (eFld a)] = some (.agg (eFld a), [.dead]) := by
  rw [ev_run (b := l_toField_b) (rs := [.c 2 2 true 151]) (n := 1) rfl rfl]
  have hw : wFld a = a.name.length + a.value.length := rfl
  simp -implicitDefEqProofs [l_toField_b, hw]
  all_goals (repeat' split) <;> first | rfl | omega | (simp_all; done) | (simp_all; omega) | skip
theorem c_l_eqField (a b : Fld) (hb : wFld a ≤ 1073741824) : ev LI TT 88 [.agg (eFld a), .agg (eFld b)] = some (.bool (decide (a = b)), [.dead, .dead]) := by
  rw [ev_run (b := l_eqField_b) (rs := [.t 4]) (n := 2) rfl rfl]
  have hw : wFld a = a.name.length + a.value.length := rfl 
  rw [dec_Fld] 
  by_cases g1 : a.name = b.name 
  rotate_left 
  · simp -implicitDefEqProofs [l_eqField_b, eq_false g1] 
  by_cases g2 : a.value = b.value 
  rotate_left 
  · simp -implicitDefEqProofs [l_eqField_b, eq_true g1, eq_false g2]
  simp -implicitDefEqProofs [l_eqField_b, eq_true g1, eq_true g2]
  all_goals (repeat' split) <;> first | rfl | omega | (simp_all; done) | (simp_all; omega) | skip
theorem L_l_szFieldS (l : List Fld) (hlen : l.length ≤ 9223372036854775807) (hb : bL bFld l) (n : Int) (hn : 0 ≤ n) (hm : n ≤ 9223372036854775807) : loopW (evA (ev LI TT) (okT TT) l_szFieldS_L0) [(0, .row .bor 2 (l.map (eFld))), (1, .int .i64 n), (5, .int .i64 0)] = if szL (fun b n => subW n (wFld b)) (l) n < 0 then some (.ret, [(4, .int .i64 (-1))]) else some (.exit 0, [(0, .row .bor 2 (l.map (eFld))), (1, .int .i64 (szL (fun b n => subW n (wFld b)) (l) n)), (5, .int .i64 (l).length), (15, .bool false)]) := by
  refine loop_sz (f := evA (ev LI TT) (okT TT) l_szFieldS_L0) (l) (fun i n => [(0, .row .bor 2 (l.map (eFld))), (1, .int .i64 n), (5, .int .i64 i)]) (fun b n => subW n (wFld b)) _ (fun n => [(0, .row .bor 2 (l.map (eFld))), (1, .int .i64 n), (5, .int .i64 (l).length), (15, .bool false)]) n hn hm (fun b n => subW_le _ n) (fun i b n hi hl hn hm => ?_) (fun n => ?_)
  · have hw := wrap_succ i (by first | omega | (simp at hl; omega))
    obtain ⟨_, rfl⟩ := List.getElem?_eq_some_iff.1 hi
    have h2 := c_l_szField  l[i] n (hb.2 _ (List.getElem_mem hl)) hn hm 
    obtain ⟨m, e1⟩ : ∃ m, m = subW n (wFld l[i]) := ⟨_, rfl⟩ 
    rw [← e1] at h2 ⊢ 
    try simp at h2
    simp -implicitDefEqProofs [l_szFieldS_L0, l_szFieldS_L0b, hl, hw, h2]
  · simp -implicitDefEqProofs [l_szFieldS_L0, l_szFieldS_L0b]
theorem c_l_szFieldS (l : List Fld) (n : Int) (hb : bL bFld l) (hn : 0 ≤ n) (hm : n ≤ 9223372036854775807) : ev LI TT 62 [.row .bor 2 (l.map (eFld)), .int .i64 n] = some (.int .i64 (subW n (wL wFld l)), [.dead, .dead]) := by
  rw [ev_run (b := l_szFieldS_b) (rs := [.t 4]) (n := 2) rfl rfl]
  have hl := hb.1 
  have hw : wL wFld l = l.length + (l.map wFld).sum := rfl 
  have ht := subW_or n (wL wFld l) 
  obtain ⟨m, e1⟩ : ∃ m, m = n - (l.length : Int) := ⟨_, rfl⟩ 
  have h2 : IntKind.i64.wrap (n - (l.length : Int)) = m := by rw [e1]; exact wrap_id (by omega) (by omega) 
  by_cases h : m < 0 
  · have ef : subW n (wL wFld l) = -1 := by omega 
    simp -implicitDefEqProofs [l_szFieldS_b, h2, h, ef] 
  have h3 := L_l_szFieldS  l hb.1 hb m (by omega) (by omega) 
  rw [szL_subW _ _ _ (by omega)] at h3 
  have hs := subW_or m (l.map wFld).sum 
  obtain ⟨q, e2⟩ : ∃ q, q = subW m (l.map wFld).sum := ⟨_, rfl⟩ 
  rw [← e2] at h3 hs 
  try simp at h3 
  by_cases h4 : q < 0 
  · have ef : subW n (wL wFld l) = -1 := by omega 
    simp only [h4, if_true] at h3 
    simp -implicitDefEqProofs [l_szFieldS_b, h2, h, h3, ef] 
  have ef : subW n (wL wFld l) = q := by omega 
  simp only [h4, if_false] at h3
  simp -implicitDefEqProofs [l_szFieldS_b, h2, h, h3, ef]
  all_goals (repeat' split) <;> first | rfl | omega | (simp_all; done) | (simp_all; omega) | skip
theorem L_l_toFieldS (l : List Fld) (hlen : l.length ≤ 1048576) (hb : wL wFld l ≤ 1048576) : loopW (evA (ev LI TT) (okT TT) l_toFieldS_L0) [(0, .row .bor 2 (l.map eFld)), (3, .row .own 2 (fillN (l.map eFld) 0 [.str ⟨#[]⟩, .str ⟨#[]⟩])), (4, .int .i64 0), (6, .int .i64 l.length)] = some (.exit 0, [(0, .row .bor 2 (l.map eFld)), (3, .row .own 2 (l.map eFld)), (4, .int .i64 (l).length), (6, .int .i64 l.length), (11, .bool false)]) := by
  refine loop_count (f := evA (ev LI TT) (okT TT) l_toFieldS_L0) (l) (fun i => [(0, .row .bor 2 (l.map eFld)), (3, .row .own 2 (fillN (l.map eFld) i [.str ⟨#[]⟩, .str ⟨#[]⟩])), (4, .int .i64 i), (6, .int .i64 l.length)]) _ (fun i b hi hl => ?_) ?_
  · have hw := wrap_succ i (by first | omega | (simp at hl; omega))
    obtain ⟨_, rfl⟩ := List.getElem?_eq_some_iff.1 hi
    have h := c_l_toField  l[i] (Nat.le_trans (wL_mem (List.getElem_mem hl)) hb) 
    try simp at h
    simp -implicitDefEqProofs [l_toFieldS_L0, l_toFieldS_L0b, hl, hw, h]
    first | done | (rw [fillN_set _ _ _ _ (by simpa using hl) (by simp)]; done) | (simp only [modify_two]; rw [fillN_set _ _ _ _ (by simpa using hl) (by simp)])
  · simp -implicitDefEqProofs [l_toFieldS_L0, l_toFieldS_L0b]
theorem c_l_toFieldS (l : List Fld) (hb : wL wFld l ≤ 1048576) : ev LI TT 72 [.row .bor 2 (l.map eFld)] = some (.row .own 2 (l.map eFld), [.dead]) := by
  rw [ev_run (b := l_toFieldS_b) (rs := [.t 2]) (n := 1) rfl rfl]
  have hlen := wL_len (w := wFld) l 
  have h := L_l_toFieldS  l (by omega) hb 
  try simp at h
  simp -implicitDefEqProofs [l_toFieldS_b, h, (by omega : (l.length : Int) * 32 ≤ 140737488355328)]
  all_goals (repeat' split) <;> first | rfl | omega | (simp_all; done) | (simp_all; omega) | skip
theorem L_l_eqFieldS (ps : List (Fld × Fld)) (hb : ps.length ≤ 9223372036854775807) (hb1 : ∀ x ∈ ps, wFld x.1 ≤ 1073741824) : loopW (evA (ev LI TT) (okT TT) l_eqFieldS_L0) [(0, .row .bor 2 (ps.map (fun x : Fld × Fld => eFld x.1))), (1, .row .bor 2 (ps.map (fun x : Fld × Fld => eFld x.2))), (5, .int .i64 0)] = if allB eqB (ps) = true then some (.exit 0, [(0, .row .bor 2 (ps.map (fun x : Fld × Fld => eFld x.1))), (1, .row .bor 2 (ps.map (fun x : Fld × Fld => eFld x.2))), (5, .int .i64 ps.length), (14, .bool false)]) else some (.ret, [(4, .bool false)]) := by
  refine loop_all (f := evA (ev LI TT) (okT TT) l_eqFieldS_L0) (ps) (fun i => [(0, .row .bor 2 (ps.map (fun x : Fld × Fld => eFld x.1))), (1, .row .bor 2 (ps.map (fun x : Fld × Fld => eFld x.2))), (5, .int .i64 i)]) eqB _ _ (fun i b hi hl => ?_) ?_
  · have hw := wrap_succ i (by first | omega | (simp at hl; omega))
    obtain ⟨_, rfl⟩ := List.getElem?_eq_some_iff.1 hi
    have h := c_l_eqField  (ps[i]).1 (ps[i]).2 (hb1 _ (List.getElem_mem hl)); try simp at h
    simp -implicitDefEqProofs [l_eqFieldS_L0, l_eqFieldS_L0b, hl, hw, eqB, h]
  · simp -implicitDefEqProofs [l_eqFieldS_L0, l_eqFieldS_L0b]
theorem c_l_eqFieldS (a b : List Fld) (hb : wL wFld a ≤ 1073741824) : ev LI TT 54 [.row .bor 2 (a.map eFld), .row .bor 2 (b.map eFld)] = some (.bool (decide (a = b)), [.dead, .dead]) := by
  rw [ev_run (b := l_eqFieldS_b) (rs := [.t 4]) (n := 2) rfl rfl]
  simp -implicitDefEqProofs [l_eqFieldS_b]
  have hlen := wL_len (w := wFld) a 
  by_cases h : a.length = b.length 
  · obtain ⟨ps, rfl, rfl⟩ := zip_ex h 
    have h1 := L_l_eqFieldS  ps (by simp at hlen; omega) (fun x hx => Nat.le_trans (wL_mem (List.mem_map_of_mem hx)) hb) 
    have h2 := allB_eq ps 
    simp at h1 
    cases h3 : allB eqB ps <;> rw [h3] at h1 h2 <;> simp [h1, Function.comp_def, ← h2] 
  · have : ¬ a = b := fun e => h (by rw [e]) 
    simp [this] 
    omega
theorem c_l_szResp (a : Rsp) (n : Int) (hb : bRsp a) (hn : 0 ≤ n) (hm : n ≤ 9223372036854775807) : ev LI TT 30 [.agg ((eRsp .bor) a), .int .i64 n] = some (.int .i64 (subW n (wRsp a)), [.dead, .dead]) := by
  rw [ev_run (b := l_szResp_b) (rs := [.t 4]) (n := 2) rfl rfl]
  have hw : wRsp a = wL wFld a.fields + a.body.length := rfl 
  have ht := subW_or n (wRsp a) 
  have c1 := c_l_szFieldS  a.fields n hb.k_fields (by omega) (by omega) 
  have s1 := subW_or n (wL wFld a.fields) 
  obtain ⟨m1, e1⟩ : ∃ m, m = subW n (wL wFld a.fields) := ⟨_, rfl⟩ 
  rw [← e1] at c1 s1 
  try simp at c1 
  by_cases h1 : m1 < 0 
  · have ef : subW n (wRsp a) = -1 := by omega 
    simp -implicitDefEqProofs [l_szResp_b, c1, h1, ef] 
  have hl2 : a.body.length ≤ 9223372036854775807 := hb.k_body 
  obtain ⟨m2, e2⟩ : ∃ m, m = m1 - (a.body.length : Int) := ⟨_, rfl⟩ 
  have c2 : IntKind.i64.wrap (m1 - (a.body.length : Int)) = m2 := by rw [e2]; exact wrap_id (by omega) (by omega) 
  by_cases h2 : m2 < 0 
  · have ef : subW n (wRsp a) = -1 := by omega 
    simp -implicitDefEqProofs [l_szResp_b, c1, h1, c2, h2, ef] 
  have ef : subW n (wRsp a) = m2 := by omega
  simp -implicitDefEqProofs [l_szResp_b, c1, h1, c2, h2, ef]
  all_goals (repeat' split) <;> first | rfl | omega | (simp_all; done) | (simp_all; omega) | skip
theorem c_l_toResp (a : Rsp) (hb : wRsp a ≤ 1048576) : ev LI TT 38 [.agg ((eRsp .bor) a)] = some (.agg ((eRsp .own) a), [.dead]) := by
  rw [ev_run (b := l_toResp_b) (rs := [.c 2 3 true 64]) (n := 1) rfl rfl]
  have hw : wRsp a = wL wFld a.fields + a.body.length := rfl 
  have h1 := c_l_toFieldS  a.fields (by omega) 
  try simp at h1
  simp -implicitDefEqProofs [l_toResp_b, h1, hw]
  all_goals (repeat' split) <;> first | rfl | omega | (simp_all; done) | (simp_all; omega) | skip
theorem c_l_eqResp (a b : Rsp) (hb : wRsp a ≤ 1073741824) : ev LI TT 22 [.agg ((eRsp .bor) a), .agg ((eRsp .bor) b)] = some (.bool (decide (a = b)), [.dead, .dead]) := by
  rw [ev_run (b := l_eqResp_b) (rs := [.t 4]) (n := 2) rfl rfl]
  have hw : wRsp a = wL wFld a.fields + a.body.length := rfl 
  rw [dec_Rsp] 
  by_cases g1 : a.status = b.status 
  rotate_left 
  · simp -implicitDefEqProofs [l_eqResp_b, eq_false g1] 
  have c2 := c_l_eqFieldS  a.fields b.fields (by omega) 
  cases g2 : decide (a.fields = b.fields) 
  · rw [g2] at c2 
    try simp at c2 
    simp -implicitDefEqProofs [l_eqResp_b, eq_true g1, c2] 
  rw [g2] at c2 
  try simp at c2 
  by_cases g3 : a.body = b.body 
  rotate_left 
  · simp -implicitDefEqProofs [l_eqResp_b, eq_true g1, c2, eq_false g3]
  simp -implicitDefEqProofs [l_eqResp_b, eq_true g1, c2, eq_true g3]
  all_goals (repeat' split) <;> first | rfl | omega | (simp_all; done) | (simp_all; omega) | skip
theorem c_l_szObj (a : Ob) (n : Int) (hb : bOb a) (hn : 0 ≤ n) (hm : n ≤ 9223372036854775807) : ev LI TT 31 [.agg ((eOb .bor) a), .int .i64 n] = some (.int .i64 (subW n (wOb a)), [.dead, .dead]) := by
  rw [ev_run (b := l_szObj_b) (rs := [.t 4]) (n := 2) rfl rfl]
  have hw : wOb a = a.path.length + wL wS a.names + wL wS a.values + wRsp a.resp := rfl 
  have ht := subW_or n (wOb a) 
  have hl1 : a.path.length ≤ 9223372036854775807 := hb.k_path 
  obtain ⟨m1, e1⟩ : ∃ m, m = n - (a.path.length : Int) := ⟨_, rfl⟩ 
  have c1 : IntKind.i64.wrap (n - (a.path.length : Int)) = m1 := by rw [e1]; exact wrap_id (by omega) (by omega) 
  by_cases h1 : m1 < 0 
  · have ef : subW n (wOb a) = -1 := by omega 
    simp -implicitDefEqProofs [l_szObj_b, c1, h1, ef] 
  have c2 := c_l_szStringS  a.names m1 hb.k_names (by omega) (by omega) 
  have s2 := subW_or m1 (wL wS a.names) 
  obtain ⟨m2, e2⟩ : ∃ m, m = subW m1 (wL wS a.names) := ⟨_, rfl⟩ 
  rw [← e2] at c2 s2 
  try simp at c2 
  by_cases h2 : m2 < 0 
  · have ef : subW n (wOb a) = -1 := by omega 
    simp -implicitDefEqProofs [l_szObj_b, c1, h1, c2, h2, ef] 
  have c3 := c_l_szStringS  a.values m2 hb.k_values (by omega) (by omega) 
  have s3 := subW_or m2 (wL wS a.values) 
  obtain ⟨m3, e3⟩ : ∃ m, m = subW m2 (wL wS a.values) := ⟨_, rfl⟩ 
  rw [← e3] at c3 s3 
  try simp at c3 
  by_cases h3 : m3 < 0 
  · have ef : subW n (wOb a) = -1 := by omega 
    simp -implicitDefEqProofs [l_szObj_b, c1, h1, c2, h2, c3, h3, ef] 
  have c4 := c_l_szResp  a.resp m3 hb.k_resp (by omega) (by omega) 
  have s4 := subW_or m3 (wRsp a.resp) 
  obtain ⟨m4, e4⟩ : ∃ m, m = subW m3 (wRsp a.resp) := ⟨_, rfl⟩ 
  rw [← e4] at c4 s4 
  try simp at c4 
  by_cases h4 : m4 < 0 
  · have ef : subW n (wOb a) = -1 := by omega 
    simp -implicitDefEqProofs [l_szObj_b, c1, h1, c2, h2, c3, h3, c4, h4, ef] 
  have ef : subW n (wOb a) = m4 := by omega
  simp -implicitDefEqProofs [l_szObj_b, c1, h1, c2, h2, c3, h3, c4, h4, ef]
  all_goals (repeat' split) <;> first | rfl | omega | (simp_all; done) | (simp_all; omega) | skip
theorem c_l_toObj (a : Ob) (hb : wOb a ≤ 1048576) : ev LI TT 39 [.agg ((eOb .bor) a)] = some (.agg ((eOb .own) a), [.dead]) := by
  rw [ev_run (b := l_toObj_b) (rs := [.c 2 7 true 66]) (n := 1) rfl rfl]
  have hw : wOb a = a.path.length + wL wS a.names + wL wS a.values + wRsp a.resp := rfl 
  have h1 := c_l_toStringS  a.names (by omega) 
  try simp at h1 
  have h2 := c_l_toStringS  a.values (by omega) 
  try simp at h2 
  have h3 := c_l_toResp  a.resp (by omega) 
  try simp at h3
  simp -implicitDefEqProofs [l_toObj_b, h1, h2, h3, hw]
  all_goals (repeat' split) <;> first | rfl | omega | (simp_all; done) | (simp_all; omega) | skip
theorem c_l_eqObj (a b : Ob) (hb : wOb a ≤ 1073741824) : ev LI TT 46 [.agg ((eOb .bor) a), .agg ((eOb .bor) b)] = some (.bool (decide (a = b)), [.dead, .dead]) := by
  rw [ev_run (b := l_eqObj_b) (rs := [.t 4]) (n := 2) rfl rfl]
  have hw : wOb a = a.path.length + wL wS a.names + wL wS a.values + wRsp a.resp := rfl 
  rw [dec_Ob] 
  by_cases g1 : a.path = b.path 
  rotate_left 
  · simp -implicitDefEqProofs [l_eqObj_b, eq_false g1] 
  have c2 := c_l_eqStringS  a.names b.names (by omega) 
  cases g2 : decide (a.names = b.names) 
  · rw [g2] at c2 
    try simp at c2 
    simp -implicitDefEqProofs [l_eqObj_b, eq_true g1, c2] 
  rw [g2] at c2 
  try simp at c2 
  have c3 := c_l_eqStringS  a.values b.values (by omega) 
  cases g3 : decide (a.values = b.values) 
  · rw [g3] at c3 
    try simp at c3 
    simp -implicitDefEqProofs [l_eqObj_b, eq_true g1, c2, c3] 
  rw [g3] at c3 
  try simp at c3 
  have c4 := c_l_eqResp  a.resp b.resp (by omega) 
  cases g4 : decide (a.resp = b.resp) 
  · rw [g4] at c4 
    try simp at c4 
    simp -implicitDefEqProofs [l_eqObj_b, eq_true g1, c2, c3, c4] 
  rw [g4] at c4 
  try simp at c4 
  by_cases g5 : a.t = b.t 
  rotate_left 
  · simp -implicitDefEqProofs [l_eqObj_b, eq_true g1, c2, c3, c4, eq_false g5]
  simp -implicitDefEqProofs [l_eqObj_b, eq_true g1, c2, c3, c4, eq_true g5]
  all_goals (repeat' split) <;> first | rfl | omega | (simp_all; done) | (simp_all; omega) | skip
theorem c_l_szKept (a : Kp) (n : Int) (hb : bKp a) (hn : 0 ≤ n) (hm : n ≤ 9223372036854775807) : ev LI TT 90 [.agg ((eKp .bor) a), .int .i64 n] = some (.int .i64 (subW n (wKp a)), [.dead, .dead]) := by
  rw [ev_run (b := l_szKept_b) (rs := [.t 4]) (n := 2) rfl rfl]
  have hw : wKp a = wOb a.obj := rfl 
  have ht := subW_or n (wKp a) 
  have c1 := c_l_szObj  a.obj n hb.k_obj (by omega) (by omega) 
  have s1 := subW_or n (wOb a.obj) 
  obtain ⟨m1, e1⟩ : ∃ m, m = subW n (wOb a.obj) := ⟨_, rfl⟩ 
  rw [← e1] at c1 s1 
  try simp at c1 
  by_cases h1 : m1 < 0 
  · have ef : subW n (wKp a) = -1 := by omega 
    simp -implicitDefEqProofs [l_szKept_b, c1, h1, ef] 
  have ef : subW n (wKp a) = m1 := by omega
  simp -implicitDefEqProofs [l_szKept_b, c1, h1, ef]
  all_goals (repeat' split) <;> first | rfl | omega | (simp_all; done) | (simp_all; omega) | skip
theorem c_l_toKept (a : Kp) (hb : wKp a ≤ 1048576) : ev LI TT 96 [.agg ((eKp .bor) a)] = some (.agg ((eKp .own) a), [.dead]) := by
  rw [ev_run (b := l_toKept_b) (rs := [.c 2 9 true 166]) (n := 1) rfl rfl]
  have hw : wKp a = wOb a.obj := rfl 
  have h1 := c_l_toObj  a.obj (by omega) 
  try simp at h1
  simp -implicitDefEqProofs [l_toKept_b, h1, hw]
  all_goals (repeat' split) <;> first | rfl | omega | (simp_all; done) | (simp_all; omega) | skip
theorem c_l_eqKept (a b : Kp) (hb : wKp a ≤ 1073741824) : ev LI TT 104 [.agg ((eKp .bor) a), .agg ((eKp .bor) b)] = some (.bool (decide (a = b)), [.dead, .dead]) := by
  rw [ev_run (b := l_eqKept_b) (rs := [.t 4]) (n := 2) rfl rfl]
  have hw : wKp a = wOb a.obj := rfl 
  rw [dec_Kp] 
  have c1 := c_l_eqObj  a.obj b.obj (by omega) 
  cases g1 : decide (a.obj = b.obj) 
  · rw [g1] at c1 
    try simp at c1 
    simp -implicitDefEqProofs [l_eqKept_b, c1] 
  rw [g1] at c1 
  try simp at c1 
  by_cases g2 : a.at_ = b.at_ 
  rotate_left 
  · simp -implicitDefEqProofs [l_eqKept_b, c1, eq_false g2] 
  by_cases g3 : a.seq = b.seq 
  rotate_left 
  · simp -implicitDefEqProofs [l_eqKept_b, c1, eq_true g2, eq_false g3]
  simp -implicitDefEqProofs [l_eqKept_b, c1, eq_true g2, eq_true g3]
  all_goals (repeat' split) <;> first | rfl | omega | (simp_all; done) | (simp_all; omega) | skip
theorem L_l_szKeptS (l : List Kp) (hlen : l.length ≤ 9223372036854775807) (hb : bL bKp l) (n : Int) (hn : 0 ≤ n) (hm : n ≤ 9223372036854775807) : loopW (evA (ev LI TT) (okT TT) l_szKeptS_L0) [(0, .row .bor 9 (l.map (eKp .bor))), (1, .int .i64 n), (5, .int .i64 0)] = if szL (fun b n => subW n (wKp b)) (l) n < 0 then some (.ret, [(4, .int .i64 (-1))]) else some (.exit 0, [(0, .row .bor 9 (l.map (eKp .bor))), (1, .int .i64 (szL (fun b n => subW n (wKp b)) (l) n)), (5, .int .i64 (l).length), (15, .bool false)]) := by
  refine loop_sz (f := evA (ev LI TT) (okT TT) l_szKeptS_L0) (l) (fun i n => [(0, .row .bor 9 (l.map (eKp .bor))), (1, .int .i64 n), (5, .int .i64 i)]) (fun b n => subW n (wKp b)) _ (fun n => [(0, .row .bor 9 (l.map (eKp .bor))), (1, .int .i64 n), (5, .int .i64 (l).length), (15, .bool false)]) n hn hm (fun b n => subW_le _ n) (fun i b n hi hl hn hm => ?_) (fun n => ?_)
  · have hw := wrap_succ i (by first | omega | (simp at hl; omega))
    obtain ⟨_, rfl⟩ := List.getElem?_eq_some_iff.1 hi
    have h2 := c_l_szKept  l[i] n (hb.2 _ (List.getElem_mem hl)) hn hm 
    obtain ⟨m, e1⟩ : ∃ m, m = subW n (wKp l[i]) := ⟨_, rfl⟩ 
    rw [← e1] at h2 ⊢ 
    try simp at h2
    simp -implicitDefEqProofs [l_szKeptS_L0, l_szKeptS_L0b, hl, hw, h2]
  · simp -implicitDefEqProofs [l_szKeptS_L0, l_szKeptS_L0b]
theorem c_l_szKeptS (l : List Kp) (n : Int) (hb : bL bKp l) (hn : 0 ≤ n) (hm : n ≤ 9223372036854775807) : ev LI TT 58 [.row .bor 9 (l.map (eKp .bor)), .int .i64 n] = some (.int .i64 (subW n (wL wKp l)), [.dead, .dead]) := by
  rw [ev_run (b := l_szKeptS_b) (rs := [.t 4]) (n := 2) rfl rfl]
  have hl := hb.1 
  have hw : wL wKp l = l.length + (l.map wKp).sum := rfl 
  have ht := subW_or n (wL wKp l) 
  obtain ⟨m, e1⟩ : ∃ m, m = n - (l.length : Int) := ⟨_, rfl⟩ 
  have h2 : IntKind.i64.wrap (n - (l.length : Int)) = m := by rw [e1]; exact wrap_id (by omega) (by omega) 
  by_cases h : m < 0 
  · have ef : subW n (wL wKp l) = -1 := by omega 
    simp -implicitDefEqProofs [l_szKeptS_b, h2, h, ef] 
  have h3 := L_l_szKeptS  l hb.1 hb m (by omega) (by omega) 
  rw [szL_subW _ _ _ (by omega)] at h3 
  have hs := subW_or m (l.map wKp).sum 
  obtain ⟨q, e2⟩ : ∃ q, q = subW m (l.map wKp).sum := ⟨_, rfl⟩ 
  rw [← e2] at h3 hs 
  try simp at h3 
  by_cases h4 : q < 0 
  · have ef : subW n (wL wKp l) = -1 := by omega 
    simp only [h4, if_true] at h3 
    simp -implicitDefEqProofs [l_szKeptS_b, h2, h, h3, ef] 
  have ef : subW n (wL wKp l) = q := by omega 
  simp only [h4, if_false] at h3
  simp -implicitDefEqProofs [l_szKeptS_b, h2, h, h3, ef]
  all_goals (repeat' split) <;> first | rfl | omega | (simp_all; done) | (simp_all; omega) | skip
theorem L_l_toKeptS (l : List Kp) (hlen : l.length ≤ 1048576) (hb : wL wKp l ≤ 1048576) : loopW (evA (ev LI TT) (okT TT) l_toKeptS_L0) [(0, .row .bor 9 (l.map (eKp .bor))), (3, .row .own 9 (fillN (l.map (eKp .own)) 0 [.str ⟨#[]⟩, .row .own 1 [], .row .own 1 [], .int .i64 0, .row .own 2 [], .str ⟨#[]⟩, .int .i64 0, .int .i64 0, .int .i64 0])), (4, .int .i64 0), (6, .int .i64 l.length)] = some (.exit 0, [(0, .row .bor 9 (l.map (eKp .bor))), (3, .row .own 9 (l.map (eKp .own))), (4, .int .i64 (l).length), (6, .int .i64 l.length), (11, .bool false)]) := by
  refine loop_count (f := evA (ev LI TT) (okT TT) l_toKeptS_L0) (l) (fun i => [(0, .row .bor 9 (l.map (eKp .bor))), (3, .row .own 9 (fillN (l.map (eKp .own)) i [.str ⟨#[]⟩, .row .own 1 [], .row .own 1 [], .int .i64 0, .row .own 2 [], .str ⟨#[]⟩, .int .i64 0, .int .i64 0, .int .i64 0])), (4, .int .i64 i), (6, .int .i64 l.length)]) _ (fun i b hi hl => ?_) ?_
  · have hw := wrap_succ i (by first | omega | (simp at hl; omega))
    obtain ⟨_, rfl⟩ := List.getElem?_eq_some_iff.1 hi
    have h := c_l_toKept  l[i] (Nat.le_trans (wL_mem (List.getElem_mem hl)) hb) 
    try simp at h
    simp -implicitDefEqProofs [l_toKeptS_L0, l_toKeptS_L0b, hl, hw, h]
    first | done | (rw [fillN_set _ _ _ _ (by simpa using hl) (by simp)]; done) | (simp only [modify_two]; rw [fillN_set _ _ _ _ (by simpa using hl) (by simp)])
  · simp -implicitDefEqProofs [l_toKeptS_L0, l_toKeptS_L0b]
theorem c_l_toKeptS (l : List Kp) (hb : wL wKp l ≤ 1048576) : ev LI TT 68 [.row .bor 9 (l.map (eKp .bor))] = some (.row .own 9 (l.map (eKp .own)), [.dead]) := by
  rw [ev_run (b := l_toKeptS_b) (rs := [.t 2]) (n := 1) rfl rfl]
  have hlen := wL_len (w := wKp) l 
  have h := L_l_toKeptS  l (by omega) hb 
  try simp at h
  simp -implicitDefEqProofs [l_toKeptS_b, h, (by omega : (l.length : Int) * 136 ≤ 140737488355328)]
  all_goals (repeat' split) <;> first | rfl | omega | (simp_all; done) | (simp_all; omega) | skip
theorem L_l_eqKeptS (ps : List (Kp × Kp)) (hb : ps.length ≤ 9223372036854775807) (hb1 : ∀ x ∈ ps, wKp x.1 ≤ 1073741824) : loopW (evA (ev LI TT) (okT TT) l_eqKeptS_L0) [(0, .row .bor 9 (ps.map (fun x : Kp × Kp => (eKp .bor) x.1))), (1, .row .bor 9 (ps.map (fun x : Kp × Kp => (eKp .bor) x.2))), (5, .int .i64 0)] = if allB eqB (ps) = true then some (.exit 0, [(0, .row .bor 9 (ps.map (fun x : Kp × Kp => (eKp .bor) x.1))), (1, .row .bor 9 (ps.map (fun x : Kp × Kp => (eKp .bor) x.2))), (5, .int .i64 ps.length), (14, .bool false)]) else some (.ret, [(4, .bool false)]) := by
  refine loop_all (f := evA (ev LI TT) (okT TT) l_eqKeptS_L0) (ps) (fun i => [(0, .row .bor 9 (ps.map (fun x : Kp × Kp => (eKp .bor) x.1))), (1, .row .bor 9 (ps.map (fun x : Kp × Kp => (eKp .bor) x.2))), (5, .int .i64 i)]) eqB _ _ (fun i b hi hl => ?_) ?_
  · have hw := wrap_succ i (by first | omega | (simp at hl; omega))
    obtain ⟨_, rfl⟩ := List.getElem?_eq_some_iff.1 hi
    have h := c_l_eqKept  (ps[i]).1 (ps[i]).2 (hb1 _ (List.getElem_mem hl)); try simp at h
    simp -implicitDefEqProofs [l_eqKeptS_L0, l_eqKeptS_L0b, hl, hw, eqB, h]
  · simp -implicitDefEqProofs [l_eqKeptS_L0, l_eqKeptS_L0b]
theorem c_l_eqKeptS (a b : List Kp) (hb : wL wKp a ≤ 1073741824) : ev LI TT 76 [.row .bor 9 (a.map (eKp .bor)), .row .bor 9 (b.map (eKp .bor))] = some (.bool (decide (a = b)), [.dead, .dead]) := by
  rw [ev_run (b := l_eqKeptS_b) (rs := [.t 4]) (n := 2) rfl rfl]
  simp -implicitDefEqProofs [l_eqKeptS_b]
  have hlen := wL_len (w := wKp) a 
  by_cases h : a.length = b.length 
  · obtain ⟨ps, rfl, rfl⟩ := zip_ex h 
    have h1 := L_l_eqKeptS  ps (by simp at hlen; omega) (fun x hx => Nat.le_trans (wL_mem (List.mem_map_of_mem hx)) hb) 
    have h2 := allB_eq ps 
    simp at h1 
    cases h3 : allB eqB ps <;> rw [h3] at h1 h2 <;> simp [h1, Function.comp_def, ← h2] 
  · have : ¬ a = b := fun e => h (by rw [e]) 
    simp [this] 
    omega
theorem c_l_szBan (a : Bn) (n : Int) (hb : bBn a) (hn : 0 ≤ n) (hm : n ≤ 9223372036854775807) : ev LI TT 91 [.agg (eBn a), .int .i64 n] = some (.int .i64 (subW n (wBn a)), [.dead, .dead]) := by
  rw [ev_run (b := l_szBan_b) (rs := [.t 4]) (n := 2) rfl rfl]
  have hw : wBn a = a.a.length + a.b.length := rfl 
  have ht := subW_or n (wBn a) 
  have hl1 : a.a.length ≤ 9223372036854775807 := hb.k_a 
  obtain ⟨m1, e1⟩ : ∃ m, m = n - (a.a.length : Int) := ⟨_, rfl⟩ 
  have c1 : IntKind.i64.wrap (n - (a.a.length : Int)) = m1 := by rw [e1]; exact wrap_id (by omega) (by omega) 
  by_cases h1 : m1 < 0 
  · have ef : subW n (wBn a) = -1 := by omega 
    simp -implicitDefEqProofs [l_szBan_b, c1, h1, ef] 
  have hl2 : a.b.length ≤ 9223372036854775807 := hb.k_b 
  obtain ⟨m2, e2⟩ : ∃ m, m = m1 - (a.b.length : Int) := ⟨_, rfl⟩ 
  have c2 : IntKind.i64.wrap (m1 - (a.b.length : Int)) = m2 := by rw [e2]; exact wrap_id (by omega) (by omega) 
  by_cases h2 : m2 < 0 
  · have ef : subW n (wBn a) = -1 := by omega 
    simp -implicitDefEqProofs [l_szBan_b, c1, h1, c2, h2, ef] 
  have ef : subW n (wBn a) = m2 := by omega
  simp -implicitDefEqProofs [l_szBan_b, c1, h1, c2, h2, ef]
  all_goals (repeat' split) <;> first | rfl | omega | (simp_all; done) | (simp_all; omega) | skip
theorem c_l_toBan (a : Bn) (hb : wBn a ≤ 1048576) : ev LI TT 97 [.agg (eBn a)] = some (.agg (eBn a), [.dead]) := by
  rw [ev_run (b := l_toBan_b) (rs := [.c 2 4 true 168]) (n := 1) rfl rfl]
  have hw : wBn a = a.a.length + a.b.length := rfl
  simp -implicitDefEqProofs [l_toBan_b, hw]
  all_goals (repeat' split) <;> first | rfl | omega | (simp_all; done) | (simp_all; omega) | skip
theorem c_l_eqBan (a b : Bn) (hb : wBn a ≤ 1073741824) : ev LI TT 105 [.agg (eBn a), .agg (eBn b)] = some (.bool (decide (a = b)), [.dead, .dead]) := by
  rw [ev_run (b := l_eqBan_b) (rs := [.t 4]) (n := 2) rfl rfl]
  have hw : wBn a = a.a.length + a.b.length := rfl 
  rw [dec_Bn] 
  by_cases g1 : a.kind = b.kind 
  rotate_left 
  · simp -implicitDefEqProofs [l_eqBan_b, eq_false g1] 
  by_cases g2 : a.a = b.a 
  rotate_left 
  · simp -implicitDefEqProofs [l_eqBan_b, eq_true g1, eq_false g2] 
  by_cases g3 : a.b = b.b 
  rotate_left 
  · simp -implicitDefEqProofs [l_eqBan_b, eq_true g1, eq_true g2, eq_false g3] 
  by_cases g4 : a.t = b.t 
  rotate_left 
  · simp -implicitDefEqProofs [l_eqBan_b, eq_true g1, eq_true g2, eq_true g3, eq_false g4]
  simp -implicitDefEqProofs [l_eqBan_b, eq_true g1, eq_true g2, eq_true g3, eq_true g4]
  all_goals (repeat' split) <;> first | rfl | omega | (simp_all; done) | (simp_all; omega) | skip
theorem L_l_szBanS (l : List Bn) (hlen : l.length ≤ 9223372036854775807) (hb : bL bBn l) (n : Int) (hn : 0 ≤ n) (hm : n ≤ 9223372036854775807) : loopW (evA (ev LI TT) (okT TT) l_szBanS_L0) [(0, .row .bor 4 (l.map (eBn))), (1, .int .i64 n), (5, .int .i64 0)] = if szL (fun b n => subW n (wBn b)) (l) n < 0 then some (.ret, [(4, .int .i64 (-1))]) else some (.exit 0, [(0, .row .bor 4 (l.map (eBn))), (1, .int .i64 (szL (fun b n => subW n (wBn b)) (l) n)), (5, .int .i64 (l).length), (15, .bool false)]) := by
  refine loop_sz (f := evA (ev LI TT) (okT TT) l_szBanS_L0) (l) (fun i n => [(0, .row .bor 4 (l.map (eBn))), (1, .int .i64 n), (5, .int .i64 i)]) (fun b n => subW n (wBn b)) _ (fun n => [(0, .row .bor 4 (l.map (eBn))), (1, .int .i64 n), (5, .int .i64 (l).length), (15, .bool false)]) n hn hm (fun b n => subW_le _ n) (fun i b n hi hl hn hm => ?_) (fun n => ?_)
  · have hw := wrap_succ i (by first | omega | (simp at hl; omega))
    obtain ⟨_, rfl⟩ := List.getElem?_eq_some_iff.1 hi
    have h2 := c_l_szBan  l[i] n (hb.2 _ (List.getElem_mem hl)) hn hm 
    obtain ⟨m, e1⟩ : ∃ m, m = subW n (wBn l[i]) := ⟨_, rfl⟩ 
    rw [← e1] at h2 ⊢ 
    try simp at h2
    simp -implicitDefEqProofs [l_szBanS_L0, l_szBanS_L0b, hl, hw, h2]
  · simp -implicitDefEqProofs [l_szBanS_L0, l_szBanS_L0b]
theorem c_l_szBanS (l : List Bn) (n : Int) (hb : bL bBn l) (hn : 0 ≤ n) (hm : n ≤ 9223372036854775807) : ev LI TT 59 [.row .bor 4 (l.map (eBn)), .int .i64 n] = some (.int .i64 (subW n (wL wBn l)), [.dead, .dead]) := by
  rw [ev_run (b := l_szBanS_b) (rs := [.t 4]) (n := 2) rfl rfl]
  have hl := hb.1 
  have hw : wL wBn l = l.length + (l.map wBn).sum := rfl 
  have ht := subW_or n (wL wBn l) 
  obtain ⟨m, e1⟩ : ∃ m, m = n - (l.length : Int) := ⟨_, rfl⟩ 
  have h2 : IntKind.i64.wrap (n - (l.length : Int)) = m := by rw [e1]; exact wrap_id (by omega) (by omega) 
  by_cases h : m < 0 
  · have ef : subW n (wL wBn l) = -1 := by omega 
    simp -implicitDefEqProofs [l_szBanS_b, h2, h, ef] 
  have h3 := L_l_szBanS  l hb.1 hb m (by omega) (by omega) 
  rw [szL_subW _ _ _ (by omega)] at h3 
  have hs := subW_or m (l.map wBn).sum 
  obtain ⟨q, e2⟩ : ∃ q, q = subW m (l.map wBn).sum := ⟨_, rfl⟩ 
  rw [← e2] at h3 hs 
  try simp at h3 
  by_cases h4 : q < 0 
  · have ef : subW n (wL wBn l) = -1 := by omega 
    simp only [h4, if_true] at h3 
    simp -implicitDefEqProofs [l_szBanS_b, h2, h, h3, ef] 
  have ef : subW n (wL wBn l) = q := by omega 
  simp only [h4, if_false] at h3
  simp -implicitDefEqProofs [l_szBanS_b, h2, h, h3, ef]
  all_goals (repeat' split) <;> first | rfl | omega | (simp_all; done) | (simp_all; omega) | skip
theorem L_l_toBanS (l : List Bn) (hlen : l.length ≤ 1048576) (hb : wL wBn l ≤ 1048576) : loopW (evA (ev LI TT) (okT TT) l_toBanS_L0) [(0, .row .bor 4 (l.map eBn)), (3, .row .own 4 (fillN (l.map eBn) 0 [.int .i64 0, .str ⟨#[]⟩, .str ⟨#[]⟩, .int .i64 0])), (4, .int .i64 0), (6, .int .i64 l.length)] = some (.exit 0, [(0, .row .bor 4 (l.map eBn)), (3, .row .own 4 (l.map eBn)), (4, .int .i64 (l).length), (6, .int .i64 l.length), (11, .bool false)]) := by
  refine loop_count (f := evA (ev LI TT) (okT TT) l_toBanS_L0) (l) (fun i => [(0, .row .bor 4 (l.map eBn)), (3, .row .own 4 (fillN (l.map eBn) i [.int .i64 0, .str ⟨#[]⟩, .str ⟨#[]⟩, .int .i64 0])), (4, .int .i64 i), (6, .int .i64 l.length)]) _ (fun i b hi hl => ?_) ?_
  · have hw := wrap_succ i (by first | omega | (simp at hl; omega))
    obtain ⟨_, rfl⟩ := List.getElem?_eq_some_iff.1 hi
    have h := c_l_toBan  l[i] (Nat.le_trans (wL_mem (List.getElem_mem hl)) hb) 
    try simp at h
    simp -implicitDefEqProofs [l_toBanS_L0, l_toBanS_L0b, hl, hw, h]
    first | done | (rw [fillN_set _ _ _ _ (by simpa using hl) (by simp)]; done) | (simp only [modify_two]; rw [fillN_set _ _ _ _ (by simpa using hl) (by simp)])
  · simp -implicitDefEqProofs [l_toBanS_L0, l_toBanS_L0b]
theorem c_l_toBanS (l : List Bn) (hb : wL wBn l ≤ 1048576) : ev LI TT 69 [.row .bor 4 (l.map eBn)] = some (.row .own 4 (l.map eBn), [.dead]) := by
  rw [ev_run (b := l_toBanS_b) (rs := [.t 2]) (n := 1) rfl rfl]
  have hlen := wL_len (w := wBn) l 
  have h := L_l_toBanS  l (by omega) hb 
  try simp at h
  simp -implicitDefEqProofs [l_toBanS_b, h, (by omega : (l.length : Int) * 48 ≤ 140737488355328)]
  all_goals (repeat' split) <;> first | rfl | omega | (simp_all; done) | (simp_all; omega) | skip
theorem L_l_eqBanS (ps : List (Bn × Bn)) (hb : ps.length ≤ 9223372036854775807) (hb1 : ∀ x ∈ ps, wBn x.1 ≤ 1073741824) : loopW (evA (ev LI TT) (okT TT) l_eqBanS_L0) [(0, .row .bor 4 (ps.map (fun x : Bn × Bn => eBn x.1))), (1, .row .bor 4 (ps.map (fun x : Bn × Bn => eBn x.2))), (5, .int .i64 0)] = if allB eqB (ps) = true then some (.exit 0, [(0, .row .bor 4 (ps.map (fun x : Bn × Bn => eBn x.1))), (1, .row .bor 4 (ps.map (fun x : Bn × Bn => eBn x.2))), (5, .int .i64 ps.length), (14, .bool false)]) else some (.ret, [(4, .bool false)]) := by
  refine loop_all (f := evA (ev LI TT) (okT TT) l_eqBanS_L0) (ps) (fun i => [(0, .row .bor 4 (ps.map (fun x : Bn × Bn => eBn x.1))), (1, .row .bor 4 (ps.map (fun x : Bn × Bn => eBn x.2))), (5, .int .i64 i)]) eqB _ _ (fun i b hi hl => ?_) ?_
  · have hw := wrap_succ i (by first | omega | (simp at hl; omega))
    obtain ⟨_, rfl⟩ := List.getElem?_eq_some_iff.1 hi
    have h := c_l_eqBan  (ps[i]).1 (ps[i]).2 (hb1 _ (List.getElem_mem hl)); try simp at h
    simp -implicitDefEqProofs [l_eqBanS_L0, l_eqBanS_L0b, hl, hw, eqB, h]
  · simp -implicitDefEqProofs [l_eqBanS_L0, l_eqBanS_L0b]
theorem c_l_eqBanS (a b : List Bn) (hb : wL wBn a ≤ 1073741824) : ev LI TT 77 [.row .bor 4 (a.map eBn), .row .bor 4 (b.map eBn)] = some (.bool (decide (a = b)), [.dead, .dead]) := by
  rw [ev_run (b := l_eqBanS_b) (rs := [.t 4]) (n := 2) rfl rfl]
  simp -implicitDefEqProofs [l_eqBanS_b]
  have hlen := wL_len (w := wBn) a 
  by_cases h : a.length = b.length 
  · obtain ⟨ps, rfl, rfl⟩ := zip_ex h 
    have h1 := L_l_eqBanS  ps (by simp at hlen; omega) (fun x hx => Nat.le_trans (wL_mem (List.mem_map_of_mem hx)) hb) 
    have h2 := allB_eq ps 
    simp at h1 
    cases h3 : allB eqB ps <;> rw [h3] at h1 h2 <;> simp [h1, Function.comp_def, ← h2] 
  · have : ¬ a = b := fun e => h (by rw [e]) 
    simp [this] 
    omega
theorem c_l_szShelf (a : Sh) (n : Int) (hb : bSh a) (hn : 0 ≤ n) (hm : n ≤ 9223372036854775807) : ev LI TT 25 [.agg ((eSh .bor) a), .int .i64 n] = some (.int .i64 (subW n (wSh a)), [.dead, .dead]) := by
  rw [ev_run (b := l_szShelf_b) (rs := [.t 4]) (n := 2) rfl rfl]
  have hw : wSh a = wDsk a.disk + wL wKp a.objs + wL wBn a.bans := rfl 
  have ht := subW_or n (wSh a) 
  have c1 := c_l_szDisk  a.disk n hb.k_disk (by omega) (by omega) 
  have s1 := subW_or n (wDsk a.disk) 
  obtain ⟨m1, e1⟩ : ∃ m, m = subW n (wDsk a.disk) := ⟨_, rfl⟩ 
  rw [← e1] at c1 s1 
  try simp at c1 
  by_cases h1 : m1 < 0 
  · have ef : subW n (wSh a) = -1 := by omega 
    simp -implicitDefEqProofs [l_szShelf_b, c1, h1, ef] 
  have c2 := c_l_szKeptS  a.objs m1 hb.k_objs (by omega) (by omega) 
  have s2 := subW_or m1 (wL wKp a.objs) 
  obtain ⟨m2, e2⟩ : ∃ m, m = subW m1 (wL wKp a.objs) := ⟨_, rfl⟩ 
  rw [← e2] at c2 s2 
  try simp at c2 
  by_cases h2 : m2 < 0 
  · have ef : subW n (wSh a) = -1 := by omega 
    simp -implicitDefEqProofs [l_szShelf_b, c1, h1, c2, h2, ef] 
  have c3 := c_l_szBanS  a.bans m2 hb.k_bans (by omega) (by omega) 
  have s3 := subW_or m2 (wL wBn a.bans) 
  obtain ⟨m3, e3⟩ : ∃ m, m = subW m2 (wL wBn a.bans) := ⟨_, rfl⟩ 
  rw [← e3] at c3 s3 
  try simp at c3 
  by_cases h3 : m3 < 0 
  · have ef : subW n (wSh a) = -1 := by omega 
    simp -implicitDefEqProofs [l_szShelf_b, c1, h1, c2, h2, c3, h3, ef] 
  have ef : subW n (wSh a) = m3 := by omega
  simp -implicitDefEqProofs [l_szShelf_b, c1, h1, c2, h2, c3, h3, ef]
  all_goals (repeat' split) <;> first | rfl | omega | (simp_all; done) | (simp_all; omega) | skip
theorem c_l_toShelf (a : Sh) (hb : wSh a ≤ 1048576) : ev LI TT 33 [.agg ((eSh .bor) a)] = some (.agg ((eSh .own) a), [.dead]) := by
  rw [ev_run (b := l_toShelf_b) (rs := [.c 2 6 true 53]) (n := 1) rfl rfl]
  have hw : wSh a = wDsk a.disk + wL wKp a.objs + wL wBn a.bans := rfl 
  have h1 := c_l_toDisk  a.disk (by omega) 
  try simp at h1 
  have h2 := c_l_toKeptS  a.objs (by omega) 
  try simp at h2 
  have h3 := c_l_toBanS  a.bans (by omega) 
  try simp at h3
  simp -implicitDefEqProofs [l_toShelf_b, h1, h2, h3, hw]
  all_goals (repeat' split) <;> first | rfl | omega | (simp_all; done) | (simp_all; omega) | skip
theorem c_l_eqShelf (a b : Sh) (hb : wSh a ≤ 1073741824) : ev LI TT 41 [.agg ((eSh .bor) a), .agg ((eSh .bor) b)] = some (.bool (decide (a = b)), [.dead, .dead]) := by
  rw [ev_run (b := l_eqShelf_b) (rs := [.t 4]) (n := 2) rfl rfl]
  have hw : wSh a = wDsk a.disk + wL wKp a.objs + wL wBn a.bans := rfl 
  rw [dec_Sh] 
  have c1 := c_l_eqDisk  a.disk b.disk (by omega) 
  cases g1 : decide (a.disk = b.disk) 
  · rw [g1] at c1 
    try simp at c1 
    simp -implicitDefEqProofs [l_eqShelf_b, c1] 
  rw [g1] at c1 
  try simp at c1 
  have c2 := c_l_eqKeptS  a.objs b.objs (by omega) 
  cases g2 : decide (a.objs = b.objs) 
  · rw [g2] at c2 
    try simp at c2 
    simp -implicitDefEqProofs [l_eqShelf_b, c1, c2] 
  rw [g2] at c2 
  try simp at c2 
  have c3 := c_l_eqBanS  a.bans b.bans (by omega) 
  cases g3 : decide (a.bans = b.bans) 
  · rw [g3] at c3 
    try simp at c3 
    simp -implicitDefEqProofs [l_eqShelf_b, c1, c2, c3] 
  rw [g3] at c3 
  try simp at c3 
  by_cases g4 : a.next = b.next 
  rotate_left 
  · simp -implicitDefEqProofs [l_eqShelf_b, c1, c2, c3, eq_false g4] 
  by_cases g5 : a.seq = b.seq 
  rotate_left 
  · simp -implicitDefEqProofs [l_eqShelf_b, c1, c2, c3, eq_true g4, eq_false g5]
  simp -implicitDefEqProofs [l_eqShelf_b, c1, c2, c3, eq_true g4, eq_true g5]
  all_goals (repeat' split) <;> first | rfl | omega | (simp_all; done) | (simp_all; omega) | skip
theorem c_l_szReq (a : Rq) (n : Int) (hb : bRq a) (hn : 0 ≤ n) (hm : n ≤ 9223372036854775807) : ev LI TT 29 [.agg ((eRq .bor) a), .int .i64 n] = some (.int .i64 (subW n (wRq a)), [.dead, .dead]) := by
  rw [ev_run (b := l_szReq_b) (rs := [.t 4]) (n := 2) rfl rfl]
  have hw : wRq a = a.path.length + wL wFld a.fields + a.body.length := rfl 
  have ht := subW_or n (wRq a) 
  have hl1 : a.path.length ≤ 9223372036854775807 := hb.k_path 
  obtain ⟨m1, e1⟩ : ∃ m, m = n - (a.path.length : Int) := ⟨_, rfl⟩ 
  have c1 : IntKind.i64.wrap (n - (a.path.length : Int)) = m1 := by rw [e1]; exact wrap_id (by omega) (by omega) 
  by_cases h1 : m1 < 0 
  · have ef : subW n (wRq a) = -1 := by omega 
    simp -implicitDefEqProofs [l_szReq_b, c1, h1, ef] 
  have c2 := c_l_szFieldS  a.fields m1 hb.k_fields (by omega) (by omega) 
  have s2 := subW_or m1 (wL wFld a.fields) 
  obtain ⟨m2, e2⟩ : ∃ m, m = subW m1 (wL wFld a.fields) := ⟨_, rfl⟩ 
  rw [← e2] at c2 s2 
  try simp at c2 
  by_cases h2 : m2 < 0 
  · have ef : subW n (wRq a) = -1 := by omega 
    simp -implicitDefEqProofs [l_szReq_b, c1, h1, c2, h2, ef] 
  have hl3 : a.body.length ≤ 9223372036854775807 := hb.k_body 
  obtain ⟨m3, e3⟩ : ∃ m, m = m2 - (a.body.length : Int) := ⟨_, rfl⟩ 
  have c3 : IntKind.i64.wrap (m2 - (a.body.length : Int)) = m3 := by rw [e3]; exact wrap_id (by omega) (by omega) 
  by_cases h3 : m3 < 0 
  · have ef : subW n (wRq a) = -1 := by omega 
    simp -implicitDefEqProofs [l_szReq_b, c1, h1, c2, h2, c3, h3, ef] 
  have ef : subW n (wRq a) = m3 := by omega
  simp -implicitDefEqProofs [l_szReq_b, c1, h1, c2, h2, c3, h3, ef]
  all_goals (repeat' split) <;> first | rfl | omega | (simp_all; done) | (simp_all; omega) | skip
theorem c_l_toReq (a : Rq) (hb : wRq a ≤ 1048576) : ev LI TT 37 [.agg ((eRq .bor) a)] = some (.agg ((eRq .own) a), [.dead]) := by
  rw [ev_run (b := l_toReq_b) (rs := [.c 2 4 true 62]) (n := 1) rfl rfl]
  have hw : wRq a = a.path.length + wL wFld a.fields + a.body.length := rfl 
  have h1 := c_l_toFieldS  a.fields (by omega) 
  try simp at h1
  simp -implicitDefEqProofs [l_toReq_b, h1, hw]
  all_goals (repeat' split) <;> first | rfl | omega | (simp_all; done) | (simp_all; omega) | skip
theorem c_l_eqReq (a b : Rq) (hb : wRq a ≤ 1073741824) : ev LI TT 45 [.agg ((eRq .bor) a), .agg ((eRq .bor) b)] = some (.bool (decide (a = b)), [.dead, .dead]) := by
  rw [ev_run (b := l_eqReq_b) (rs := [.t 4]) (n := 2) rfl rfl]
  have hw : wRq a = a.path.length + wL wFld a.fields + a.body.length := rfl 
  rw [dec_Rq] 
  by_cases g1 : a.method = b.method 
  rotate_left 
  · simp -implicitDefEqProofs [l_eqReq_b, eq_false g1] 
  by_cases g2 : a.path = b.path 
  rotate_left 
  · simp -implicitDefEqProofs [l_eqReq_b, eq_true g1, eq_false g2] 
  have c3 := c_l_eqFieldS  a.fields b.fields (by omega) 
  cases g3 : decide (a.fields = b.fields) 
  · rw [g3] at c3 
    try simp at c3 
    simp -implicitDefEqProofs [l_eqReq_b, eq_true g1, eq_true g2, c3] 
  rw [g3] at c3 
  try simp at c3 
  by_cases g4 : a.body = b.body 
  rotate_left 
  · simp -implicitDefEqProofs [l_eqReq_b, eq_true g1, eq_true g2, c3, eq_false g4]
  simp -implicitDefEqProofs [l_eqReq_b, eq_true g1, eq_true g2, c3, eq_true g4]
  all_goals (repeat' split) <;> first | rfl | omega | (simp_all; done) | (simp_all; omega) | skip
theorem c_l_szIntS (l : List Int) (n : Int) (hb : l.length ≤ 9223372036854775807) (hn : 0 ≤ n) (hm : n ≤ 9223372036854775807) : ev LI TT 92 [.row .bor 1 (l.map eI), .int .i64 n] = some (.int .i64 (subW n (wL wO l)), [.dead, .dead]) := by
  rw [ev_run (b := l_szIntS_b) (rs := [.t 4]) (n := 2) rfl rfl]
  have hw : wL wO l = l.length := by simp [wL, wO]; clear hb; induction l <;> simp_all [wO] 
  have ht := subW_or n (wL wO l) 
  obtain ⟨m, e1⟩ : ∃ m, m = n - (l.length : Int) := ⟨_, rfl⟩ 
  have h2 : IntKind.i64.wrap (n - (l.length : Int)) = m := by rw [e1]; exact wrap_id (by omega) (by omega) 
  by_cases h : m < 0 
  · have ef : subW n (wL wO l) = -1 := by omega 
    simp -implicitDefEqProofs [l_szIntS_b, h2, h, ef] 
  have ef : subW n (wL wO l) = m := by omega
  simp -implicitDefEqProofs [l_szIntS_b, h2, h, ef]
  all_goals (repeat' split) <;> first | rfl | omega | (simp_all; done) | (simp_all; omega) | skip
theorem L_l_toIntS (l : List Int) (hlen : l.length ≤ 1048576) (hb : wL wO l ≤ 1048576) : loopW (evA (ev LI TT) (okT TT) l_toIntS_L0) [(0, .row .bor 1 (l.map eI)), (3, .row .own 1 (fillN (l.map eI) 0 [.int .i64 0])), (4, .int .i64 0), (6, .int .i64 l.length)] = some (.exit 0, [(0, .row .bor 1 (l.map eI)), (3, .row .own 1 (l.map eI)), (4, .int .i64 (l).length), (6, .int .i64 l.length), (11, .bool false)]) := by
  refine loop_count (f := evA (ev LI TT) (okT TT) l_toIntS_L0) (l) (fun i => [(0, .row .bor 1 (l.map eI)), (3, .row .own 1 (fillN (l.map eI) i [.int .i64 0])), (4, .int .i64 i), (6, .int .i64 l.length)]) _ (fun i b hi hl => ?_) ?_
  · have hw := wrap_succ i (by first | omega | (simp at hl; omega))
    obtain ⟨_, rfl⟩ := List.getElem?_eq_some_iff.1 hi
    skip
    simp -implicitDefEqProofs [l_toIntS_L0, l_toIntS_L0b, hl, hw]
    first | done | (rw [fillN_set _ _ _ _ (by simpa using hl) (by simp)]; done) | (simp only [modify_two]; rw [fillN_set _ _ _ _ (by simpa using hl) (by simp)])
  · simp -implicitDefEqProofs [l_toIntS_L0, l_toIntS_L0b]
theorem c_l_toIntS (l : List Int) (hb : wL wO l ≤ 1048576) : ev LI TT 98 [.row .bor 1 (l.map eI)] = some (.row .own 1 (l.map eI), [.dead]) := by
  rw [ev_run (b := l_toIntS_b) (rs := [.t 2]) (n := 1) rfl rfl]
  have hlen := wL_len (w := wO) l 
  have h := L_l_toIntS  l (by omega) hb 
  try simp at h
  simp -implicitDefEqProofs [l_toIntS_b, h, (by omega : (l.length : Int) * 8 ≤ 140737488355328)]
  all_goals (repeat' split) <;> first | rfl | omega | (simp_all; done) | (simp_all; omega) | skip
theorem L_l_eqIntS (ps : List (Int × Int)) (hb : ps.length ≤ 9223372036854775807) (hb1 : ∀ x ∈ ps, wO x.1 ≤ 1073741824) : loopW (evA (ev LI TT) (okT TT) l_eqIntS_L0) [(0, .row .bor 1 (ps.map (fun x : Int × Int => eI x.1))), (1, .row .bor 1 (ps.map (fun x : Int × Int => eI x.2))), (5, .int .i64 0)] = if allB eqB (ps) = true then some (.exit 0, [(0, .row .bor 1 (ps.map (fun x : Int × Int => eI x.1))), (1, .row .bor 1 (ps.map (fun x : Int × Int => eI x.2))), (5, .int .i64 ps.length), (14, .bool false)]) else some (.ret, [(4, .bool false)]) := by
  refine loop_all (f := evA (ev LI TT) (okT TT) l_eqIntS_L0) (ps) (fun i => [(0, .row .bor 1 (ps.map (fun x : Int × Int => eI x.1))), (1, .row .bor 1 (ps.map (fun x : Int × Int => eI x.2))), (5, .int .i64 i)]) eqB _ _ (fun i b hi hl => ?_) ?_
  · have hw := wrap_succ i (by first | omega | (simp at hl; omega))
    obtain ⟨_, rfl⟩ := List.getElem?_eq_some_iff.1 hi
    simp -implicitDefEqProofs [l_eqIntS_L0, l_eqIntS_L0b, hl, hw, eqB]
    first | done | (split <;> simp_all)
  · simp -implicitDefEqProofs [l_eqIntS_L0, l_eqIntS_L0b]
theorem c_l_eqIntS (a b : List Int) (hb : wL wO a ≤ 1073741824) : ev LI TT 16 [.row .bor 1 (a.map eI), .row .bor 1 (b.map eI)] = some (.bool (decide (a = b)), [.dead, .dead]) := by
  rw [ev_run (b := l_eqIntS_b) (rs := [.t 4]) (n := 2) rfl rfl]
  simp -implicitDefEqProofs [l_eqIntS_b]
  have hlen := wL_len (w := wO) a 
  by_cases h : a.length = b.length 
  · obtain ⟨ps, rfl, rfl⟩ := zip_ex h 
    have h1 := L_l_eqIntS  ps (by simp at hlen; omega) (fun x hx => Nat.le_trans (wL_mem (List.mem_map_of_mem hx)) hb) 
    have h2 := allB_eq ps 
    simp at h1 
    cases h3 : allB eqB ps <;> rw [h3] at h1 h2 <;> simp [h1, Function.comp_def, ← h2] 
  · have : ¬ a = b := fun e => h (by rw [e]) 
    simp [this] 
    omega
theorem c_l_szFlight (a : Fl) (n : Int) (hb : bFl a) (hn : 0 ≤ n) (hm : n ≤ 9223372036854775807) : ev LI TT 60 [.agg ((eFl .bor) a), .int .i64 n] = some (.int .i64 (subW n (wFl a)), [.dead, .dead]) := by
  rw [ev_run (b := l_szFlight_b) (rs := [.t 4]) (n := 2) rfl rfl]
  have hw : wFl a = wRq a.q + wL wO a.who + wOb a.old := rfl 
  have ht := subW_or n (wFl a) 
  have c1 := c_l_szReq  a.q n hb.k_q (by omega) (by omega) 
  have s1 := subW_or n (wRq a.q) 
  obtain ⟨m1, e1⟩ : ∃ m, m = subW n (wRq a.q) := ⟨_, rfl⟩ 
  rw [← e1] at c1 s1 
  try simp at c1 
  by_cases h1 : m1 < 0 
  · have ef : subW n (wFl a) = -1 := by omega 
    simp -implicitDefEqProofs [l_szFlight_b, c1, h1, ef] 
  have c2 := c_l_szIntS  a.who m1 hb.k_who.1 (by omega) (by omega) 
  have s2 := subW_or m1 (wL wO a.who) 
  obtain ⟨m2, e2⟩ : ∃ m, m = subW m1 (wL wO a.who) := ⟨_, rfl⟩ 
  rw [← e2] at c2 s2 
  try simp at c2 
  by_cases h2 : m2 < 0 
  · have ef : subW n (wFl a) = -1 := by omega 
    simp -implicitDefEqProofs [l_szFlight_b, c1, h1, c2, h2, ef] 
  have c3 := c_l_szObj  a.old m2 hb.k_old (by omega) (by omega) 
  have s3 := subW_or m2 (wOb a.old) 
  obtain ⟨m3, e3⟩ : ∃ m, m = subW m2 (wOb a.old) := ⟨_, rfl⟩ 
  rw [← e3] at c3 s3 
  try simp at c3 
  by_cases h3 : m3 < 0 
  · have ef : subW n (wFl a) = -1 := by omega 
    simp -implicitDefEqProofs [l_szFlight_b, c1, h1, c2, h2, c3, h3, ef] 
  have ef : subW n (wFl a) = m3 := by omega
  simp -implicitDefEqProofs [l_szFlight_b, c1, h1, c2, h2, c3, h3, ef]
  all_goals (repeat' split) <;> first | rfl | omega | (simp_all; done) | (simp_all; omega) | skip
theorem c_l_toFlight (a : Fl) (hb : wFl a ≤ 1048576) : ev LI TT 70 [.agg ((eFl .bor) a)] = some (.agg ((eFl .own) a), [.dead]) := by
  rw [ev_run (b := l_toFlight_b) (rs := [.c 2 13 true 109]) (n := 1) rfl rfl]
  have hw : wFl a = wRq a.q + wL wO a.who + wOb a.old := rfl 
  have h1 := c_l_toReq  a.q (by omega) 
  try simp at h1 
  have h2 := c_l_toIntS  a.who (by omega) 
  try simp at h2 
  have h3 := c_l_toObj  a.old (by omega) 
  try simp at h3
  simp -implicitDefEqProofs [l_toFlight_b, h1, h2, h3, hw]
  all_goals (repeat' split) <;> first | rfl | omega | (simp_all; done) | (simp_all; omega) | skip
theorem c_l_eqFlight (a b : Fl) (hb : wFl a ≤ 1073741824) : ev LI TT 78 [.agg ((eFl .bor) a), .agg ((eFl .bor) b)] = some (.bool (decide (a = b)), [.dead, .dead]) := by
  rw [ev_run (b := l_eqFlight_b) (rs := [.t 4]) (n := 2) rfl rfl]
  have hw : wFl a = wRq a.q + wL wO a.who + wOb a.old := rfl 
  rw [dec_Fl] 
  have c1 := c_l_eqReq  a.q b.q (by omega) 
  cases g1 : decide (a.q = b.q) 
  · rw [g1] at c1 
    try simp at c1 
    simp -implicitDefEqProofs [l_eqFlight_b, c1] 
  rw [g1] at c1 
  try simp at c1 
  have c2 := c_l_eqIntS  a.who b.who (by omega) 
  cases g2 : decide (a.who = b.who) 
  · rw [g2] at c2 
    try simp at c2 
    simp -implicitDefEqProofs [l_eqFlight_b, c1, c2] 
  rw [g2] at c2 
  try simp at c2 
  have c3 := c_l_eqObj  a.old b.old (by omega) 
  cases g3 : decide (a.old = b.old) 
  · rw [g3] at c3 
    try simp at c3 
    simp -implicitDefEqProofs [l_eqFlight_b, c1, c2, c3] 
  rw [g3] at c3 
  try simp at c3 
  by_cases g4 : a.hasOld = b.hasOld 
  rotate_left 
  · simp -implicitDefEqProofs [l_eqFlight_b, c1, c2, c3, eq_false g4]
  simp -implicitDefEqProofs [l_eqFlight_b, c1, c2, c3, eq_true g4]
  all_goals (repeat' split) <;> first | rfl | omega | (simp_all; done) | (simp_all; omega) | skip
theorem L_l_szFlightS (l : List Fl) (hlen : l.length ≤ 9223372036854775807) (hb : bL bFl l) (n : Int) (hn : 0 ≤ n) (hm : n ≤ 9223372036854775807) : loopW (evA (ev LI TT) (okT TT) l_szFlightS_L0) [(0, .row .bor 13 (l.map (eFl .bor))), (1, .int .i64 n), (5, .int .i64 0)] = if szL (fun b n => subW n (wFl b)) (l) n < 0 then some (.ret, [(4, .int .i64 (-1))]) else some (.exit 0, [(0, .row .bor 13 (l.map (eFl .bor))), (1, .int .i64 (szL (fun b n => subW n (wFl b)) (l) n)), (5, .int .i64 (l).length), (15, .bool false)]) := by
  refine loop_sz (f := evA (ev LI TT) (okT TT) l_szFlightS_L0) (l) (fun i n => [(0, .row .bor 13 (l.map (eFl .bor))), (1, .int .i64 n), (5, .int .i64 i)]) (fun b n => subW n (wFl b)) _ (fun n => [(0, .row .bor 13 (l.map (eFl .bor))), (1, .int .i64 n), (5, .int .i64 (l).length), (15, .bool false)]) n hn hm (fun b n => subW_le _ n) (fun i b n hi hl hn hm => ?_) (fun n => ?_)
  · have hw := wrap_succ i (by first | omega | (simp at hl; omega))
    obtain ⟨_, rfl⟩ := List.getElem?_eq_some_iff.1 hi
    have h2 := c_l_szFlight  l[i] n (hb.2 _ (List.getElem_mem hl)) hn hm 
    obtain ⟨m, e1⟩ : ∃ m, m = subW n (wFl l[i]) := ⟨_, rfl⟩ 
    rw [← e1] at h2 ⊢ 
    try simp at h2
    simp -implicitDefEqProofs [l_szFlightS_L0, l_szFlightS_L0b, hl, hw, h2]
  · simp -implicitDefEqProofs [l_szFlightS_L0, l_szFlightS_L0b]
theorem c_l_szFlightS (l : List Fl) (n : Int) (hb : bL bFl l) (hn : 0 ≤ n) (hm : n ≤ 9223372036854775807) : ev LI TT 26 [.row .bor 13 (l.map (eFl .bor)), .int .i64 n] = some (.int .i64 (subW n (wL wFl l)), [.dead, .dead]) := by
  rw [ev_run (b := l_szFlightS_b) (rs := [.t 4]) (n := 2) rfl rfl]
  have hl := hb.1 
  have hw : wL wFl l = l.length + (l.map wFl).sum := rfl 
  have ht := subW_or n (wL wFl l) 
  obtain ⟨m, e1⟩ : ∃ m, m = n - (l.length : Int) := ⟨_, rfl⟩ 
  have h2 : IntKind.i64.wrap (n - (l.length : Int)) = m := by rw [e1]; exact wrap_id (by omega) (by omega) 
  by_cases h : m < 0 
  · have ef : subW n (wL wFl l) = -1 := by omega 
    simp -implicitDefEqProofs [l_szFlightS_b, h2, h, ef] 
  have h3 := L_l_szFlightS  l hb.1 hb m (by omega) (by omega) 
  rw [szL_subW _ _ _ (by omega)] at h3 
  have hs := subW_or m (l.map wFl).sum 
  obtain ⟨q, e2⟩ : ∃ q, q = subW m (l.map wFl).sum := ⟨_, rfl⟩ 
  rw [← e2] at h3 hs 
  try simp at h3 
  by_cases h4 : q < 0 
  · have ef : subW n (wL wFl l) = -1 := by omega 
    simp only [h4, if_true] at h3 
    simp -implicitDefEqProofs [l_szFlightS_b, h2, h, h3, ef] 
  have ef : subW n (wL wFl l) = q := by omega 
  simp only [h4, if_false] at h3
  simp -implicitDefEqProofs [l_szFlightS_b, h2, h, h3, ef]
  all_goals (repeat' split) <;> first | rfl | omega | (simp_all; done) | (simp_all; omega) | skip
theorem L_l_toFlightS (l : List Fl) (hlen : l.length ≤ 1048576) (hb : wL wFl l ≤ 1048576) : loopW (evA (ev LI TT) (okT TT) l_toFlightS_L0) [(0, .row .bor 13 (l.map (eFl .bor))), (3, .row .own 13 (fillN (l.map (eFl .own)) 0 [.int .i64 0, .str ⟨#[]⟩, .row .own 2 [], .str ⟨#[]⟩, .row .own 1 [], .str ⟨#[]⟩, .row .own 1 [], .row .own 1 [], .int .i64 0, .row .own 2 [], .str ⟨#[]⟩, .int .i64 0, .bool false])), (4, .int .i64 0), (6, .int .i64 l.length)] = some (.exit 0, [(0, .row .bor 13 (l.map (eFl .bor))), (3, .row .own 13 (l.map (eFl .own))), (4, .int .i64 (l).length), (6, .int .i64 l.length), (11, .bool false)]) := by
  refine loop_count (f := evA (ev LI TT) (okT TT) l_toFlightS_L0) (l) (fun i => [(0, .row .bor 13 (l.map (eFl .bor))), (3, .row .own 13 (fillN (l.map (eFl .own)) i [.int .i64 0, .str ⟨#[]⟩, .row .own 2 [], .str ⟨#[]⟩, .row .own 1 [], .str ⟨#[]⟩, .row .own 1 [], .row .own 1 [], .int .i64 0, .row .own 2 [], .str ⟨#[]⟩, .int .i64 0, .bool false])), (4, .int .i64 i), (6, .int .i64 l.length)]) _ (fun i b hi hl => ?_) ?_
  · have hw := wrap_succ i (by first | omega | (simp at hl; omega))
    obtain ⟨_, rfl⟩ := List.getElem?_eq_some_iff.1 hi
    have h := c_l_toFlight  l[i] (Nat.le_trans (wL_mem (List.getElem_mem hl)) hb) 
    try simp at h
    simp -implicitDefEqProofs [l_toFlightS_L0, l_toFlightS_L0b, hl, hw, h]
    first | done | (rw [fillN_set _ _ _ _ (by simpa using hl) (by simp)]; done) | (simp only [modify_two]; rw [fillN_set _ _ _ _ (by simpa using hl) (by simp)])
  · simp -implicitDefEqProofs [l_toFlightS_L0, l_toFlightS_L0b]
theorem c_l_toFlightS (l : List Fl) (hb : wL wFl l ≤ 1048576) : ev LI TT 34 [.row .bor 13 (l.map (eFl .bor))] = some (.row .own 13 (l.map (eFl .own)), [.dead]) := by
  rw [ev_run (b := l_toFlightS_b) (rs := [.t 2]) (n := 1) rfl rfl]
  have hlen := wL_len (w := wFl) l 
  have h := L_l_toFlightS  l (by omega) hb 
  try simp at h
  simp -implicitDefEqProofs [l_toFlightS_b, h, (by omega : (l.length : Int) * 216 ≤ 140737488355328)]
  all_goals (repeat' split) <;> first | rfl | omega | (simp_all; done) | (simp_all; omega) | skip
theorem L_l_eqFlightS (ps : List (Fl × Fl)) (hb : ps.length ≤ 9223372036854775807) (hb1 : ∀ x ∈ ps, wFl x.1 ≤ 1073741824) : loopW (evA (ev LI TT) (okT TT) l_eqFlightS_L0) [(0, .row .bor 13 (ps.map (fun x : Fl × Fl => (eFl .bor) x.1))), (1, .row .bor 13 (ps.map (fun x : Fl × Fl => (eFl .bor) x.2))), (5, .int .i64 0)] = if allB eqB (ps) = true then some (.exit 0, [(0, .row .bor 13 (ps.map (fun x : Fl × Fl => (eFl .bor) x.1))), (1, .row .bor 13 (ps.map (fun x : Fl × Fl => (eFl .bor) x.2))), (5, .int .i64 ps.length), (14, .bool false)]) else some (.ret, [(4, .bool false)]) := by
  refine loop_all (f := evA (ev LI TT) (okT TT) l_eqFlightS_L0) (ps) (fun i => [(0, .row .bor 13 (ps.map (fun x : Fl × Fl => (eFl .bor) x.1))), (1, .row .bor 13 (ps.map (fun x : Fl × Fl => (eFl .bor) x.2))), (5, .int .i64 i)]) eqB _ _ (fun i b hi hl => ?_) ?_
  · have hw := wrap_succ i (by first | omega | (simp at hl; omega))
    obtain ⟨_, rfl⟩ := List.getElem?_eq_some_iff.1 hi
    have h := c_l_eqFlight  (ps[i]).1 (ps[i]).2 (hb1 _ (List.getElem_mem hl)); try simp at h
    simp -implicitDefEqProofs [l_eqFlightS_L0, l_eqFlightS_L0b, hl, hw, eqB, h]
  · simp -implicitDefEqProofs [l_eqFlightS_L0, l_eqFlightS_L0b]
theorem c_l_eqFlightS (a b : List Fl) (hb : wL wFl a ≤ 1073741824) : ev LI TT 42 [.row .bor 13 (a.map (eFl .bor)), .row .bor 13 (b.map (eFl .bor))] = some (.bool (decide (a = b)), [.dead, .dead]) := by
  rw [ev_run (b := l_eqFlightS_b) (rs := [.t 4]) (n := 2) rfl rfl]
  simp -implicitDefEqProofs [l_eqFlightS_b]
  have hlen := wL_len (w := wFl) a 
  by_cases h : a.length = b.length 
  · obtain ⟨ps, rfl, rfl⟩ := zip_ex h 
    have h1 := L_l_eqFlightS  ps (by simp at hlen; omega) (fun x hx => Nat.le_trans (wL_mem (List.mem_map_of_mem hx)) hb) 
    have h2 := allB_eq ps 
    simp at h1 
    cases h3 : allB eqB ps <;> rw [h3] at h1 h2 <;> simp [h1, Function.comp_def, ← h2] 
  · have : ¬ a = b := fun e => h (by rw [e]) 
    simp [this] 
    omega
theorem c_l_szSeen (a : Se) (n : Int) (hb : bSe a) (hn : 0 ≤ n) (hm : n ≤ 9223372036854775807) : ev LI TT 61 [.agg ((eSe .bor) a), .int .i64 n] = some (.int .i64 (subW n (wSe a)), [.dead, .dead]) := by
  rw [ev_run (b := l_szSeen_b) (rs := [.t 4]) (n := 2) rfl rfl]
  have hw : wSe a = wRq a.q + wRsp a.resp := rfl 
  have ht := subW_or n (wSe a) 
  have c1 := c_l_szReq  a.q n hb.k_q (by omega) (by omega) 
  have s1 := subW_or n (wRq a.q) 
  obtain ⟨m1, e1⟩ : ∃ m, m = subW n (wRq a.q) := ⟨_, rfl⟩ 
  rw [← e1] at c1 s1 
  try simp at c1 
  by_cases h1 : m1 < 0 
  · have ef : subW n (wSe a) = -1 := by omega 
    simp -implicitDefEqProofs [l_szSeen_b, c1, h1, ef] 
  have c2 := c_l_szResp  a.resp m1 hb.k_resp (by omega) (by omega) 
  have s2 := subW_or m1 (wRsp a.resp) 
  obtain ⟨m2, e2⟩ : ∃ m, m = subW m1 (wRsp a.resp) := ⟨_, rfl⟩ 
  rw [← e2] at c2 s2 
  try simp at c2 
  by_cases h2 : m2 < 0 
  · have ef : subW n (wSe a) = -1 := by omega 
    simp -implicitDefEqProofs [l_szSeen_b, c1, h1, c2, h2, ef] 
  have ef : subW n (wSe a) = m2 := by omega
  simp -implicitDefEqProofs [l_szSeen_b, c1, h1, c2, h2, ef]
  all_goals (repeat' split) <;> first | rfl | omega | (simp_all; done) | (simp_all; omega) | skip
theorem c_l_toSeen (a : Se) (hb : wSe a ≤ 1048576) : ev LI TT 71 [.agg ((eSe .bor) a)] = some (.agg ((eSe .own) a), [.dead]) := by
  rw [ev_run (b := l_toSeen_b) (rs := [.c 2 8 true 92]) (n := 1) rfl rfl]
  have hw : wSe a = wRq a.q + wRsp a.resp := rfl 
  have h1 := c_l_toReq  a.q (by omega) 
  try simp at h1 
  have h2 := c_l_toResp  a.resp (by omega) 
  try simp at h2
  simp -implicitDefEqProofs [l_toSeen_b, h1, h2, hw]
  all_goals (repeat' split) <;> first | rfl | omega | (simp_all; done) | (simp_all; omega) | skip
theorem c_l_eqSeen (a b : Se) (hb : wSe a ≤ 1073741824) : ev LI TT 79 [.agg ((eSe .bor) a), .agg ((eSe .bor) b)] = some (.bool (decide (a = b)), [.dead, .dead]) := by
  rw [ev_run (b := l_eqSeen_b) (rs := [.t 4]) (n := 2) rfl rfl]
  have hw : wSe a = wRq a.q + wRsp a.resp := rfl 
  rw [dec_Se] 
  have c1 := c_l_eqReq  a.q b.q (by omega) 
  cases g1 : decide (a.q = b.q) 
  · rw [g1] at c1 
    try simp at c1 
    simp -implicitDefEqProofs [l_eqSeen_b, c1] 
  rw [g1] at c1 
  try simp at c1 
  have c2 := c_l_eqResp  a.resp b.resp (by omega) 
  cases g2 : decide (a.resp = b.resp) 
  · rw [g2] at c2 
    try simp at c2 
    simp -implicitDefEqProofs [l_eqSeen_b, c1, c2] 
  rw [g2] at c2 
  try simp at c2 
  by_cases g3 : a.t = b.t 
  rotate_left 
  · simp -implicitDefEqProofs [l_eqSeen_b, c1, c2, eq_false g3]
  simp -implicitDefEqProofs [l_eqSeen_b, c1, c2, eq_true g3]
  all_goals (repeat' split) <;> first | rfl | omega | (simp_all; done) | (simp_all; omega) | skip
theorem L_l_szSeenS (l : List Se) (hlen : l.length ≤ 9223372036854775807) (hb : bL bSe l) (n : Int) (hn : 0 ≤ n) (hm : n ≤ 9223372036854775807) : loopW (evA (ev LI TT) (okT TT) l_szSeenS_L0) [(0, .row .bor 8 (l.map (eSe .bor))), (1, .int .i64 n), (5, .int .i64 0)] = if szL (fun b n => subW n (wSe b)) (l) n < 0 then some (.ret, [(4, .int .i64 (-1))]) else some (.exit 0, [(0, .row .bor 8 (l.map (eSe .bor))), (1, .int .i64 (szL (fun b n => subW n (wSe b)) (l) n)), (5, .int .i64 (l).length), (15, .bool false)]) := by
  refine loop_sz (f := evA (ev LI TT) (okT TT) l_szSeenS_L0) (l) (fun i n => [(0, .row .bor 8 (l.map (eSe .bor))), (1, .int .i64 n), (5, .int .i64 i)]) (fun b n => subW n (wSe b)) _ (fun n => [(0, .row .bor 8 (l.map (eSe .bor))), (1, .int .i64 n), (5, .int .i64 (l).length), (15, .bool false)]) n hn hm (fun b n => subW_le _ n) (fun i b n hi hl hn hm => ?_) (fun n => ?_)
  · have hw := wrap_succ i (by first | omega | (simp at hl; omega))
    obtain ⟨_, rfl⟩ := List.getElem?_eq_some_iff.1 hi
    have h2 := c_l_szSeen  l[i] n (hb.2 _ (List.getElem_mem hl)) hn hm 
    obtain ⟨m, e1⟩ : ∃ m, m = subW n (wSe l[i]) := ⟨_, rfl⟩ 
    rw [← e1] at h2 ⊢ 
    try simp at h2
    simp -implicitDefEqProofs [l_szSeenS_L0, l_szSeenS_L0b, hl, hw, h2]
  · simp -implicitDefEqProofs [l_szSeenS_L0, l_szSeenS_L0b]
theorem c_l_szSeenS (l : List Se) (n : Int) (hb : bL bSe l) (hn : 0 ≤ n) (hm : n ≤ 9223372036854775807) : ev LI TT 27 [.row .bor 8 (l.map (eSe .bor)), .int .i64 n] = some (.int .i64 (subW n (wL wSe l)), [.dead, .dead]) := by
  rw [ev_run (b := l_szSeenS_b) (rs := [.t 4]) (n := 2) rfl rfl]
  have hl := hb.1 
  have hw : wL wSe l = l.length + (l.map wSe).sum := rfl 
  have ht := subW_or n (wL wSe l) 
  obtain ⟨m, e1⟩ : ∃ m, m = n - (l.length : Int) := ⟨_, rfl⟩ 
  have h2 : IntKind.i64.wrap (n - (l.length : Int)) = m := by rw [e1]; exact wrap_id (by omega) (by omega) 
  by_cases h : m < 0 
  · have ef : subW n (wL wSe l) = -1 := by omega 
    simp -implicitDefEqProofs [l_szSeenS_b, h2, h, ef] 
  have h3 := L_l_szSeenS  l hb.1 hb m (by omega) (by omega) 
  rw [szL_subW _ _ _ (by omega)] at h3 
  have hs := subW_or m (l.map wSe).sum 
  obtain ⟨q, e2⟩ : ∃ q, q = subW m (l.map wSe).sum := ⟨_, rfl⟩ 
  rw [← e2] at h3 hs 
  try simp at h3 
  by_cases h4 : q < 0 
  · have ef : subW n (wL wSe l) = -1 := by omega 
    simp only [h4, if_true] at h3 
    simp -implicitDefEqProofs [l_szSeenS_b, h2, h, h3, ef] 
  have ef : subW n (wL wSe l) = q := by omega 
  simp only [h4, if_false] at h3
  simp -implicitDefEqProofs [l_szSeenS_b, h2, h, h3, ef]
  all_goals (repeat' split) <;> first | rfl | omega | (simp_all; done) | (simp_all; omega) | skip
theorem L_l_toSeenS (l : List Se) (hlen : l.length ≤ 1048576) (hb : wL wSe l ≤ 1048576) : loopW (evA (ev LI TT) (okT TT) l_toSeenS_L0) [(0, .row .bor 8 (l.map (eSe .bor))), (3, .row .own 8 (fillN (l.map (eSe .own)) 0 [.int .i64 0, .str ⟨#[]⟩, .row .own 2 [], .str ⟨#[]⟩, .int .i64 0, .row .own 2 [], .str ⟨#[]⟩, .int .i64 0])), (4, .int .i64 0), (6, .int .i64 l.length)] = some (.exit 0, [(0, .row .bor 8 (l.map (eSe .bor))), (3, .row .own 8 (l.map (eSe .own))), (4, .int .i64 (l).length), (6, .int .i64 l.length), (11, .bool false)]) := by
  refine loop_count (f := evA (ev LI TT) (okT TT) l_toSeenS_L0) (l) (fun i => [(0, .row .bor 8 (l.map (eSe .bor))), (3, .row .own 8 (fillN (l.map (eSe .own)) i [.int .i64 0, .str ⟨#[]⟩, .row .own 2 [], .str ⟨#[]⟩, .int .i64 0, .row .own 2 [], .str ⟨#[]⟩, .int .i64 0])), (4, .int .i64 i), (6, .int .i64 l.length)]) _ (fun i b hi hl => ?_) ?_
  · have hw := wrap_succ i (by first | omega | (simp at hl; omega))
    obtain ⟨_, rfl⟩ := List.getElem?_eq_some_iff.1 hi
    have h := c_l_toSeen  l[i] (Nat.le_trans (wL_mem (List.getElem_mem hl)) hb) 
    try simp at h
    simp -implicitDefEqProofs [l_toSeenS_L0, l_toSeenS_L0b, hl, hw, h]
    first | done | (rw [fillN_set _ _ _ _ (by simpa using hl) (by simp)]; done) | (simp only [modify_two]; rw [fillN_set _ _ _ _ (by simpa using hl) (by simp)])
  · simp -implicitDefEqProofs [l_toSeenS_L0, l_toSeenS_L0b]
theorem c_l_toSeenS (l : List Se) (hb : wL wSe l ≤ 1048576) : ev LI TT 35 [.row .bor 8 (l.map (eSe .bor))] = some (.row .own 8 (l.map (eSe .own)), [.dead]) := by
  rw [ev_run (b := l_toSeenS_b) (rs := [.t 2]) (n := 1) rfl rfl]
  have hlen := wL_len (w := wSe) l 
  have h := L_l_toSeenS  l (by omega) hb 
  try simp at h
  simp -implicitDefEqProofs [l_toSeenS_b, h, (by omega : (l.length : Int) * 120 ≤ 140737488355328)]
  all_goals (repeat' split) <;> first | rfl | omega | (simp_all; done) | (simp_all; omega) | skip
theorem L_l_eqSeenS (ps : List (Se × Se)) (hb : ps.length ≤ 9223372036854775807) (hb1 : ∀ x ∈ ps, wSe x.1 ≤ 1073741824) : loopW (evA (ev LI TT) (okT TT) l_eqSeenS_L0) [(0, .row .bor 8 (ps.map (fun x : Se × Se => (eSe .bor) x.1))), (1, .row .bor 8 (ps.map (fun x : Se × Se => (eSe .bor) x.2))), (5, .int .i64 0)] = if allB eqB (ps) = true then some (.exit 0, [(0, .row .bor 8 (ps.map (fun x : Se × Se => (eSe .bor) x.1))), (1, .row .bor 8 (ps.map (fun x : Se × Se => (eSe .bor) x.2))), (5, .int .i64 ps.length), (14, .bool false)]) else some (.ret, [(4, .bool false)]) := by
  refine loop_all (f := evA (ev LI TT) (okT TT) l_eqSeenS_L0) (ps) (fun i => [(0, .row .bor 8 (ps.map (fun x : Se × Se => (eSe .bor) x.1))), (1, .row .bor 8 (ps.map (fun x : Se × Se => (eSe .bor) x.2))), (5, .int .i64 i)]) eqB _ _ (fun i b hi hl => ?_) ?_
  · have hw := wrap_succ i (by first | omega | (simp at hl; omega))
    obtain ⟨_, rfl⟩ := List.getElem?_eq_some_iff.1 hi
    have h := c_l_eqSeen  (ps[i]).1 (ps[i]).2 (hb1 _ (List.getElem_mem hl)); try simp at h
    simp -implicitDefEqProofs [l_eqSeenS_L0, l_eqSeenS_L0b, hl, hw, eqB, h]
  · simp -implicitDefEqProofs [l_eqSeenS_L0, l_eqSeenS_L0b]
theorem c_l_eqSeenS (a b : List Se) (hb : wL wSe a ≤ 1073741824) : ev LI TT 43 [.row .bor 8 (a.map (eSe .bor)), .row .bor 8 (b.map (eSe .bor))] = some (.bool (decide (a = b)), [.dead, .dead]) := by
  rw [ev_run (b := l_eqSeenS_b) (rs := [.t 4]) (n := 2) rfl rfl]
  simp -implicitDefEqProofs [l_eqSeenS_b]
  have hlen := wL_len (w := wSe) a 
  by_cases h : a.length = b.length 
  · obtain ⟨ps, rfl, rfl⟩ := zip_ex h 
    have h1 := L_l_eqSeenS  ps (by simp at hlen; omega) (fun x hx => Nat.le_trans (wL_mem (List.mem_map_of_mem hx)) hb) 
    have h2 := allB_eq ps 
    simp at h1 
    cases h3 : allB eqB ps <;> rw [h3] at h1 h2 <;> simp [h1, Function.comp_def, ← h2] 
  · have : ¬ a = b := fun e => h (by rw [e]) 
    simp [this] 
    omega
theorem c_l_szReply (a : Rp) (n : Int) (hb : bRp a) (hn : 0 ≤ n) (hm : n ≤ 9223372036854775807) : ev LI TT 7 [.agg ((eRp .bor) a), .int .i64 n] = some (.int .i64 (subW n (wRp a)), [.dead, .dead]) := by
  rw [ev_run (b := l_szReply_b) (rs := [.t 4]) (n := 2) rfl rfl]
  have hw : wRp a = wRq a.q + wRsp a.resp + wOb a.obj := rfl 
  have ht := subW_or n (wRp a) 
  have c1 := c_l_szReq  a.q n hb.k_q (by omega) (by omega) 
  have s1 := subW_or n (wRq a.q) 
  obtain ⟨m1, e1⟩ : ∃ m, m = subW n (wRq a.q) := ⟨_, rfl⟩ 
  rw [← e1] at c1 s1 
  try simp at c1 
  by_cases h1 : m1 < 0 
  · have ef : subW n (wRp a) = -1 := by omega 
    simp -implicitDefEqProofs [l_szReply_b, c1, h1, ef] 
  have c2 := c_l_szResp  a.resp m1 hb.k_resp (by omega) (by omega) 
  have s2 := subW_or m1 (wRsp a.resp) 
  obtain ⟨m2, e2⟩ : ∃ m, m = subW m1 (wRsp a.resp) := ⟨_, rfl⟩ 
  rw [← e2] at c2 s2 
  try simp at c2 
  by_cases h2 : m2 < 0 
  · have ef : subW n (wRp a) = -1 := by omega 
    simp -implicitDefEqProofs [l_szReply_b, c1, h1, c2, h2, ef] 
  have c3 := c_l_szObj  a.obj m2 hb.k_obj (by omega) (by omega) 
  have s3 := subW_or m2 (wOb a.obj) 
  obtain ⟨m3, e3⟩ : ∃ m, m = subW m2 (wOb a.obj) := ⟨_, rfl⟩ 
  rw [← e3] at c3 s3 
  try simp at c3 
  by_cases h3 : m3 < 0 
  · have ef : subW n (wRp a) = -1 := by omega 
    simp -implicitDefEqProofs [l_szReply_b, c1, h1, c2, h2, c3, h3, ef] 
  have ef : subW n (wRp a) = m3 := by omega
  simp -implicitDefEqProofs [l_szReply_b, c1, h1, c2, h2, c3, h3, ef]
  all_goals (repeat' split) <;> first | rfl | omega | (simp_all; done) | (simp_all; omega) | skip
theorem c_l_toReply (a : Rp) (hb : wRp a ≤ 1048576) : ev LI TT 10 [.agg ((eRp .bor) a)] = some (.agg ((eRp .own) a), [.dead]) := by
  rw [ev_run (b := l_toReply_b) (rs := [.c 2 18 true 68]) (n := 1) rfl rfl]
  have hw : wRp a = wRq a.q + wRsp a.resp + wOb a.obj := rfl 
  have h1 := c_l_toReq  a.q (by omega) 
  try simp at h1 
  have h2 := c_l_toResp  a.resp (by omega) 
  try simp at h2 
  have h3 := c_l_toObj  a.obj (by omega) 
  try simp at h3
  simp -implicitDefEqProofs [l_toReply_b, h1, h2, h3, hw]
  all_goals (repeat' split) <;> first | rfl | omega | (simp_all; done) | (simp_all; omega) | skip
theorem c_l_eqReply (a b : Rp) (hb : wRp a ≤ 1073741824) : ev LI TT 13 [.agg ((eRp .bor) a), .agg ((eRp .bor) b)] = some (.bool (decide (a = b)), [.dead, .dead]) := by
  rw [ev_run (b := l_eqReply_b) (rs := [.t 4]) (n := 2) rfl rfl]
  have hw : wRp a = wRq a.q + wRsp a.resp + wOb a.obj := rfl 
  rw [dec_Rp] 
  by_cases g1 : a.client = b.client 
  rotate_left 
  · simp -implicitDefEqProofs [l_eqReply_b, eq_false g1] 
  have c2 := c_l_eqReq  a.q b.q (by omega) 
  cases g2 : decide (a.q = b.q) 
  · rw [g2] at c2 
    try simp at c2 
    simp -implicitDefEqProofs [l_eqReply_b, eq_true g1, c2] 
  rw [g2] at c2 
  try simp at c2 
  have c3 := c_l_eqResp  a.resp b.resp (by omega) 
  cases g3 : decide (a.resp = b.resp) 
  · rw [g3] at c3 
    try simp at c3 
    simp -implicitDefEqProofs [l_eqReply_b, eq_true g1, c2, c3] 
  rw [g3] at c3 
  try simp at c3 
  by_cases g4 : a.kind = b.kind 
  rotate_left 
  · simp -implicitDefEqProofs [l_eqReply_b, eq_true g1, c2, c3, eq_false g4] 
  by_cases g5 : a.t = b.t 
  rotate_left 
  · simp -implicitDefEqProofs [l_eqReply_b, eq_true g1, c2, c3, eq_true g4, eq_false g5] 
  have c6 := c_l_eqObj  a.obj b.obj (by omega) 
  cases g6 : decide (a.obj = b.obj) 
  · rw [g6] at c6 
    try simp at c6 
    simp -implicitDefEqProofs [l_eqReply_b, eq_true g1, c2, c3, eq_true g4, eq_true g5, c6] 
  rw [g6] at c6 
  try simp at c6 
  by_cases g7 : a.bans = b.bans 
  rotate_left 
  · simp -implicitDefEqProofs [l_eqReply_b, eq_true g1, c2, c3, eq_true g4, eq_true g5, c6, eq_false g7]
  simp -implicitDefEqProofs [l_eqReply_b, eq_true g1, c2, c3, eq_true g4, eq_true g5, c6, eq_true g7]
  all_goals (repeat' split) <;> first | rfl | omega | (simp_all; done) | (simp_all; omega) | skip
theorem L_l_szReplyS (l : List Rp) (hlen : l.length ≤ 9223372036854775807) (hb : bL bRp l) (n : Int) (hn : 0 ≤ n) (hm : n ≤ 9223372036854775807) : loopW (evA (ev LI TT) (okT TT) l_szReplyS_L0) [(0, .row .bor 18 (l.map (eRp .bor))), (1, .int .i64 n), (5, .int .i64 0)] = if szL (fun b n => subW n (wRp b)) (l) n < 0 then some (.ret, [(4, .int .i64 (-1))]) else some (.exit 0, [(0, .row .bor 18 (l.map (eRp .bor))), (1, .int .i64 (szL (fun b n => subW n (wRp b)) (l) n)), (5, .int .i64 (l).length), (15, .bool false)]) := by
  refine loop_sz (f := evA (ev LI TT) (okT TT) l_szReplyS_L0) (l) (fun i n => [(0, .row .bor 18 (l.map (eRp .bor))), (1, .int .i64 n), (5, .int .i64 i)]) (fun b n => subW n (wRp b)) _ (fun n => [(0, .row .bor 18 (l.map (eRp .bor))), (1, .int .i64 n), (5, .int .i64 (l).length), (15, .bool false)]) n hn hm (fun b n => subW_le _ n) (fun i b n hi hl hn hm => ?_) (fun n => ?_)
  · have hw := wrap_succ i (by first | omega | (simp at hl; omega))
    obtain ⟨_, rfl⟩ := List.getElem?_eq_some_iff.1 hi
    have h2 := c_l_szReply  l[i] n (hb.2 _ (List.getElem_mem hl)) hn hm 
    obtain ⟨m, e1⟩ : ∃ m, m = subW n (wRp l[i]) := ⟨_, rfl⟩ 
    rw [← e1] at h2 ⊢ 
    try simp at h2
    simp -implicitDefEqProofs [l_szReplyS_L0, l_szReplyS_L0b, hl, hw, h2]
  · simp -implicitDefEqProofs [l_szReplyS_L0, l_szReplyS_L0b]
theorem c_l_szReplyS (l : List Rp) (n : Int) (hb : bL bRp l) (hn : 0 ≤ n) (hm : n ≤ 9223372036854775807) : ev LI TT 28 [.row .bor 18 (l.map (eRp .bor)), .int .i64 n] = some (.int .i64 (subW n (wL wRp l)), [.dead, .dead]) := by
  rw [ev_run (b := l_szReplyS_b) (rs := [.t 4]) (n := 2) rfl rfl]
  have hl := hb.1 
  have hw : wL wRp l = l.length + (l.map wRp).sum := rfl 
  have ht := subW_or n (wL wRp l) 
  obtain ⟨m, e1⟩ : ∃ m, m = n - (l.length : Int) := ⟨_, rfl⟩ 
  have h2 : IntKind.i64.wrap (n - (l.length : Int)) = m := by rw [e1]; exact wrap_id (by omega) (by omega) 
  by_cases h : m < 0 
  · have ef : subW n (wL wRp l) = -1 := by omega 
    simp -implicitDefEqProofs [l_szReplyS_b, h2, h, ef] 
  have h3 := L_l_szReplyS  l hb.1 hb m (by omega) (by omega) 
  rw [szL_subW _ _ _ (by omega)] at h3 
  have hs := subW_or m (l.map wRp).sum 
  obtain ⟨q, e2⟩ : ∃ q, q = subW m (l.map wRp).sum := ⟨_, rfl⟩ 
  rw [← e2] at h3 hs 
  try simp at h3 
  by_cases h4 : q < 0 
  · have ef : subW n (wL wRp l) = -1 := by omega 
    simp only [h4, if_true] at h3 
    simp -implicitDefEqProofs [l_szReplyS_b, h2, h, h3, ef] 
  have ef : subW n (wL wRp l) = q := by omega 
  simp only [h4, if_false] at h3
  simp -implicitDefEqProofs [l_szReplyS_b, h2, h, h3, ef]
  all_goals (repeat' split) <;> first | rfl | omega | (simp_all; done) | (simp_all; omega) | skip
theorem L_l_toReplyS (l : List Rp) (hlen : l.length ≤ 1048576) (hb : wL wRp l ≤ 1048576) : loopW (evA (ev LI TT) (okT TT) l_toReplyS_L0) [(0, .row .bor 18 (l.map (eRp .bor))), (3, .row .own 18 (fillN (l.map (eRp .own)) 0 [.int .i64 0, .int .i64 0, .str ⟨#[]⟩, .row .own 2 [], .str ⟨#[]⟩, .int .i64 0, .row .own 2 [], .str ⟨#[]⟩, .int .i64 0, .int .i64 0, .str ⟨#[]⟩, .row .own 1 [], .row .own 1 [], .int .i64 0, .row .own 2 [], .str ⟨#[]⟩, .int .i64 0, .int .i64 0])), (4, .int .i64 0), (6, .int .i64 l.length)] = some (.exit 0, [(0, .row .bor 18 (l.map (eRp .bor))), (3, .row .own 18 (l.map (eRp .own))), (4, .int .i64 (l).length), (6, .int .i64 l.length), (11, .bool false)]) := by
  refine loop_count (f := evA (ev LI TT) (okT TT) l_toReplyS_L0) (l) (fun i => [(0, .row .bor 18 (l.map (eRp .bor))), (3, .row .own 18 (fillN (l.map (eRp .own)) i [.int .i64 0, .int .i64 0, .str ⟨#[]⟩, .row .own 2 [], .str ⟨#[]⟩, .int .i64 0, .row .own 2 [], .str ⟨#[]⟩, .int .i64 0, .int .i64 0, .str ⟨#[]⟩, .row .own 1 [], .row .own 1 [], .int .i64 0, .row .own 2 [], .str ⟨#[]⟩, .int .i64 0, .int .i64 0])), (4, .int .i64 i), (6, .int .i64 l.length)]) _ (fun i b hi hl => ?_) ?_
  · have hw := wrap_succ i (by first | omega | (simp at hl; omega))
    obtain ⟨_, rfl⟩ := List.getElem?_eq_some_iff.1 hi
    have h := c_l_toReply  l[i] (Nat.le_trans (wL_mem (List.getElem_mem hl)) hb) 
    try simp at h
    simp -implicitDefEqProofs [l_toReplyS_L0, l_toReplyS_L0b, hl, hw, h]
    first | done | (rw [fillN_set _ _ _ _ (by simpa using hl) (by simp)]; done) | (simp only [modify_two]; rw [fillN_set _ _ _ _ (by simpa using hl) (by simp)])
  · simp -implicitDefEqProofs [l_toReplyS_L0, l_toReplyS_L0b]
theorem c_l_toReplyS (l : List Rp) (hb : wL wRp l ≤ 1048576) : ev LI TT 36 [.row .bor 18 (l.map (eRp .bor))] = some (.row .own 18 (l.map (eRp .own)), [.dead]) := by
  rw [ev_run (b := l_toReplyS_b) (rs := [.t 2]) (n := 1) rfl rfl]
  have hlen := wL_len (w := wRp) l 
  have h := L_l_toReplyS  l (by omega) hb 
  try simp at h
  simp -implicitDefEqProofs [l_toReplyS_b, h, (by omega : (l.length : Int) * 264 ≤ 140737488355328)]
  all_goals (repeat' split) <;> first | rfl | omega | (simp_all; done) | (simp_all; omega) | skip
theorem L_l_eqReplyS (ps : List (Rp × Rp)) (hb : ps.length ≤ 9223372036854775807) (hb1 : ∀ x ∈ ps, wRp x.1 ≤ 1073741824) : loopW (evA (ev LI TT) (okT TT) l_eqReplyS_L0) [(0, .row .bor 18 (ps.map (fun x : Rp × Rp => (eRp .bor) x.1))), (1, .row .bor 18 (ps.map (fun x : Rp × Rp => (eRp .bor) x.2))), (5, .int .i64 0)] = if allB eqB (ps) = true then some (.exit 0, [(0, .row .bor 18 (ps.map (fun x : Rp × Rp => (eRp .bor) x.1))), (1, .row .bor 18 (ps.map (fun x : Rp × Rp => (eRp .bor) x.2))), (5, .int .i64 ps.length), (14, .bool false)]) else some (.ret, [(4, .bool false)]) := by
  refine loop_all (f := evA (ev LI TT) (okT TT) l_eqReplyS_L0) (ps) (fun i => [(0, .row .bor 18 (ps.map (fun x : Rp × Rp => (eRp .bor) x.1))), (1, .row .bor 18 (ps.map (fun x : Rp × Rp => (eRp .bor) x.2))), (5, .int .i64 i)]) eqB _ _ (fun i b hi hl => ?_) ?_
  · have hw := wrap_succ i (by first | omega | (simp at hl; omega))
    obtain ⟨_, rfl⟩ := List.getElem?_eq_some_iff.1 hi
    have h := c_l_eqReply  (ps[i]).1 (ps[i]).2 (hb1 _ (List.getElem_mem hl)); try simp at h
    simp -implicitDefEqProofs [l_eqReplyS_L0, l_eqReplyS_L0b, hl, hw, eqB, h]
  · simp -implicitDefEqProofs [l_eqReplyS_L0, l_eqReplyS_L0b]
theorem c_l_eqReplyS (a b : List Rp) (hb : wL wRp a ≤ 1073741824) : ev LI TT 44 [.row .bor 18 (a.map (eRp .bor)), .row .bor 18 (b.map (eRp .bor))] = some (.bool (decide (a = b)), [.dead, .dead]) := by
  rw [ev_run (b := l_eqReplyS_b) (rs := [.t 4]) (n := 2) rfl rfl]
  simp -implicitDefEqProofs [l_eqReplyS_b]
  have hlen := wL_len (w := wRp) a 
  by_cases h : a.length = b.length 
  · obtain ⟨ps, rfl, rfl⟩ := zip_ex h 
    have h1 := L_l_eqReplyS  ps (by simp at hlen; omega) (fun x hx => Nat.le_trans (wL_mem (List.mem_map_of_mem hx)) hb) 
    have h2 := allB_eq ps 
    simp at h1 
    cases h3 : allB eqB ps <;> rw [h3] at h1 h2 <;> simp [h1, Function.comp_def, ← h2] 
  · have : ¬ a = b := fun e => h (by rw [e]) 
    simp [this] 
    omega
theorem c_l_szCache (a : Ca) (n : Int) (hb : bCa a) (hn : 0 ≤ n) (hm : n ≤ 9223372036854775807) : ev LI TT 6 [.agg ((eCa .bor) a), .int .i64 n] = some (.int .i64 (subW n (wCa a)), [.dead, .dead]) := by
  rw [ev_run (b := l_szCache_b) (rs := [.t 4]) (n := 2) rfl rfl]
  have hw : wCa a = wSh a.shelf + wL wFl a.flights + wL wSe a.seen + wL wRp a.sent := rfl 
  have ht := subW_or n (wCa a) 
  have c1 := c_l_szShelf  a.shelf n hb.k_shelf (by omega) (by omega) 
  have s1 := subW_or n (wSh a.shelf) 
  obtain ⟨m1, e1⟩ : ∃ m, m = subW n (wSh a.shelf) := ⟨_, rfl⟩ 
  rw [← e1] at c1 s1 
  try simp at c1 
  by_cases h1 : m1 < 0 
  · have ef : subW n (wCa a) = -1 := by omega 
    simp -implicitDefEqProofs [l_szCache_b, c1, h1, ef] 
  have c2 := c_l_szFlightS  a.flights m1 hb.k_flights (by omega) (by omega) 
  have s2 := subW_or m1 (wL wFl a.flights) 
  obtain ⟨m2, e2⟩ : ∃ m, m = subW m1 (wL wFl a.flights) := ⟨_, rfl⟩ 
  rw [← e2] at c2 s2 
  try simp at c2 
  by_cases h2 : m2 < 0 
  · have ef : subW n (wCa a) = -1 := by omega 
    simp -implicitDefEqProofs [l_szCache_b, c1, h1, c2, h2, ef] 
  have c3 := c_l_szSeenS  a.seen m2 hb.k_seen (by omega) (by omega) 
  have s3 := subW_or m2 (wL wSe a.seen) 
  obtain ⟨m3, e3⟩ : ∃ m, m = subW m2 (wL wSe a.seen) := ⟨_, rfl⟩ 
  rw [← e3] at c3 s3 
  try simp at c3 
  by_cases h3 : m3 < 0 
  · have ef : subW n (wCa a) = -1 := by omega 
    simp -implicitDefEqProofs [l_szCache_b, c1, h1, c2, h2, c3, h3, ef] 
  have c4 := c_l_szReplyS  a.sent m3 hb.k_sent (by omega) (by omega) 
  have s4 := subW_or m3 (wL wRp a.sent) 
  obtain ⟨m4, e4⟩ : ∃ m, m = subW m3 (wL wRp a.sent) := ⟨_, rfl⟩ 
  rw [← e4] at c4 s4 
  try simp at c4 
  by_cases h4 : m4 < 0 
  · have ef : subW n (wCa a) = -1 := by omega 
    simp -implicitDefEqProofs [l_szCache_b, c1, h1, c2, h2, c3, h3, c4, h4, ef] 
  have ef : subW n (wCa a) = m4 := by omega
  simp -implicitDefEqProofs [l_szCache_b, c1, h1, c2, h2, c3, h3, c4, h4, ef]
  all_goals (repeat' split) <;> first | rfl | omega | (simp_all; done) | (simp_all; omega) | skip
theorem c_l_toCache (a : Ca) (hb : wCa a ≤ 1048576) : ev LI TT 9 [.agg ((eCa .bor) a)] = some (.agg ((eCa .own) a), [.dead]) := by
  rw [ev_run (b := l_toCache_b) (rs := [.c 2 10 true 58]) (n := 1) rfl rfl]
  have hw : wCa a = wSh a.shelf + wL wFl a.flights + wL wSe a.seen + wL wRp a.sent := rfl 
  have h1 := c_l_toShelf  a.shelf (by omega) 
  try simp at h1 
  have h2 := c_l_toFlightS  a.flights (by omega) 
  try simp at h2 
  have h3 := c_l_toSeenS  a.seen (by omega) 
  try simp at h3 
  have h4 := c_l_toReplyS  a.sent (by omega) 
  try simp at h4
  simp -implicitDefEqProofs [l_toCache_b, h1, h2, h3, h4, hw]
  all_goals (repeat' split) <;> first | rfl | omega | (simp_all; done) | (simp_all; omega) | skip
theorem c_l_eqCache (a b : Ca) (hb : wCa a ≤ 1073741824) : ev LI TT 12 [.agg ((eCa .bor) a), .agg ((eCa .bor) b)] = some (.bool (decide (a = b)), [.dead, .dead]) := by
  rw [ev_run (b := l_eqCache_b) (rs := [.t 4]) (n := 2) rfl rfl]
  have hw : wCa a = wSh a.shelf + wL wFl a.flights + wL wSe a.seen + wL wRp a.sent := rfl 
  rw [dec_Ca] 
  have c1 := c_l_eqShelf  a.shelf b.shelf (by omega) 
  cases g1 : decide (a.shelf = b.shelf) 
  · rw [g1] at c1 
    try simp at c1 
    simp -implicitDefEqProofs [l_eqCache_b, c1] 
  rw [g1] at c1 
  try simp at c1 
  have c2 := c_l_eqFlightS  a.flights b.flights (by omega) 
  cases g2 : decide (a.flights = b.flights) 
  · rw [g2] at c2 
    try simp at c2 
    simp -implicitDefEqProofs [l_eqCache_b, c1, c2] 
  rw [g2] at c2 
  try simp at c2 
  by_cases g3 : a.now = b.now 
  rotate_left 
  · simp -implicitDefEqProofs [l_eqCache_b, c1, c2, eq_false g3] 
  have c4 := c_l_eqSeenS  a.seen b.seen (by omega) 
  cases g4 : decide (a.seen = b.seen) 
  · rw [g4] at c4 
    try simp at c4 
    simp -implicitDefEqProofs [l_eqCache_b, c1, c2, eq_true g3, c4] 
  rw [g4] at c4 
  try simp at c4 
  have c5 := c_l_eqReplyS  a.sent b.sent (by omega) 
  cases g5 : decide (a.sent = b.sent) 
  · rw [g5] at c5 
    try simp at c5 
    simp -implicitDefEqProofs [l_eqCache_b, c1, c2, eq_true g3, c4, c5] 
  rw [g5] at c5 
  try simp at c5
  simp -implicitDefEqProofs [l_eqCache_b, c1, c2, eq_true g3, c4, c5]
  all_goals (repeat' split) <;> first | rfl | omega | (simp_all; done) | (simp_all; omega) | skip
end M
set_option linter.unusedVariables false
set_option linter.unusedSimpArgs false
set_option maxHeartbeats 4000000
namespace M
open Go
theorem L_l_markText (n : Nat) (out : Str) (hn : out.length + n ≤ 9223372036854775807) : loopW (evA (ev LI TT) (okT TT) l_markText_L0) [(0, .int .i64 n), (3, .str ⟨out.toArray⟩)] = some (.exit 0, [(0, .int .i64 0), (3, .str ⟨(markD n out).toArray⟩), (7, .bool false)]) := by
  have hs : ∀ s, evA (ev LI TT) (okT TT) l_markText_L0 s = evA (ev LI TT) (okT TT) l_markText_L0b s := fun _ => rfl
  induction n using Nat.strongRecOn generalizing out with
  | ind n ih =>
    rw [loopW_eq, hs]
    unfold markD
    by_cases h : n = 0
    · subst h
      simp -implicitDefEqProofs [l_markText_L0b]
    · have hp : 0 < n := by omega
      have := ih (n / 10) (by omega) (UInt8.ofNat (48 + n % 10) :: out) (by rw [List.length_cons]; omega)
      have e1 : ((n : Int)).tmod 10 = ((n % 10 : Nat) : Int) := by rw [Int.tmod_eq_emod_of_nonneg (by omega)]; omega
      have e4 : ((n : Int)).tdiv 10 = ((n / 10 : Nat) : Int) := by rw [Int.tdiv_eq_ediv_of_nonneg (by omega)]; omega
      have e2 : IntKind.i64.wrap (48 + ((n % 10 : Nat) : Int)) = ((48 + n % 10 : Nat) : Int) := by rw [wrap_id (by omega) (by omega)]; omega
      have e3 : IntKind.u8.wrap ((48 + n % 10 : Nat) : Int) = ((48 + n % 10 : Nat) : Int) := wrap8_id' (by omega) (by omega)
      have e5 := u8s_one' (48 + n % 10) (by omega)
      have e6 : IntKind.i64.wrap ((n / 10 : Nat) : Int) = ((n / 10 : Nat) : Int) := wrap_id (by omega) (by omega)
      simp only [h, dite_false]
      rw [← this]
      simp -implicitDefEqProofs [l_markText_L0b, hp, litB, e1, e2, e3, e4, e5, e6, -Int.natCast_emod, -Int.natCast_ediv, -Int.natCast_add, -UInt8.ofNat_add, str_append, (by omega : 1 + out.length ≤ 9223372036854775807)]
theorem markD_len : ∀ (n : Nat) (out : Str), (markD n out).length ≤ out.length + n := by
  intro n
  induction n using Nat.strongRecOn with
  | ind n ih =>
    intro out
    unfold markD
    by_cases h : n = 0
    · simp [h]
    · simp only [h, dite_false]
      have := ih (n / 10) (by omega) (UInt8.ofNat (48 + n % 10) :: out)
      rw [List.length_cons] at this
      omega
theorem c_l_markText (k : Int) (hk : k ≤ 9223372036854775800) : ev LI TT 84 [.int .i64 k] = some (.str ⟨(markT k).toArray⟩, [.dead]) := by
  rw [ev_run (b := l_markText_b) (rs := [.t 2]) (n := 1) rfl rfl]
  unfold markT 
  by_cases h : k ≤ 0 
  · simp -implicitDefEqProofs [l_markText_b, h] 
  obtain ⟨n, rfl⟩ : ∃ n : Nat, k = n := ⟨k.toNat, by omega⟩ 
  have h1 := L_l_markText  n [] (by simp; omega) 
  have h2 := markD_len n [] 
  simp at h2
  simp -implicitDefEqProofs [l_markText_b, h, h1, str_append, (by omega : 1 + (markD n []).length ≤ 9223372036854775807)]
  have h3 : ¬ n = 0 := by omega 
  simp [h3]
theorem L_l_markFieldS (l : List Fld) (k : Int) (hk : 0 ≤ k) (hn : k + (nL cn_Fld l : Nat) ≤ 1000000000000000) : loopW (evA (ev LI TT) (okT TT) l_markFieldS_L0) [(0, .ref 100000 []), (1, .int .i64 (k + ((nL cn_Fld (l.take 0) : Nat) : Int))), (5, .int .i64 0), (100000, .row .own 2 (fillM ((mkL mk_Fld cn_Fld l k).map eFld) (l.map eFld) 0))] = some (.exit 0, [(0, .ref 100000 []), (1, .int .i64 (k + ((nL cn_Fld l : Nat) : Int))), (5, .int .i64 l.length), (9, .bool false), (100000, .row .own 2 ((mkL mk_Fld cn_Fld l k).map eFld))]) := by
  refine loop_count (f := evA (ev LI TT) (okT TT) l_markFieldS_L0) (l) (fun i => [(0, .ref 100000 []), (1, .int .i64 (k + ((nL cn_Fld (l.take i) : Nat) : Int))), (5, .int .i64 i), (100000, .row .own 2 (fillM ((mkL mk_Fld cn_Fld l k).map eFld) (l.map eFld) i))]) _ (fun i b hi hl => ?_) ?_
  · have hw := wrap_succ i (by have := nL_ge cn_Fld cn_Fld_1 l; omega)
    obtain ⟨_, rfl⟩ := List.getElem?_eq_some_iff.1 hi
    have hnt := nL_take_le cn_Fld l i hl 
    have hns := nL_take cn_Fld l i hl 
    have hg := mkL_get mk_Fld cn_Fld l k i hl (by simpa using hl) 
    obtain ⟨k0, hk0⟩ : ∃ k0, k + ((nL cn_Fld (l.take i) : Nat) : Int) = k0 := ⟨_, rfl⟩ 
    rw [hk0] at hg 
    have hce : cn_Fld l[i] = 2 := rfl 
    have m0 := c_l_markText k0 (by omega) 
    obtain ⟨k1, hk1⟩ : ∃ x, k0 + 1 = x := ⟨_, rfl⟩ 
    have e0 : IntKind.i64.wrap (k0 + 1) = k1 := by rw [← hk1]; exact wrap_id (by omega) (by omega) 
    have m1 := c_l_markText k1 (by omega) 
    obtain ⟨k2, hk2⟩ : ∃ x, k1 + 1 = x := ⟨_, rfl⟩ 
    have e1 : IntKind.i64.wrap (k1 + 1) = k2 := by rw [← hk2]; exact wrap_id (by omega) (by omega)
    simp -implicitDefEqProofs [l_markFieldS_L0, l_markFieldS_L0b, hl, hw, hk0, m0, e0, m1, e1]
    refine ⟨?_, ?_⟩ 
    · omega 
    · (try simp only [modify_two]) 
      refine fillM_set _ _ _ _ (by simp) (by simpa using hl) ?_ 
      simp [hg, mk_Fld, mk_i, mk_s, mk_b, hk1, hk2]
  · rw [List.take_length] 
    simp -implicitDefEqProofs [l_markFieldS_L0, l_markFieldS_L0b]
theorem c_l_markFieldS (l : List Fld) (k : Int) (hk : 0 ≤ k) (hn : k + (nL cn_Fld l : Nat) ≤ 1000000000000000) : ev LI TT 55 [.row .own 2 (l.map eFld), .int .i64 k] = some (.int .i64 (k + ((nL cn_Fld l : Nat) : Int)), [.row .own 2 ((mkL mk_Fld cn_Fld l k).map eFld), .dead]) := by
  rw [ev_run (b := l_markFieldS_b) (rs := [.t 4]) (n := 2) rfl rfl]
  have u1 := L_l_markFieldS l k hk hn 
  simp [nL] at u1
  simp -implicitDefEqProofs [l_markFieldS_b, u1, nL]
  all_goals (repeat' split) <;> first | rfl | omega | (simp_all; done) | (simp_all; omega) | skip
theorem L_l_heldFieldS (l : List Fld) (k : Int) (hk : 0 ≤ k) (hn : k + (nL cn_Fld l : Nat) ≤ 1000000000000000) : loopW (evA (ev LI TT) (okT TT) l_heldFieldS_L0) [(0, .row .bor 2 ((mkL mk_Fld cn_Fld l k).map eFld)), (1, .int .i64 (k + ((nL cn_Fld (l.take 0) : Nat) : Int))), (5, .int .i64 0)] = some (.exit 0, [(0, .row .bor 2 ((mkL mk_Fld cn_Fld l k).map eFld)), (1, .int .i64 (k + ((nL cn_Fld l : Nat) : Int))), (5, .int .i64 l.length), (9, .bool false)]) := by
  refine loop_count (f := evA (ev LI TT) (okT TT) l_heldFieldS_L0) (l) (fun i => [(0, .row .bor 2 ((mkL mk_Fld cn_Fld l k).map eFld)), (1, .int .i64 (k + ((nL cn_Fld (l.take i) : Nat) : Int))), (5, .int .i64 i)]) _ (fun i b hi hl => ?_) ?_
  · have hw := wrap_succ i (by have := nL_ge cn_Fld cn_Fld_1 l; omega)
    obtain ⟨_, rfl⟩ := List.getElem?_eq_some_iff.1 hi
    have hnt := nL_take_le cn_Fld l i hl 
    have hns := nL_take cn_Fld l i hl 
    have hg := mkL_get mk_Fld cn_Fld l k i hl (by simpa using hl) 
    obtain ⟨k0, hk0⟩ : ∃ k0, k + ((nL cn_Fld (l.take i) : Nat) : Int) = k0 := ⟨_, rfl⟩ 
    rw [hk0] at hg 
    have hce : cn_Fld l[i] = 2 := rfl 
    have m0 := c_l_markText k0 (by omega) 
    obtain ⟨k1, hk1⟩ : ∃ x, k0 + 1 = x := ⟨_, rfl⟩ 
    have e0 : IntKind.i64.wrap (k0 + 1) = k1 := by rw [← hk1]; exact wrap_id (by omega) (by omega) 
    have f0 : IntKind.i64.wrap k1 = k1 := wrap_id (by omega) (by omega) 
    have m1 := c_l_markText k1 (by omega) 
    obtain ⟨k2, hk2⟩ : ∃ x, k1 + 1 = x := ⟨_, rfl⟩ 
    have e1 : IntKind.i64.wrap (k1 + 1) = k2 := by rw [← hk2]; exact wrap_id (by omega) (by omega) 
    have f1 : IntKind.i64.wrap k2 = k2 := wrap_id (by omega) (by omega)
    simp -implicitDefEqProofs [l_heldFieldS_L0, l_heldFieldS_L0b, hl, hw, hk0, hg, mk_Fld, mk_i, mk_s, mk_b, hk1, hk2, m0, e0, f0, m1, e1, f1]
    omega
  · rw [List.take_length] 
    simp -implicitDefEqProofs [l_heldFieldS_L0, l_heldFieldS_L0b]
theorem c_l_heldFieldS (l : List Fld) (k : Int) (hk : 0 ≤ k) (hn : k + (nL cn_Fld l : Nat) ≤ 1000000000000000) : ev LI TT 56 [.row .bor 2 ((mkL mk_Fld cn_Fld l k).map eFld), .int .i64 k] = some (.int .i64 (k + ((nL cn_Fld l : Nat) : Int)), [.dead, .dead]) := by
  rw [ev_run (b := l_heldFieldS_b) (rs := [.t 4]) (n := 2) rfl rfl]
  have u1 := L_l_heldFieldS l k hk hn 
  simp [nL] at u1
  simp -implicitDefEqProofs [l_heldFieldS_b, u1, nL]
  all_goals (repeat' split) <;> first | rfl | omega | (simp_all; done) | (simp_all; omega) | skip
theorem L_l_markStringS (l : List Str) (k : Int) (hk : 0 ≤ k) (hn : k + (nL cn_1 l : Nat) ≤ 1000000000000000) : loopW (evA (ev LI TT) (okT TT) l_markStringS_L0) [(0, .ref 100000 []), (1, .int .i64 (k + ((nL cn_1 (l.take 0) : Nat) : Int))), (5, .int .i64 0), (100000, .row .own 1 (fillM ((mkL mk_s cn_1 l k).map eS) (l.map eS) 0))] = some (.exit 0, [(0, .ref 100000 []), (1, .int .i64 (k + ((nL cn_1 l : Nat) : Int))), (5, .int .i64 l.length), (9, .bool false), (100000, .row .own 1 ((mkL mk_s cn_1 l k).map eS))]) := by
  refine loop_count (f := evA (ev LI TT) (okT TT) l_markStringS_L0) (l) (fun i => [(0, .ref 100000 []), (1, .int .i64 (k + ((nL cn_1 (l.take i) : Nat) : Int))), (5, .int .i64 i), (100000, .row .own 1 (fillM ((mkL mk_s cn_1 l k).map eS) (l.map eS) i))]) _ (fun i b hi hl => ?_) ?_
  · have hw := wrap_succ i (by have := nL_ge cn_1 (fun _ => Nat.le_refl 1) l; omega)
    obtain ⟨_, rfl⟩ := List.getElem?_eq_some_iff.1 hi
    have hnt := nL_take_le cn_1 l i hl 
    have hns := nL_take cn_1 l i hl 
    have hg := mkL_get mk_s cn_1 l k i hl (by simpa using hl) 
    obtain ⟨k0, hk0⟩ : ∃ k0, k + ((nL cn_1 (l.take i) : Nat) : Int) = k0 := ⟨_, rfl⟩ 
    rw [hk0] at hg 
    have hce : cn_1 l[i] = 1 := rfl 
    have m0 := c_l_markText k0 (by omega) 
    obtain ⟨k1, hk1⟩ : ∃ x, k0 + 1 = x := ⟨_, rfl⟩ 
    have e0 : IntKind.i64.wrap (k0 + 1) = k1 := by rw [← hk1]; exact wrap_id (by omega) (by omega)
    simp -implicitDefEqProofs [l_markStringS_L0, l_markStringS_L0b, hl, hw, hk0, m0, e0]
    refine ⟨?_, ?_⟩ 
    · omega 
    · (try simp only [modify_two]) 
      refine fillM_set _ _ _ _ (by simp) (by simpa using hl) ?_ 
      simp [hg, mk_i, mk_s, mk_b, hk1]
  · rw [List.take_length] 
    simp -implicitDefEqProofs [l_markStringS_L0, l_markStringS_L0b]
theorem c_l_markStringS (l : List Str) (k : Int) (hk : 0 ≤ k) (hn : k + (nL cn_1 l : Nat) ≤ 1000000000000000) : ev LI TT 85 [.row .own 1 (l.map eS), .int .i64 k] = some (.int .i64 (k + ((nL cn_1 l : Nat) : Int)), [.row .own 1 ((mkL mk_s cn_1 l k).map eS), .dead]) := by
  rw [ev_run (b := l_markStringS_b) (rs := [.t 4]) (n := 2) rfl rfl]
  have u1 := L_l_markStringS l k hk hn 
  simp [nL] at u1
  simp -implicitDefEqProofs [l_markStringS_b, u1, nL]
  all_goals (repeat' split) <;> first | rfl | omega | (simp_all; done) | (simp_all; omega) | skip
theorem L_l_markWriteS (l : List Wr) (k : Int) (hk : 0 ≤ k) (hn : k + (nL cn_Wr l : Nat) ≤ 1000000000000000) : loopW (evA (ev LI TT) (okT TT) l_markWriteS_L0) [(0, .ref 100000 []), (1, .int .i64 (k + ((nL cn_Wr (l.take 0) : Nat) : Int))), (5, .int .i64 0), (100000, .row .own 2 (fillM ((mkL mk_Wr cn_Wr l k).map eW) (l.map eW) 0))] = some (.exit 0, [(0, .ref 100000 []), (1, .int .i64 (k + ((nL cn_Wr l : Nat) : Int))), (5, .int .i64 l.length), (9, .bool false), (100000, .row .own 2 ((mkL mk_Wr cn_Wr l k).map eW))]) := by
  refine loop_count (f := evA (ev LI TT) (okT TT) l_markWriteS_L0) (l) (fun i => [(0, .ref 100000 []), (1, .int .i64 (k + ((nL cn_Wr (l.take i) : Nat) : Int))), (5, .int .i64 i), (100000, .row .own 2 (fillM ((mkL mk_Wr cn_Wr l k).map eW) (l.map eW) i))]) _ (fun i b hi hl => ?_) ?_
  · have hw := wrap_succ i (by have := nL_ge cn_Wr cn_Wr_1 l; omega)
    obtain ⟨_, rfl⟩ := List.getElem?_eq_some_iff.1 hi
    have hnt := nL_take_le cn_Wr l i hl 
    have hns := nL_take cn_Wr l i hl 
    have hg := mkL_get mk_Wr cn_Wr l k i hl (by simpa using hl) 
    obtain ⟨k0, hk0⟩ : ∃ k0, k + ((nL cn_Wr (l.take i) : Nat) : Int) = k0 := ⟨_, rfl⟩ 
    rw [hk0] at hg 
    have hce : cn_Wr l[i] = 2 := rfl 
    obtain ⟨k1, hk1⟩ : ∃ x, k0 + 1 = x := ⟨_, rfl⟩ 
    have e0 : IntKind.i64.wrap (k0 + 1) = k1 := by rw [← hk1]; exact wrap_id (by omega) (by omega) 
    have m1 := c_l_markText k1 (by omega) 
    obtain ⟨k2, hk2⟩ : ∃ x, k1 + 1 = x := ⟨_, rfl⟩ 
    have e1 : IntKind.i64.wrap (k1 + 1) = k2 := by rw [← hk2]; exact wrap_id (by omega) (by omega)
    simp -implicitDefEqProofs [l_markWriteS_L0, l_markWriteS_L0b, hl, hw, hk0, e0, m1, e1]
    refine ⟨?_, ?_⟩ 
    · omega 
    · (try simp only [modify_two]) 
      refine fillM_set _ _ _ _ (by simp) (by simpa using hl) ?_ 
      simp [hg, mk_Wr, mk_i, mk_s, mk_b, hk1, hk2]
  · rw [List.take_length] 
    simp -implicitDefEqProofs [l_markWriteS_L0, l_markWriteS_L0b]
theorem c_l_markWriteS (l : List Wr) (k : Int) (hk : 0 ≤ k) (hn : k + (nL cn_Wr l : Nat) ≤ 1000000000000000) : ev LI TT 106 [.row .own 2 (l.map eW), .int .i64 k] = some (.int .i64 (k + ((nL cn_Wr l : Nat) : Int)), [.row .own 2 ((mkL mk_Wr cn_Wr l k).map eW), .dead]) := by
  rw [ev_run (b := l_markWriteS_b) (rs := [.t 4]) (n := 2) rfl rfl]
  have u1 := L_l_markWriteS l k hk hn 
  simp [nL] at u1
  simp -implicitDefEqProofs [l_markWriteS_b, u1, nL]
  all_goals (repeat' split) <;> first | rfl | omega | (simp_all; done) | (simp_all; omega) | skip
theorem L_l_markKeptS (l : List Kp) (k : Int) (hk : 0 ≤ k) (hn : k + (nL cn_Kp l : Nat) ≤ 1000000000000000) : loopW (evA (ev LI TT) (okT TT) l_markKeptS_L0) [(0, .ref 100000 []), (1, .int .i64 (k + ((nL cn_Kp (l.take 0) : Nat) : Int))), (5, .int .i64 0), (100000, .row .own 9 (fillM ((mkL mk_Kp cn_Kp l k).map (eKp .own)) (l.map (eKp .own)) 0))] = some (.exit 0, [(0, .ref 100000 []), (1, .int .i64 (k + ((nL cn_Kp l : Nat) : Int))), (5, .int .i64 l.length), (9, .bool false), (100000, .row .own 9 ((mkL mk_Kp cn_Kp l k).map (eKp .own)))]) := by
  refine loop_count (f := evA (ev LI TT) (okT TT) l_markKeptS_L0) (l) (fun i => [(0, .ref 100000 []), (1, .int .i64 (k + ((nL cn_Kp (l.take i) : Nat) : Int))), (5, .int .i64 i), (100000, .row .own 9 (fillM ((mkL mk_Kp cn_Kp l k).map (eKp .own)) (l.map (eKp .own)) i))]) _ (fun i b hi hl => ?_) ?_
  · have hw := wrap_succ i (by have := nL_ge cn_Kp cn_Kp_1 l; omega)
    obtain ⟨_, rfl⟩ := List.getElem?_eq_some_iff.1 hi
    have hnt := nL_take_le cn_Kp l i hl 
    have hns := nL_take cn_Kp l i hl 
    have hg := mkL_get mk_Kp cn_Kp l k i hl (by simpa using hl) 
    obtain ⟨k0, hk0⟩ : ∃ k0, k + ((nL cn_Kp (l.take i) : Nat) : Int) = k0 := ⟨_, rfl⟩ 
    rw [hk0] at hg 
    have hce : cn_Kp l[i] = 6 + nL cn_1 l[i].obj.names + nL cn_1 l[i].obj.values + nL cn_Fld l[i].obj.resp.fields := rfl 
    have m0 := c_l_markText k0 (by omega) 
    obtain ⟨k1, hk1⟩ : ∃ x, k0 + 1 = x := ⟨_, rfl⟩ 
    have e0 : IntKind.i64.wrap (k0 + 1) = k1 := by rw [← hk1]; exact wrap_id (by omega) (by omega) 
    have u1 := c_l_markStringS l[i].obj.names k1 (by omega) (by omega) 
    obtain ⟨k2, hk2⟩ : ∃ x, k1 + ((nL cn_1 l[i].obj.names : Nat) : Int) = x := ⟨_, rfl⟩ 
    rw [hk2] at u1 
    try simp at u1 
    have u2 := c_l_markStringS l[i].obj.values k2 (by omega) (by omega) 
    obtain ⟨k3, hk3⟩ : ∃ x, k2 + ((nL cn_1 l[i].obj.values : Nat) : Int) = x := ⟨_, rfl⟩ 
    rw [hk3] at u2 
    try simp at u2 
    obtain ⟨k4, hk4⟩ : ∃ x, k3 + 1 = x := ⟨_, rfl⟩ 
    have e3 : IntKind.i64.wrap (k3 + 1) = k4 := by rw [← hk4]; exact wrap_id (by omega) (by omega) 
    have u4 := c_l_markFieldS l[i].obj.resp.fields k4 (by omega) (by omega) 
    obtain ⟨k5, hk5⟩ : ∃ x, k4 + ((nL cn_Fld l[i].obj.resp.fields : Nat) : Int) = x := ⟨_, rfl⟩ 
    rw [hk5] at u4 
    try simp at u4 
    have m5 := c_l_markText k5 (by omega) 
    obtain ⟨k6, hk6⟩ : ∃ x, k5 + 1 = x := ⟨_, rfl⟩ 
    have e5 : IntKind.i64.wrap (k5 + 1) = k6 := by rw [← hk6]; exact wrap_id (by omega) (by omega) 
    obtain ⟨k7, hk7⟩ : ∃ x, k6 + 1 = x := ⟨_, rfl⟩ 
    have e6 : IntKind.i64.wrap (k6 + 1) = k7 := by rw [← hk7]; exact wrap_id (by omega) (by omega) 
    obtain ⟨k8, hk8⟩ : ∃ x, k7 + 1 = x := ⟨_, rfl⟩ 
    have e7 : IntKind.i64.wrap (k7 + 1) = k8 := by rw [← hk8]; exact wrap_id (by omega) (by omega) 
    obtain ⟨k9, hk9⟩ : ∃ x, k8 + 1 = x := ⟨_, rfl⟩ 
    have e8 : IntKind.i64.wrap (k8 + 1) = k9 := by rw [← hk9]; exact wrap_id (by omega) (by omega)
    simp -implicitDefEqProofs [l_markKeptS_L0, l_markKeptS_L0b, hl, hw, hk0, m0, e0, u1, u2, e3, u4, m5, e5, e6, e7, e8]
    refine ⟨?_, ?_⟩ 
    · omega 
    · (try simp only [modify_two]) 
      refine fillM_set _ _ _ _ (by simp) (by simpa using hl) ?_ 
      simp [hg, mk_Kp, mk_i, mk_s, mk_b, hk1, hk2, hk3, hk4, hk5, hk6, hk7, hk8, hk9]
  · rw [List.take_length] 
    simp -implicitDefEqProofs [l_markKeptS_L0, l_markKeptS_L0b]
theorem c_l_markKeptS (l : List Kp) (k : Int) (hk : 0 ≤ k) (hn : k + (nL cn_Kp l : Nat) ≤ 1000000000000000) : ev LI TT 82 [.row .own 9 (l.map (eKp .own)), .int .i64 k] = some (.int .i64 (k + ((nL cn_Kp l : Nat) : Int)), [.row .own 9 ((mkL mk_Kp cn_Kp l k).map (eKp .own)), .dead]) := by
  rw [ev_run (b := l_markKeptS_b) (rs := [.t 4]) (n := 2) rfl rfl]
  have u1 := L_l_markKeptS l k hk hn 
  simp [nL] at u1
  simp -implicitDefEqProofs [l_markKeptS_b, u1, nL]
  all_goals (repeat' split) <;> first | rfl | omega | (simp_all; done) | (simp_all; omega) | skip
theorem L_l_markBanS (l : List Bn) (k : Int) (hk : 0 ≤ k) (hn : k + (nL cn_Bn l : Nat) ≤ 1000000000000000) : loopW (evA (ev LI TT) (okT TT) l_markBanS_L0) [(0, .ref 100000 []), (1, .int .i64 (k + ((nL cn_Bn (l.take 0) : Nat) : Int))), (5, .int .i64 0), (100000, .row .own 4 (fillM ((mkL mk_Bn cn_Bn l k).map eBn) (l.map eBn) 0))] = some (.exit 0, [(0, .ref 100000 []), (1, .int .i64 (k + ((nL cn_Bn l : Nat) : Int))), (5, .int .i64 l.length), (9, .bool false), (100000, .row .own 4 ((mkL mk_Bn cn_Bn l k).map eBn))]) := by
  refine loop_count (f := evA (ev LI TT) (okT TT) l_markBanS_L0) (l) (fun i => [(0, .ref 100000 []), (1, .int .i64 (k + ((nL cn_Bn (l.take i) : Nat) : Int))), (5, .int .i64 i), (100000, .row .own 4 (fillM ((mkL mk_Bn cn_Bn l k).map eBn) (l.map eBn) i))]) _ (fun i b hi hl => ?_) ?_
  · have hw := wrap_succ i (by have := nL_ge cn_Bn cn_Bn_1 l; omega)
    obtain ⟨_, rfl⟩ := List.getElem?_eq_some_iff.1 hi
    have hnt := nL_take_le cn_Bn l i hl 
    have hns := nL_take cn_Bn l i hl 
    have hg := mkL_get mk_Bn cn_Bn l k i hl (by simpa using hl) 
    obtain ⟨k0, hk0⟩ : ∃ k0, k + ((nL cn_Bn (l.take i) : Nat) : Int) = k0 := ⟨_, rfl⟩ 
    rw [hk0] at hg 
    have hce : cn_Bn l[i] = 4 := rfl 
    obtain ⟨k1, hk1⟩ : ∃ x, k0 + 1 = x := ⟨_, rfl⟩ 
    have e0 : IntKind.i64.wrap (k0 + 1) = k1 := by rw [← hk1]; exact wrap_id (by omega) (by omega) 
    have m1 := c_l_markText k1 (by omega) 
    obtain ⟨k2, hk2⟩ : ∃ x, k1 + 1 = x := ⟨_, rfl⟩ 
    have e1 : IntKind.i64.wrap (k1 + 1) = k2 := by rw [← hk2]; exact wrap_id (by omega) (by omega) 
    have m2 := c_l_markText k2 (by omega) 
    obtain ⟨k3, hk3⟩ : ∃ x, k2 + 1 = x := ⟨_, rfl⟩ 
    have e2 : IntKind.i64.wrap (k2 + 1) = k3 := by rw [← hk3]; exact wrap_id (by omega) (by omega) 
    obtain ⟨k4, hk4⟩ : ∃ x, k3 + 1 = x := ⟨_, rfl⟩ 
    have e3 : IntKind.i64.wrap (k3 + 1) = k4 := by rw [← hk4]; exact wrap_id (by omega) (by omega)
    simp -implicitDefEqProofs [l_markBanS_L0, l_markBanS_L0b, hl, hw, hk0, e0, m1, e1, m2, e2, e3]
    refine ⟨?_, ?_⟩ 
    · omega 
    · (try simp only [modify_two]) 
      refine fillM_set _ _ _ _ (by simp) (by simpa using hl) ?_ 
      simp [hg, mk_Bn, mk_i, mk_s, mk_b, hk1, hk2, hk3, hk4]
  · rw [List.take_length] 
    simp -implicitDefEqProofs [l_markBanS_L0, l_markBanS_L0b]
theorem c_l_markBanS (l : List Bn) (k : Int) (hk : 0 ≤ k) (hn : k + (nL cn_Bn l : Nat) ≤ 1000000000000000) : ev LI TT 83 [.row .own 4 (l.map eBn), .int .i64 k] = some (.int .i64 (k + ((nL cn_Bn l : Nat) : Int)), [.row .own 4 ((mkL mk_Bn cn_Bn l k).map eBn), .dead]) := by
  rw [ev_run (b := l_markBanS_b) (rs := [.t 4]) (n := 2) rfl rfl]
  have u1 := L_l_markBanS l k hk hn 
  simp [nL] at u1
  simp -implicitDefEqProofs [l_markBanS_b, u1, nL]
  all_goals (repeat' split) <;> first | rfl | omega | (simp_all; done) | (simp_all; omega) | skip
theorem L_l_markIntS (l : List Int) (k : Int) (hk : 0 ≤ k) (hn : k + (nL cn_1 l : Nat) ≤ 1000000000000000) : loopW (evA (ev LI TT) (okT TT) l_markIntS_L0) [(0, .ref 100000 []), (1, .int .i64 (k + ((nL cn_1 (l.take 0) : Nat) : Int))), (5, .int .i64 0), (100000, .row .own 1 (fillM ((mkL mk_i cn_1 l k).map eI) (l.map eI) 0))] = some (.exit 0, [(0, .ref 100000 []), (1, .int .i64 (k + ((nL cn_1 l : Nat) : Int))), (5, .int .i64 l.length), (9, .bool false), (100000, .row .own 1 ((mkL mk_i cn_1 l k).map eI))]) := by
  refine loop_count (f := evA (ev LI TT) (okT TT) l_markIntS_L0) (l) (fun i => [(0, .ref 100000 []), (1, .int .i64 (k + ((nL cn_1 (l.take i) : Nat) : Int))), (5, .int .i64 i), (100000, .row .own 1 (fillM ((mkL mk_i cn_1 l k).map eI) (l.map eI) i))]) _ (fun i b hi hl => ?_) ?_
  · have hw := wrap_succ i (by have := nL_ge cn_1 (fun _ => Nat.le_refl 1) l; omega)
    obtain ⟨_, rfl⟩ := List.getElem?_eq_some_iff.1 hi
    have hnt := nL_take_le cn_1 l i hl 
    have hns := nL_take cn_1 l i hl 
    have hg := mkL_get mk_i cn_1 l k i hl (by simpa using hl) 
    obtain ⟨k0, hk0⟩ : ∃ k0, k + ((nL cn_1 (l.take i) : Nat) : Int) = k0 := ⟨_, rfl⟩ 
    rw [hk0] at hg 
    have hce : cn_1 l[i] = 1 := rfl 
    obtain ⟨k1, hk1⟩ : ∃ x, k0 + 1 = x := ⟨_, rfl⟩ 
    have e0 : IntKind.i64.wrap (k0 + 1) = k1 := by rw [← hk1]; exact wrap_id (by omega) (by omega)
    simp -implicitDefEqProofs [l_markIntS_L0, l_markIntS_L0b, hl, hw, hk0, e0]
    refine ⟨?_, ?_⟩ 
    · omega 
    · (try simp only [modify_two]) 
      refine fillM_set _ _ _ _ (by simp) (by simpa using hl) ?_ 
      simp [hg, mk_i, mk_s, mk_b, hk1]
  · rw [List.take_length] 
    simp -implicitDefEqProofs [l_markIntS_L0, l_markIntS_L0b]
theorem c_l_markIntS (l : List Int) (k : Int) (hk : 0 ≤ k) (hn : k + (nL cn_1 l : Nat) ≤ 1000000000000000) : ev LI TT 18 [.row .own 1 (l.map eI), .int .i64 k] = some (.int .i64 (k + ((nL cn_1 l : Nat) : Int)), [.row .own 1 ((mkL mk_i cn_1 l k).map eI), .dead]) := by
  rw [ev_run (b := l_markIntS_b) (rs := [.t 4]) (n := 2) rfl rfl]
  have u1 := L_l_markIntS l k hk hn 
  simp [nL] at u1
  simp -implicitDefEqProofs [l_markIntS_b, u1, nL]
  all_goals (repeat' split) <;> first | rfl | omega | (simp_all; done) | (simp_all; omega) | skip
theorem L_l_markFlightS (l : List Fl) (k : Int) (hk : 0 ≤ k) (hn : k + (nL cn_Fl l : Nat) ≤ 1000000000000000) : loopW (evA (ev LI TT) (okT TT) l_markFlightS_L0) [(0, .ref 100000 []), (1, .int .i64 (k + ((nL cn_Fl (l.take 0) : Nat) : Int))), (5, .int .i64 0), (100000, .row .own 13 (fillM ((mkL mk_Fl cn_Fl l k).map (eFl .own)) (l.map (eFl .own)) 0))] = some (.exit 0, [(0, .ref 100000 []), (1, .int .i64 (k + ((nL cn_Fl l : Nat) : Int))), (5, .int .i64 l.length), (9, .bool false), (100000, .row .own 13 ((mkL mk_Fl cn_Fl l k).map (eFl .own)))]) := by
  refine loop_count (f := evA (ev LI TT) (okT TT) l_markFlightS_L0) (l) (fun i => [(0, .ref 100000 []), (1, .int .i64 (k + ((nL cn_Fl (l.take i) : Nat) : Int))), (5, .int .i64 i), (100000, .row .own 13 (fillM ((mkL mk_Fl cn_Fl l k).map (eFl .own)) (l.map (eFl .own)) i))]) _ (fun i b hi hl => ?_) ?_
  · have hw := wrap_succ i (by have := nL_ge cn_Fl cn_Fl_1 l; omega)
    obtain ⟨_, rfl⟩ := List.getElem?_eq_some_iff.1 hi
    have hnt := nL_take_le cn_Fl l i hl 
    have hns := nL_take cn_Fl l i hl 
    have hg := mkL_get mk_Fl cn_Fl l k i hl (by simpa using hl) 
    obtain ⟨k0, hk0⟩ : ∃ k0, k + ((nL cn_Fl (l.take i) : Nat) : Int) = k0 := ⟨_, rfl⟩ 
    rw [hk0] at hg 
    have hce : cn_Fl l[i] = 8 + nL cn_Fld l[i].q.fields + nL cn_1 l[i].who + nL cn_1 l[i].old.names + nL cn_1 l[i].old.values + nL cn_Fld l[i].old.resp.fields := rfl 
    obtain ⟨k1, hk1⟩ : ∃ x, k0 + 1 = x := ⟨_, rfl⟩ 
    have e0 : IntKind.i64.wrap (k0 + 1) = k1 := by rw [← hk1]; exact wrap_id (by omega) (by omega) 
    have m1 := c_l_markText k1 (by omega) 
    obtain ⟨k2, hk2⟩ : ∃ x, k1 + 1 = x := ⟨_, rfl⟩ 
    have e1 : IntKind.i64.wrap (k1 + 1) = k2 := by rw [← hk2]; exact wrap_id (by omega) (by omega) 
    have u2 := c_l_markFieldS l[i].q.fields k2 (by omega) (by omega) 
    obtain ⟨k3, hk3⟩ : ∃ x, k2 + ((nL cn_Fld l[i].q.fields : Nat) : Int) = x := ⟨_, rfl⟩ 
    rw [hk3] at u2 
    try simp at u2 
    have m3 := c_l_markText k3 (by omega) 
    obtain ⟨k4, hk4⟩ : ∃ x, k3 + 1 = x := ⟨_, rfl⟩ 
    have e3 : IntKind.i64.wrap (k3 + 1) = k4 := by rw [← hk4]; exact wrap_id (by omega) (by omega) 
    have u4 := c_l_markIntS l[i].who k4 (by omega) (by omega) 
    obtain ⟨k5, hk5⟩ : ∃ x, k4 + ((nL cn_1 l[i].who : Nat) : Int) = x := ⟨_, rfl⟩ 
    rw [hk5] at u4 
    try simp at u4 
    have m5 := c_l_markText k5 (by omega) 
    obtain ⟨k6, hk6⟩ : ∃ x, k5 + 1 = x := ⟨_, rfl⟩ 
    have e5 : IntKind.i64.wrap (k5 + 1) = k6 := by rw [← hk6]; exact wrap_id (by omega) (by omega) 
    have u6 := c_l_markStringS l[i].old.names k6 (by omega) (by omega) 
    obtain ⟨k7, hk7⟩ : ∃ x, k6 + ((nL cn_1 l[i].old.names : Nat) : Int) = x := ⟨_, rfl⟩ 
    rw [hk7] at u6 
    try simp at u6 
    have u7 := c_l_markStringS l[i].old.values k7 (by omega) (by omega) 
    obtain ⟨k8, hk8⟩ : ∃ x, k7 + ((nL cn_1 l[i].old.values : Nat) : Int) = x := ⟨_, rfl⟩ 
    rw [hk8] at u7 
    try simp at u7 
    obtain ⟨k9, hk9⟩ : ∃ x, k8 + 1 = x := ⟨_, rfl⟩ 
    have e8 : IntKind.i64.wrap (k8 + 1) = k9 := by rw [← hk9]; exact wrap_id (by omega) (by omega) 
    have u9 := c_l_markFieldS l[i].old.resp.fields k9 (by omega) (by omega) 
    obtain ⟨k10, hk10⟩ : ∃ x, k9 + ((nL cn_Fld l[i].old.resp.fields : Nat) : Int) = x := ⟨_, rfl⟩ 
    rw [hk10] at u9 
    try simp at u9 
    have m10 := c_l_markText k10 (by omega) 
    obtain ⟨k11, hk11⟩ : ∃ x, k10 + 1 = x := ⟨_, rfl⟩ 
    have e10 : IntKind.i64.wrap (k10 + 1) = k11 := by rw [← hk11]; exact wrap_id (by omega) (by omega) 
    obtain ⟨k12, hk12⟩ : ∃ x, k11 + 1 = x := ⟨_, rfl⟩ 
    have e11 : IntKind.i64.wrap (k11 + 1) = k12 := by rw [← hk12]; exact wrap_id (by omega) (by omega) 
    obtain ⟨k13, hk13⟩ : ∃ x, k12 + 1 = x := ⟨_, rfl⟩ 
    have e12 : IntKind.i64.wrap (k12 + 1) = k13 := by rw [← hk13]; exact wrap_id (by omega) (by omega)
    simp -implicitDefEqProofs [l_markFlightS_L0, l_markFlightS_L0b, hl, hw, hk0, e0, m1, e1, u2, m3, e3, u4, m5, e5, u6, u7, e8, u9, m10, e10, e11, e12]
    refine ⟨?_, ?_⟩ 
    · omega 
    · (try simp only [modify_two]) 
      refine fillM_set _ _ _ _ (by simp) (by simpa using hl) ?_ 
      simp [hg, mk_Fl, mk_i, mk_s, mk_b, hk1, hk2, hk3, hk4, hk5, hk6, hk7, hk8, hk9, hk10, hk11, hk12, hk13]
  · rw [List.take_length] 
    simp -implicitDefEqProofs [l_markFlightS_L0, l_markFlightS_L0b]
theorem c_l_markFlightS (l : List Fl) (k : Int) (hk : 0 ≤ k) (hn : k + (nL cn_Fl l : Nat) ≤ 1000000000000000) : ev LI TT 49 [.row .own 13 (l.map (eFl .own)), .int .i64 k] = some (.int .i64 (k + ((nL cn_Fl l : Nat) : Int)), [.row .own 13 ((mkL mk_Fl cn_Fl l k).map (eFl .own)), .dead]) := by
  rw [ev_run (b := l_markFlightS_b) (rs := [.t 4]) (n := 2) rfl rfl]
  have u1 := L_l_markFlightS l k hk hn 
  simp [nL] at u1
  simp -implicitDefEqProofs [l_markFlightS_b, u1, nL]
  all_goals (repeat' split) <;> first | rfl | omega | (simp_all; done) | (simp_all; omega) | skip
theorem L_l_markSeenS (l : List Se) (k : Int) (hk : 0 ≤ k) (hn : k + (nL cn_Se l : Nat) ≤ 1000000000000000) : loopW (evA (ev LI TT) (okT TT) l_markSeenS_L0) [(0, .ref 100000 []), (1, .int .i64 (k + ((nL cn_Se (l.take 0) : Nat) : Int))), (5, .int .i64 0), (100000, .row .own 8 (fillM ((mkL mk_Se cn_Se l k).map (eSe .own)) (l.map (eSe .own)) 0))] = some (.exit 0, [(0, .ref 100000 []), (1, .int .i64 (k + ((nL cn_Se l : Nat) : Int))), (5, .int .i64 l.length), (9, .bool false), (100000, .row .own 8 ((mkL mk_Se cn_Se l k).map (eSe .own)))]) := by
  refine loop_count (f := evA (ev LI TT) (okT TT) l_markSeenS_L0) (l) (fun i => [(0, .ref 100000 []), (1, .int .i64 (k + ((nL cn_Se (l.take i) : Nat) : Int))), (5, .int .i64 i), (100000, .row .own 8 (fillM ((mkL mk_Se cn_Se l k).map (eSe .own)) (l.map (eSe .own)) i))]) _ (fun i b hi hl => ?_) ?_
  · have hw := wrap_succ i (by have := nL_ge cn_Se cn_Se_1 l; omega)
    obtain ⟨_, rfl⟩ := List.getElem?_eq_some_iff.1 hi
    have hnt := nL_take_le cn_Se l i hl 
    have hns := nL_take cn_Se l i hl 
    have hg := mkL_get mk_Se cn_Se l k i hl (by simpa using hl) 
    obtain ⟨k0, hk0⟩ : ∃ k0, k + ((nL cn_Se (l.take i) : Nat) : Int) = k0 := ⟨_, rfl⟩ 
    rw [hk0] at hg 
    have hce : cn_Se l[i] = 6 + nL cn_Fld l[i].q.fields + nL cn_Fld l[i].resp.fields := rfl 
    obtain ⟨k1, hk1⟩ : ∃ x, k0 + 1 = x := ⟨_, rfl⟩ 
    have e0 : IntKind.i64.wrap (k0 + 1) = k1 := by rw [← hk1]; exact wrap_id (by omega) (by omega) 
    have m1 := c_l_markText k1 (by omega) 
    obtain ⟨k2, hk2⟩ : ∃ x, k1 + 1 = x := ⟨_, rfl⟩ 
    have e1 : IntKind.i64.wrap (k1 + 1) = k2 := by rw [← hk2]; exact wrap_id (by omega) (by omega) 
    have u2 := c_l_markFieldS l[i].q.fields k2 (by omega) (by omega) 
    obtain ⟨k3, hk3⟩ : ∃ x, k2 + ((nL cn_Fld l[i].q.fields : Nat) : Int) = x := ⟨_, rfl⟩ 
    rw [hk3] at u2 
    try simp at u2 
    have m3 := c_l_markText k3 (by omega) 
    obtain ⟨k4, hk4⟩ : ∃ x, k3 + 1 = x := ⟨_, rfl⟩ 
    have e3 : IntKind.i64.wrap (k3 + 1) = k4 := by rw [← hk4]; exact wrap_id (by omega) (by omega) 
    obtain ⟨k5, hk5⟩ : ∃ x, k4 + 1 = x := ⟨_, rfl⟩ 
    have e4 : IntKind.i64.wrap (k4 + 1) = k5 := by rw [← hk5]; exact wrap_id (by omega) (by omega) 
    have u5 := c_l_markFieldS l[i].resp.fields k5 (by omega) (by omega) 
    obtain ⟨k6, hk6⟩ : ∃ x, k5 + ((nL cn_Fld l[i].resp.fields : Nat) : Int) = x := ⟨_, rfl⟩ 
    rw [hk6] at u5 
    try simp at u5 
    have m6 := c_l_markText k6 (by omega) 
    obtain ⟨k7, hk7⟩ : ∃ x, k6 + 1 = x := ⟨_, rfl⟩ 
    have e6 : IntKind.i64.wrap (k6 + 1) = k7 := by rw [← hk7]; exact wrap_id (by omega) (by omega) 
    obtain ⟨k8, hk8⟩ : ∃ x, k7 + 1 = x := ⟨_, rfl⟩ 
    have e7 : IntKind.i64.wrap (k7 + 1) = k8 := by rw [← hk8]; exact wrap_id (by omega) (by omega)
    simp -implicitDefEqProofs [l_markSeenS_L0, l_markSeenS_L0b, hl, hw, hk0, e0, m1, e1, u2, m3, e3, e4, u5, m6, e6, e7]
    refine ⟨?_, ?_⟩ 
    · omega 
    · (try simp only [modify_two]) 
      refine fillM_set _ _ _ _ (by simp) (by simpa using hl) ?_ 
      simp [hg, mk_Se, mk_i, mk_s, mk_b, hk1, hk2, hk3, hk4, hk5, hk6, hk7, hk8]
  · rw [List.take_length] 
    simp -implicitDefEqProofs [l_markSeenS_L0, l_markSeenS_L0b]
theorem c_l_markSeenS (l : List Se) (k : Int) (hk : 0 ≤ k) (hn : k + (nL cn_Se l : Nat) ≤ 1000000000000000) : ev LI TT 50 [.row .own 8 (l.map (eSe .own)), .int .i64 k] = some (.int .i64 (k + ((nL cn_Se l : Nat) : Int)), [.row .own 8 ((mkL mk_Se cn_Se l k).map (eSe .own)), .dead]) := by
  rw [ev_run (b := l_markSeenS_b) (rs := [.t 4]) (n := 2) rfl rfl]
  have u1 := L_l_markSeenS l k hk hn 
  simp [nL] at u1
  simp -implicitDefEqProofs [l_markSeenS_b, u1, nL]
  all_goals (repeat' split) <;> first | rfl | omega | (simp_all; done) | (simp_all; omega) | skip
theorem L_l_markReplyS (l : List Rp) (k : Int) (hk : 0 ≤ k) (hn : k + (nL cn_Rp l : Nat) ≤ 1000000000000000) : loopW (evA (ev LI TT) (okT TT) l_markReplyS_L0) [(0, .ref 100000 []), (1, .int .i64 (k + ((nL cn_Rp (l.take 0) : Nat) : Int))), (5, .int .i64 0), (100000, .row .own 18 (fillM ((mkL mk_Rp cn_Rp l k).map (eRp .own)) (l.map (eRp .own)) 0))] = some (.exit 0, [(0, .ref 100000 []), (1, .int .i64 (k + ((nL cn_Rp l : Nat) : Int))), (5, .int .i64 l.length), (9, .bool false), (100000, .row .own 18 ((mkL mk_Rp cn_Rp l k).map (eRp .own)))]) := by
  refine loop_count (f := evA (ev LI TT) (okT TT) l_markReplyS_L0) (l) (fun i => [(0, .ref 100000 []), (1, .int .i64 (k + ((nL cn_Rp (l.take i) : Nat) : Int))), (5, .int .i64 i), (100000, .row .own 18 (fillM ((mkL mk_Rp cn_Rp l k).map (eRp .own)) (l.map (eRp .own)) i))]) _ (fun i b hi hl => ?_) ?_
  · have hw := wrap_succ i (by have := nL_ge cn_Rp cn_Rp_1 l; omega)
    obtain ⟨_, rfl⟩ := List.getElem?_eq_some_iff.1 hi
    have hnt := nL_take_le cn_Rp l i hl 
    have hns := nL_take cn_Rp l i hl 
    have hg := mkL_get mk_Rp cn_Rp l k i hl (by simpa using hl) 
    obtain ⟨k0, hk0⟩ : ∃ k0, k + ((nL cn_Rp (l.take i) : Nat) : Int) = k0 := ⟨_, rfl⟩ 
    rw [hk0] at hg 
    have hce : cn_Rp l[i] = 13 + nL cn_Fld l[i].q.fields + nL cn_Fld l[i].resp.fields + nL cn_1 l[i].obj.names + nL cn_1 l[i].obj.values + nL cn_Fld l[i].obj.resp.fields := rfl 
    obtain ⟨k1, hk1⟩ : ∃ x, k0 + 1 = x := ⟨_, rfl⟩ 
    have e0 : IntKind.i64.wrap (k0 + 1) = k1 := by rw [← hk1]; exact wrap_id (by omega) (by omega) 
    obtain ⟨k2, hk2⟩ : ∃ x, k1 + 1 = x := ⟨_, rfl⟩ 
    have e1 : IntKind.i64.wrap (k1 + 1) = k2 := by rw [← hk2]; exact wrap_id (by omega) (by omega) 
    have m2 := c_l_markText k2 (by omega) 
    obtain ⟨k3, hk3⟩ : ∃ x, k2 + 1 = x := ⟨_, rfl⟩ 
    have e2 : IntKind.i64.wrap (k2 + 1) = k3 := by rw [← hk3]; exact wrap_id (by omega) (by omega) 
    have u3 := c_l_markFieldS l[i].q.fields k3 (by omega) (by omega) 
    obtain ⟨k4, hk4⟩ : ∃ x, k3 + ((nL cn_Fld l[i].q.fields : Nat) : Int) = x := ⟨_, rfl⟩ 
    rw [hk4] at u3 
    try simp at u3 
    have m4 := c_l_markText k4 (by omega) 
    obtain ⟨k5, hk5⟩ : ∃ x, k4 + 1 = x := ⟨_, rfl⟩ 
    have e4 : IntKind.i64.wrap (k4 + 1) = k5 := by rw [← hk5]; exact wrap_id (by omega) (by omega) 
    obtain ⟨k6, hk6⟩ : ∃ x, k5 + 1 = x := ⟨_, rfl⟩ 
    have e5 : IntKind.i64.wrap (k5 + 1) = k6 := by rw [← hk6]; exact wrap_id (by omega) (by omega) 
    have u6 := c_l_markFieldS l[i].resp.fields k6 (by omega) (by omega) 
    obtain ⟨k7, hk7⟩ : ∃ x, k6 + ((nL cn_Fld l[i].resp.fields : Nat) : Int) = x := ⟨_, rfl⟩ 
    rw [hk7] at u6 
    try simp at u6 
    have m7 := c_l_markText k7 (by omega) 
    obtain ⟨k8, hk8⟩ : ∃ x, k7 + 1 = x := ⟨_, rfl⟩ 
    have e7 : IntKind.i64.wrap (k7 + 1) = k8 := by rw [← hk8]; exact wrap_id (by omega) (by omega) 
    obtain ⟨k9, hk9⟩ : ∃ x, k8 + 1 = x := ⟨_, rfl⟩ 
    have e8 : IntKind.i64.wrap (k8 + 1) = k9 := by rw [← hk9]; exact wrap_id (by omega) (by omega) 
    obtain ⟨k10, hk10⟩ : ∃ x, k9 + 1 = x := ⟨_, rfl⟩ 
    have e9 : IntKind.i64.wrap (k9 + 1) = k10 := by rw [← hk10]; exact wrap_id (by omega) (by omega) 
    have m10 := c_l_markText k10 (by omega) 
    obtain ⟨k11, hk11⟩ : ∃ x, k10 + 1 = x := ⟨_, rfl⟩ 
    have e10 : IntKind.i64.wrap (k10 + 1) = k11 := by rw [← hk11]; exact wrap_id (by omega) (by omega) 
    have u11 := c_l_markStringS l[i].obj.names k11 (by omega) (by omega) 
    obtain ⟨k12, hk12⟩ : ∃ x, k11 + ((nL cn_1 l[i].obj.names : Nat) : Int) = x := ⟨_, rfl⟩ 
    rw [hk12] at u11 
    try simp at u11 
    have u12 := c_l_markStringS l[i].obj.values k12 (by omega) (by omega) 
    obtain ⟨k13, hk13⟩ : ∃ x, k12 + ((nL cn_1 l[i].obj.values : Nat) : Int) = x := ⟨_, rfl⟩ 
    rw [hk13] at u12 
    try simp at u12 
    obtain ⟨k14, hk14⟩ : ∃ x, k13 + 1 = x := ⟨_, rfl⟩ 
    have e13 : IntKind.i64.wrap (k13 + 1) = k14 := by rw [← hk14]; exact wrap_id (by omega) (by omega) 
    have u14 := c_l_markFieldS l[i].obj.resp.fields k14 (by omega) (by omega) 
    obtain ⟨k15, hk15⟩ : ∃ x, k14 + ((nL cn_Fld l[i].obj.resp.fields : Nat) : Int) = x := ⟨_, rfl⟩ 
    rw [hk15] at u14 
    try simp at u14 
    have m15 := c_l_markText k15 (by omega) 
    obtain ⟨k16, hk16⟩ : ∃ x, k15 + 1 = x := ⟨_, rfl⟩ 
    have e15 : IntKind.i64.wrap (k15 + 1) = k16 := by rw [← hk16]; exact wrap_id (by omega) (by omega) 
    obtain ⟨k17, hk17⟩ : ∃ x, k16 + 1 = x := ⟨_, rfl⟩ 
    have e16 : IntKind.i64.wrap (k16 + 1) = k17 := by rw [← hk17]; exact wrap_id (by omega) (by omega) 
    obtain ⟨k18, hk18⟩ : ∃ x, k17 + 1 = x := ⟨_, rfl⟩ 
    have e17 : IntKind.i64.wrap (k17 + 1) = k18 := by rw [← hk18]; exact wrap_id (by omega) (by omega)
    simp -implicitDefEqProofs [l_markReplyS_L0, l_markReplyS_L0b, hl, hw, hk0, e0, e1, m2, e2, u3, m4, e4, e5, u6, m7, e7, e8, e9, m10, e10, u11, u12, e13, u14, m15, e15, e16, e17]
    refine ⟨?_, ?_⟩ 
    · omega 
    · (try simp only [modify_two]) 
      refine fillM_set _ _ _ _ (by simp) (by simpa using hl) ?_ 
      simp [hg, mk_Rp, mk_i, mk_s, mk_b, hk1, hk2, hk3, hk4, hk5, hk6, hk7, hk8, hk9, hk10, hk11, hk12, hk13, hk14, hk15, hk16, hk17, hk18]
  · rw [List.take_length] 
    simp -implicitDefEqProofs [l_markReplyS_L0, l_markReplyS_L0b]
theorem c_l_markReplyS (l : List Rp) (k : Int) (hk : 0 ≤ k) (hn : k + (nL cn_Rp l : Nat) ≤ 1000000000000000) : ev LI TT 51 [.row .own 18 (l.map (eRp .own)), .int .i64 k] = some (.int .i64 (k + ((nL cn_Rp l : Nat) : Int)), [.row .own 18 ((mkL mk_Rp cn_Rp l k).map (eRp .own)), .dead]) := by
  rw [ev_run (b := l_markReplyS_b) (rs := [.t 4]) (n := 2) rfl rfl]
  have u1 := L_l_markReplyS l k hk hn 
  simp [nL] at u1
  simp -implicitDefEqProofs [l_markReplyS_b, u1, nL]
  all_goals (repeat' split) <;> first | rfl | omega | (simp_all; done) | (simp_all; omega) | skip
theorem c_l_markResp (a : Rsp) (k : Int) (hk : 0 ≤ k) (hn : k + (tn_Rsp a : Nat) ≤ 1000000000000000) : ev LI TT 23 [.agg (eRsp .own a), .int .i64 k] = some (.int .i64 (k + ((tn_Rsp a : Nat) : Int)), [.agg (eRsp .own (tm_Rsp a k)), .dead]) := by
  rw [ev_run (b := l_markResp_b) (rs := [.t 4]) (n := 2) rfl rfl]
  unfold tn_Rsp at hn 
  unfold tn_Rsp tm_Rsp 
  have u1 := c_l_markFieldS a.fields k (by omega) (by omega) 
  obtain ⟨k1, hk1⟩ : ∃ x, k + ((nL cn_Fld a.fields : Nat) : Int) = x := ⟨_, rfl⟩ 
  rw [hk1] at u1 
  try simp at u1 
  have hT : k + ((nL cn_Fld a.fields : Nat) : Int) = k1 := by omega 
  rw [hT]
  simp -implicitDefEqProofs [l_markResp_b, u1, hk1, callM, mutE, putM, mutPost, setB, putA, backL, giveOk, otherR]
  all_goals (repeat' split) <;> first | rfl | omega | (simp_all; done) | (simp_all; omega) | skip
theorem c_l_heldResp (a : Rsp) (k : Int) (hk : 0 ≤ k) (hn : k + (tn_Rsp a : Nat) ≤ 1000000000000000) : ev LI TT 24 [.agg (eRsp .bor (tm_Rsp a k)), .int .i64 k] = some (.int .i64 (k + ((tn_Rsp a : Nat) : Int)), [.dead, .dead]) := by
  rw [ev_run (b := l_heldResp_b) (rs := [.t 4]) (n := 2) rfl rfl]
  unfold tn_Rsp at hn 
  unfold tn_Rsp tm_Rsp 
  have u1 := c_l_heldFieldS a.fields k (by omega) (by omega) 
  obtain ⟨k1, hk1⟩ : ∃ x, k + ((nL cn_Fld a.fields : Nat) : Int) = x := ⟨_, rfl⟩ 
  rw [hk1] at u1 
  try simp at u1 
  have n1 : ¬ k1 < 0 := by omega 
  have hT : k + ((nL cn_Fld a.fields : Nat) : Int) = k1 := by omega 
  rw [hT]
  simp -implicitDefEqProofs [l_heldResp_b, u1, hk1, n1]
  all_goals (repeat' split) <;> first | rfl | omega | (simp_all; done) | (simp_all; omega) | skip
theorem c_l_markDisk (a : Dsk) (k : Int) (hk : 0 ≤ k) (hn : k + (tn_Dsk a : Nat) ≤ 1000000000000000) : ev LI TT 81 [.agg (eDsk .own a), .int .i64 k] = some (.int .i64 (k + ((tn_Dsk a : Nat) : Int)), [.agg (eDsk .own (tm_Dsk a k)), .dead]) := by
  rw [ev_run (b := l_markDisk_b) (rs := [.t 4]) (n := 2) rfl rfl]
  unfold tn_Dsk at hn 
  unfold tn_Dsk tm_Dsk 
  have u1 := c_l_markStringS a.cells k (by omega) (by omega) 
  obtain ⟨k1, hk1⟩ : ∃ x, k + ((nL cn_1 a.cells : Nat) : Int) = x := ⟨_, rfl⟩ 
  rw [hk1] at u1 
  try simp at u1 
  have u2 := c_l_markWriteS a.pending k1 (by omega) (by omega) 
  obtain ⟨k2, hk2⟩ : ∃ x, k1 + ((nL cn_Wr a.pending : Nat) : Int) = x := ⟨_, rfl⟩ 
  rw [hk2] at u2 
  try simp at u2 
  have hT : k + ((nL cn_1 a.cells + nL cn_Wr a.pending : Nat) : Int) = k2 := by omega 
  rw [hT]
  simp -implicitDefEqProofs [l_markDisk_b, u1, hk1, u2, hk2, callM, mutE, putM, mutPost, setB, putA, backL, giveOk, otherR]
  all_goals (repeat' split) <;> first | rfl | omega | (simp_all; done) | (simp_all; omega) | skip
theorem c_l_markShelf (a : Sh) (k : Int) (hk : 0 ≤ k) (hn : k + (tn_Sh a : Nat) ≤ 1000000000000000) : ev LI TT 48 [.agg (eSh .own a), .int .i64 k] = some (.int .i64 (k + ((tn_Sh a : Nat) : Int)), [.agg (eSh .own (tm_Sh a k)), .dead]) := by
  rw [ev_run (b := l_markShelf_b) (rs := [.t 4]) (n := 2) rfl rfl]
  unfold tn_Sh at hn 
  unfold tn_Sh tm_Sh 
  have u1 := c_l_markDisk a.disk k (by omega) (by omega) 
  obtain ⟨k1, hk1⟩ : ∃ x, k + ((tn_Dsk a.disk : Nat) : Int) = x := ⟨_, rfl⟩ 
  rw [hk1] at u1 
  try simp at u1 
  have u2 := c_l_markKeptS a.objs k1 (by omega) (by omega) 
  obtain ⟨k2, hk2⟩ : ∃ x, k1 + ((nL cn_Kp a.objs : Nat) : Int) = x := ⟨_, rfl⟩ 
  rw [hk2] at u2 
  try simp at u2 
  have u3 := c_l_markBanS a.bans k2 (by omega) (by omega) 
  obtain ⟨k3, hk3⟩ : ∃ x, k2 + ((nL cn_Bn a.bans : Nat) : Int) = x := ⟨_, rfl⟩ 
  rw [hk3] at u3 
  try simp at u3 
  have hT : k + ((tn_Dsk a.disk + nL cn_Kp a.objs + nL cn_Bn a.bans : Nat) : Int) = k3 := by omega 
  rw [hT]
  simp -implicitDefEqProofs [l_markShelf_b, u1, hk1, u2, hk2, u3, hk3, callM, mutE, putM, mutPost, setB, putA, backL, giveOk, otherR, tm_Dsk]
  all_goals (repeat' split) <;> first | rfl | omega | (simp_all; done) | (simp_all; omega) | skip
theorem c_l_markCache (a : Ca) (k : Int) (hk : 0 ≤ k) (hn : k + (tn_Ca a : Nat) ≤ 1000000000000000) : ev LI TT 17 [.agg (eCa .own a), .int .i64 k] = some (.int .i64 (k + ((tn_Ca a : Nat) : Int)), [.agg (eCa .own (tm_Ca a k)), .dead]) := by
  rw [ev_run (b := l_markCache_b) (rs := [.t 4]) (n := 2) rfl rfl]
  unfold tn_Ca at hn 
  unfold tn_Ca tm_Ca 
  have u1 := c_l_markShelf a.shelf k (by omega) (by omega) 
  obtain ⟨k1, hk1⟩ : ∃ x, k + ((tn_Sh a.shelf : Nat) : Int) = x := ⟨_, rfl⟩ 
  rw [hk1] at u1 
  try simp at u1 
  have u2 := c_l_markFlightS a.flights k1 (by omega) (by omega) 
  obtain ⟨k2, hk2⟩ : ∃ x, k1 + ((nL cn_Fl a.flights : Nat) : Int) = x := ⟨_, rfl⟩ 
  rw [hk2] at u2 
  try simp at u2 
  have u3 := c_l_markSeenS a.seen k2 (by omega) (by omega) 
  obtain ⟨k3, hk3⟩ : ∃ x, k2 + ((nL cn_Se a.seen : Nat) : Int) = x := ⟨_, rfl⟩ 
  rw [hk3] at u3 
  try simp at u3 
  have u4 := c_l_markReplyS a.sent k3 (by omega) (by omega) 
  obtain ⟨k4, hk4⟩ : ∃ x, k3 + ((nL cn_Rp a.sent : Nat) : Int) = x := ⟨_, rfl⟩ 
  rw [hk4] at u4 
  try simp at u4 
  have hT : k + ((tn_Sh a.shelf + nL cn_Fl a.flights + nL cn_Se a.seen + nL cn_Rp a.sent : Nat) : Int) = k4 := by omega 
  rw [hT]
  simp -implicitDefEqProofs [l_markCache_b, u1, hk1, u2, hk2, u3, hk3, u4, hk4, callM, mutE, putM, mutPost, setB, putA, backL, giveOk, otherR, tm_Sh]
  all_goals (repeat' split) <;> first | rfl | omega | (simp_all; done) | (simp_all; omega) | skip
end M
set_option linter.unusedVariables false
set_option linter.unusedSimpArgs false
namespace M
open Go
end M
set_option linter.unusedVariables false
set_option linter.unusedSimpArgs false
namespace M
open Go
def nsp (b : UInt8) : Bool := decide ¬ (b.toNat : Int) = 32
end M
set_option linter.unusedVariables false
set_option linter.unusedSimpArgs false
namespace M
open Go
theorem nsp_iff (b : UInt8) : nsp b = true ↔ b ≠ 32 := by
  unfold nsp
  have : ((b.toNat : Int) = 32) ↔ b = 32 := by
    constructor
    · intro h; exact UInt8.toNat_inj.1 (by have e : (32 : UInt8).toNat = 32 := rfl; omega)
    · rintro rfl; rfl
  simp [this]
theorem trimL_until (s : Str) : Lib.trimLeftB s 32 = s.drop (untilI nsp s) := by
  refine Lib.trimLeftB_drop s 32 _ (untilI_le _ _) (fun j b hj hb => ?_) fun b hb => (nsp_iff b).1 (untilI_at _ _ _ hb)
  have := untilI_before _ _ _ _ hj hb
  by_cases h : b = 32
  · exact h
  · rw [(nsp_iff b).2 h] at this; cases this
theorem trimR_until (s : Str) : Lib.trimRightB s 32 = s.take (s.length - untilI nsp s.reverse) := by
  have h := trimL_until s.reverse
  unfold Lib.trimLeftB at h
  unfold Lib.trimRightB
  rw [h, List.drop_reverse, List.reverse_reverse]
theorem trimS_cut (s : Str) : (s.drop (untilI nsp s)).take (s.length - untilI nsp (s.drop (untilI nsp s)).reverse - untilI nsp s) = trimS s := by
  rw [trimS_left, trimL_until, trimR_until, List.length_drop]
  congr 1
  omega
end M
set_option linter.unusedVariables false
set_option linter.unusedSimpArgs false
namespace M
open Go
def lowOut (s : Str) : Str := lowS s
theorem set_low (s : Str) (i : Nat) (h : i < s.length) (x : UInt8) (hx : x = lowB s[i]) : (lowS (s.take i) ++ s.drop i).set i x = lowS (s.take (i + 1)) ++ s.drop (i + 1) := by
  subst hx
  rw [List.set_append_right _ _ (by simp [lowS]; omega), List.drop_eq_getElem_cons h]
  have : i - (lowS (s.take i)).length = 0 := by simp [lowS]; omega
  rw [this, List.take_succ_eq_append_getElem h]
  simp only [List.set_cons_zero, lowS, List.map_append, List.map_cons, List.map_nil, List.append_assoc, List.cons_append, List.nil_append]
theorem set_same_low (s : Str) (i : Nat) (h : i < s.length) (hx : lowB s[i] = s[i]) : lowS (s.take i) ++ s.drop i = lowS (s.take (i + 1)) ++ s.drop (i + 1) := by
  rw [List.take_succ_eq_append_getElem h, List.drop_eq_getElem_cons h]
  simp only [lowS, hx, List.map_append, List.map_cons, List.map_nil, List.append_assoc, List.cons_append, List.nil_append]
theorem eU_set (l : Str) (i : Nat) (x : Int) (b : UInt8) (hx : x = (b.toNat : Int)) : (l.map eU).modify i (fun e => e.set 0 (X.int .u8 x)) = (l.set i b).map eU := by
  subst hx
  apply List.ext_getElem?
  intro j
  rw [List.getElem?_modify, List.getElem?_map, List.getElem?_map, List.getElem?_set]
  by_cases h : i = j
  · subst h
    by_cases h2 : i < l.length
    · simp [h2]
    · simp [h2, List.getElem?_eq_none (Nat.le_of_not_lt h2)]
  · simp only [h, if_false]
    cases l[j]? <;> rfl
end M
set_option linter.unusedVariables false
set_option linter.unusedSimpArgs false
namespace M
open Go
theorem numText_len (n : Int) : (numText n).length ≤ 7 := by
  unfold numText
  split
  · exact digS_len7 _ (by omega)
  · simp
theorem foldI_foldl {β γ : Type} (go : γ → β → γ) : ∀ (l : List β) (i : Nat) (g : γ), foldI (fun _ g b => go g b) i l g = l.foldl go g
  | [], _, _ => rfl
  | b :: l, i, g => by rw [foldI, foldI_foldl go l, List.foldl_cons]
end M
set_option linter.unusedVariables false
set_option linter.unusedSimpArgs false
namespace M
open Go
def spF (w : Str) : List Str := if trimS w ≠ [] then [trimS w] else []
theorem opt_cases (s : Str) (i : Nat) (h : i < (s.map some ++ [none]).length) : (∃ hi : i < s.length, (s.map some ++ [none])[i] = some s[i]) ∨ (i = s.length ∧ (s.map some ++ [none])[i] = none) := by
  by_cases hi : i < s.length
  · refine .inl ⟨hi, ?_⟩
    rw [List.getElem_append_left (by simpa using hi)]
    simp
  · simp at h
    obtain rfl : i = s.length := by omega
    refine .inr ⟨rfl, ?_⟩
    rw [List.getElem_append_right (by simp)]
    simp
theorem spF_len (w : Str) : (spF w).length ≤ 1 := by unfold spF; split <;> simp
theorem goW_inv (c : UInt8) (f : Str → List Str) (hf : ∀ w, (f w).length ≤ 1) (s : Str) (i : Nat) (g : List Str × Nat) (b : Option UInt8) (h : g.2 ≤ i ∧ g.1.length ≤ i) : (goW c f s i g b).2 ≤ i + 1 ∧ (goW c f s i g b).1.length ≤ i + 1 := by
  unfold goW
  have := hf ((s.take i).drop g.2)
  split
  · split
    · simp; omega
    · omega
  · simp; omega
end M
set_option linter.unusedVariables false
set_option linter.unusedSimpArgs false
namespace M
open Go
end M
set_option linter.unusedVariables false
set_option linter.unusedSimpArgs false
namespace M
open Go
theorem nmCL_eq : (⟨#[99, 111, 110, 116, 101, 110, 116, 45, 108, 101, 110, 103, 116, 104]⟩ : ByteArray) = ⟨nmCL.toArray⟩ := rfl
theorem fld_modify (fs : List Fld) (i : Nat) (h : i < fs.length) (v : Str) : (fs.map eFld).modify i (fun e => e.set 1 (X.str ⟨v.toArray⟩)) = (fs.set i ⟨fs[i].name, v⟩).map eFld := by
  apply List.ext_getElem?
  intro j
  rw [List.getElem?_modify, List.getElem?_map, List.getElem?_map, List.getElem?_set]
  by_cases hij : i = j
  · subst hij
    simp [h]
  · simp only [hij, if_false]
    cases fs[j]? <;> rfl
theorem fld_scalars (fs : List Fld) : scalarsB (fs.map eFld) = true := by induction fs <;> simp_all [scalarsB, scalar]
theorem c_s_l9Copy (fs : List Fld) (hb : fs.length ≤ 1073741824) : ev LI TT 86 [.row .bor 2 (fs.map eFld)] = some (.row .own 2 (fs.map eFld), [.dead]) := by
  rw [ev_run (b := s_l9Copy_b) (rs := [.t 2]) (n := 1) rfl rfl]
  simp -implicitDefEqProofs [s_l9Copy_b, fld_scalars fs, rowAt, (by omega : fs.length * 32 ≤ 140737488355328)]
  all_goals (repeat' split) <;> first | rfl | omega | (simp_all; done) | (simp_all; omega) | skip
theorem c_s_l9Resp (r : Rsp) (hb : r.fields.length ≤ 1073741824) : ev LI TT 52 [.agg (eRsp .bor r)] = some (.agg (eRsp .own r), [.dead]) := by
  rw [ev_run (b := s_l9Resp_b) (rs := [.c 2 3 true 64]) (n := 1) rfl rfl]
  have u1 := c_s_l9Copy  r.fields hb
  try simp at u1
  simp -implicitDefEqProofs [s_l9Resp_b, u1]
  all_goals (repeat' split) <;> first | rfl | omega | (simp_all; done) | (simp_all; omega) | skip
theorem c_i_copyResp (r : Rsp) (hb : r.fields.length ≤ 1073741824) : ev LI TT 53 [.agg (eRsp .bor r)] = some (.agg (eRsp .own r), [.dead]) := by
  rw [ev_run (b := i_copyResp_b) (rs := [.c 2 3 true 64]) (n := 1) rfl rfl]
  have u1 := k_x_slices_Clone_impl_Field_impl_Field r.fields hb
  try simp at u1
  simp -implicitDefEqProofs [i_copyResp_b, u1]
  all_goals (repeat' split) <;> first | rfl | omega | (simp_all; done) | (simp_all; omega) | skip
end M
set_option linter.unusedVariables false
set_option linter.unusedSimpArgs false
namespace M
open Go
def servedO (c : Ca) (k : Int) : Option (Nat × Rp) := firstI (fun x => decide (x.client = k)) 0 c.sent
def servedR (c : Ca) (k : Int) : Rsp := (servedO c k).elim ⟨0, [], []⟩ fun x => x.2.resp
def servedB (c : Ca) (k : Int) : Bool := (servedO c k).isSome
theorem sent_w {c : Ca} {x : Rp} (hx : x ∈ c.sent) : wRsp x.resp ≤ wCa c := by
  have h1 := wL_mem (w := wRp) hx
  have h2 : wRp x = wRq x.q + wRsp x.resp + wOb x.obj := rfl
  have h5 : wL wRp c.sent ≤ wCa c := by unfold wCa; omega
  omega
theorem sent_f {c : Ca} {x : Rp} (hx : x ∈ c.sent) : x.resp.fields.length ≤ wCa c := by
  have h1 := sent_w hx
  have h2 : wRsp x.resp = wL wFld x.resp.fields + x.resp.body.length := rfl
  have h3 := wL_len (w := wFld) x.resp.fields
  omega
theorem sent_len (c : Ca) : c.sent.length ≤ wCa c := by
  have h4 := wL_len (w := wRp) c.sent
  have h5 : wL wRp c.sent ≤ wCa c := by unfold wCa; omega
  omega
theorem servedR_w (c : Ca) (k : Int) : wRsp (servedR c k) ≤ wCa c := by
  unfold servedR
  cases h : servedO c k with
  | none => simp [wRsp, wL]
  | some x => exact sent_w (List.mem_of_getElem? (firstI_some (i := x.1) (b := x.2) h).2.1)
theorem L_s_Served (c : Ca) (k : Int) (hc : wCa c ≤ 1048576) : loopW (evA (ev LI TT) (okT TT) s_Served_L0) [(1, .int .i64 k), (2, .ptr .own (eCa .bor c)), (4, .ptr .own [.int .i64 0, .row .own 2 [], .str ⟨#[]⟩]), (6, .int .i64 0)] = (firstI (fun x => decide (x.client = k)) 0 (c.sent)).elim (some (.exit 0, [(1, .int .i64 k), (2, .ptr .own (eCa .bor c)), (4, .ptr .own [.int .i64 0, .row .own 2 [], .str ⟨#[]⟩]), (6, .int .i64 (c.sent).length), (11, .bool false)])) fun x => some (.ret, (fun (i : Nat) b => [(4, .ptr .own (eRsp .own (b).resp)), (5, .bool true)]) x.1 x.2) := by
  refine loop_first (f := evA (ev LI TT) (okT TT) s_Served_L0) (c.sent) (fun i => [(1, .int .i64 k), (2, .ptr .own (eCa .bor c)), (4, .ptr .own [.int .i64 0, .row .own 2 [], .str ⟨#[]⟩]), (6, .int .i64 i)]) (fun x => decide (x.client = k)) (fun (i : Nat) b => [(4, .ptr .own (eRsp .own (b).resp)), (5, .bool true)]) _ (fun i b hi hl => ?_) ?_
  · have hw := wrap_succ i (by have := sent_len c; omega)
    obtain ⟨_, rfl⟩ := List.getElem?_eq_some_iff.1 hi
    have u1 := c_s_l9Resp  (c.sent[i]).resp (by have := sent_f (List.getElem_mem hl); omega)
    try simp at u1
    simp -implicitDefEqProofs [s_Served_L0, s_Served_L0b, hl, hw, u1]
  · simp -implicitDefEqProofs [s_Served_L0, s_Served_L0b]
theorem c_s_Served (c : Ca) (k : Int) (hc : wCa c ≤ 1048576) : ev LI TT 20 [.agg (eCa .bor c), .int .i64 k] = some (.tup [.agg (eRsp .own (servedR c k)), .bool (servedB c k)], [.dead, .dead]) := by
  rw [ev_run (b := s_Served_b) (rs := [.c 4 3 true 64, .t 5]) (n := 2) rfl rfl]
  have u1 := L_s_Served  c k hc
  try simp at u1
  unfold servedR servedB servedO 
  cases g : firstI (fun x => decide (x.client = k)) 0 c.sent with 
  | none => rw [g] at u1; simp at u1; simp -implicitDefEqProofs [s_Served_b, u1] 
  | some x => 
  rw [g] at u1 
  simp at u1
  simp -implicitDefEqProofs [s_Served_b, u1]
  all_goals (repeat' split) <;> first | rfl | omega | (simp_all; done) | (simp_all; omega) | skip
theorem L_i_Served (c : Ca) (k : Int) (hc : wCa c ≤ 1048576) : loopW (evA (ev LI TT) (okT TT) i_Served_L0) [(1, .int .i64 k), (2, .ptr .own (eCa .bor c)), (4, .ptr .own [.int .i64 0, .row .own 2 [], .str ⟨#[]⟩]), (8, .adr 2 [] 0 9), (9, .row .bor 18 (c.sent.map (eRp .bor))), (10, .int .i64 c.sent.length), (11, .int .i64 0)] = (firstI (fun x => decide (x.client = k)) 0 (c.sent)).elim (some (.exit 0, [(1, .int .i64 k), (2, .ptr .own (eCa .bor c)), (4, .ptr .own [.int .i64 0, .row .own 2 [], .str ⟨#[]⟩]), (8, .adr 2 [] 0 9), (9, .row .bor 18 (c.sent.map (eRp .bor))), (10, .int .i64 c.sent.length), (11, .int .i64 (c.sent).length), (12, .bool false)])) fun x => some (.ret, (fun (i : Nat) b => [(4, .ptr .own (eRsp .own (b).resp)), (5, .bool true)]) x.1 x.2) := by
  refine loop_first (f := evA (ev LI TT) (okT TT) i_Served_L0) (c.sent) (fun i => [(1, .int .i64 k), (2, .ptr .own (eCa .bor c)), (4, .ptr .own [.int .i64 0, .row .own 2 [], .str ⟨#[]⟩]), (8, .adr 2 [] 0 9), (9, .row .bor 18 (c.sent.map (eRp .bor))), (10, .int .i64 c.sent.length), (11, .int .i64 i)]) (fun x => decide (x.client = k)) (fun (i : Nat) b => [(4, .ptr .own (eRsp .own (b).resp)), (5, .bool true)]) _ (fun i b hi hl => ?_) ?_
  · have hw := wrap_succ i (by have := sent_len c; omega)
    obtain ⟨_, rfl⟩ := List.getElem?_eq_some_iff.1 hi
    have u1 := c_i_copyResp  (c.sent[i]).resp (by have := sent_f (List.getElem_mem hl); omega)
    try simp at u1
    simp -implicitDefEqProofs [i_Served_L0, i_Served_L0b, hl, hw, u1]
  · simp -implicitDefEqProofs [i_Served_L0, i_Served_L0b]
theorem c_i_Served (c : Ca) (k : Int) (hc : wCa c ≤ 1048576) : ev LI TT 21 [.agg (eCa .bor c), .int .i64 k] = some (.tup [.agg (eRsp .own (servedR c k)), .bool (servedB c k)], [.dead, .dead]) := by
  rw [ev_run (b := i_Served_b) (rs := [.c 4 3 true 64, .t 5]) (n := 2) rfl rfl]
  have u1 := L_i_Served  c k hc
  try simp at u1
  unfold servedR servedB servedO 
  cases g : firstI (fun x => decide (x.client = k)) 0 c.sent with 
  | none => rw [g] at u1; simp at u1; simp -implicitDefEqProofs [i_Served_b, u1] 
  | some x => 
  rw [g] at u1 
  simp at u1
  simp -implicitDefEqProofs [i_Served_b, u1]
  all_goals (repeat' split) <;> first | rfl | omega | (simp_all; done) | (simp_all; omega) | skip
theorem sc_eI (l : List Int) : scalarsB (l.map eI) = true := by induction l <;> simp_all [scalarsB, scalar]
theorem flights_w {c : Ca} : wL wFl c.flights ≤ wCa c := by unfold wCa; omega
theorem who_len : ∀ l : List Fl, (l.flatMap (·.who)).length + l.length ≤ wL wFl l
  | [] => by simp [wL]
  | f :: l => by
    have ih := who_len l
    have h : wFl f = wRq f.q + wL wO f.who + wOb f.old := rfl
    have h2 := wL_len (w := wO) f.who
    have h3 : wL wFl (f :: l) = wFl f + 1 + wL wFl l := by simp only [wL, List.length_cons, List.map_cons, List.sum_cons]; omega
    rw [h3, List.flatMap_cons, List.length_append, List.length_cons]
    omega
theorem who_take (l : List Fl) (i : Nat) (hl : i < l.length) : ((l.take i).flatMap (·.who)).length + (l[i]).who.length ≤ wL wFl l := by
  have h1 := who_len l
  have h2 : l.flatMap (·.who) = (l.take i).flatMap (·.who) ++ (l.drop i).flatMap (·.who) := by rw [← List.flatMap_append, List.take_append_drop]
  have h3 : l.drop i = l[i] :: l.drop (i + 1) := List.drop_eq_getElem_cons hl
  rw [h2, h3, List.length_append, List.flatMap_cons, List.length_append] at h1
  omega
end M
set_option linter.unusedVariables false
set_option linter.unusedSimpArgs false
set_option maxHeartbeats 4000000
namespace M
open Go
theorem law_FnExactServed (a0 : Ca) (k0 : bCa a0) (a1 : Int) (k1 : bI a1) : ∃ ps, ev LI TT 5 [.agg (eCa .sl a0), .int .i64 a1] = some (.bool true, ps) := by
  rw [ev_run (b := l_FnExactServed_b) (rs := [.t 4]) (n := 2) rfl rfl]
  have s0 := c_l_szCache a0 1048576 k0 (by omega) (by omega)
  have w0 := subW_or 1048576 (wCa a0)
  obtain ⟨m0, e0⟩ : ∃ m, m = subW 1048576 (wCa a0) := ⟨_, rfl⟩
  rw [← e0] at s0 w0
  try simp at s0
  by_cases z0 : m0 < 0
  · simp -implicitDefEqProofs [l_FnExactServed_b, s0, z0]
  have t0 := c_l_toCache a0 (by omega)
  try simp at t0
  have q0 := c_l_eqCache a0 a0 (by omega)
  try simp at q0
  have hS := c_s_Served a0 a1 (by omega)
  have hI := c_i_Served a0 a1 (by omega)
  try simp at hS
  try simp at hI
  have b0 : wRsp (servedR a0 a1) ≤ 1073741824 := Nat.le_trans (servedR_w a0 a1) (by omega)
  have r0 := c_l_eqResp (servedR a0 a1) (servedR a0 a1) (by omega)
  try simp at r0
  have cl1 := tn_Ca_le a0
  have mk1 := c_l_markCache a0 1 (by omega) (by omega)
  obtain ⟨K1, hK1⟩ : ∃ x : Int, 1 + ((tn_Ca a0 : Nat) : Int) = x := ⟨_, rfl⟩
  rw [hK1] at mk1
  try simp at mk1
  have hKn : ¬ K1 < 0 := by omega
  have cr1 := tn_Rsp_le (servedR a0 a1)
  have mr1 := c_l_markResp (servedR a0 a1) 1 (by omega) (by omega)
  have hr1 := c_l_heldResp (servedR a0 a1) 1 (by omega) (by omega)
  obtain ⟨R1, hR1⟩ : ∃ x : Int, 1 + ((tn_Rsp (servedR a0 a1) : Nat) : Int) = x := ⟨_, rfl⟩
  rw [hR1] at mr1 hr1
  try simp at mr1
  try simp at hr1
  have hRn1 : ¬ R1 < 0 := by omega
  simp -implicitDefEqProofs [l_FnExactServed_b, s0, z0, t0, q0, hS, hI, r0, mk1, hKn, mr1, hr1, hRn1, putA, backL, giveOk, otherR]
end M
