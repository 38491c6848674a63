/- What the functions come to in the machine; no conditions. -/
import Derived.Test.YtcpbpjanigljcaaGreatDoorTab
import Derived.Test.YtcpbpjanigljcaaGreatDoorMd
set_option linter.unusedSectionVars false
set_option linter.unusedVariables false
set_option linter.unusedSimpArgs false
namespace M
open Go
theorem L_l_szStringS (l : List Str) (hlen : l.length ≤ 9223372036854775807) (hb : bL bS l) (n : Int) (hn : 0 ≤ n) (hm : n ≤ 9223372036854775807) : loopW (evA (ev LI TT) (okT TT) l_szStringS_L0) [(0, .row .bor 1 (l.map (eS))), (1, .int .i64 n), (5, .int .i64 0)] = if szL (fun b n => subW n (wS b)) (l) n < 0 then some (.ret, [(4, .int .i64 (-1))]) else some (.exit 0, [(0, .row .bor 1 (l.map (eS))), (1, .int .i64 (szL (fun b n => subW n (wS b)) (l) n)), (5, .int .i64 (l).length), (15, .bool false)]) := by
  refine loop_sz (f := evA (ev LI TT) (okT TT) l_szStringS_L0) (l) (fun i n => [(0, .row .bor 1 (l.map (eS))), (1, .int .i64 n), (5, .int .i64 i)]) (fun b n => subW n (wS b)) _ (fun n => [(0, .row .bor 1 (l.map (eS))), (1, .int .i64 n), (5, .int .i64 (l).length), (15, .bool false)]) n hn hm (fun b n => subW_le _ n) (fun i b n hi hl hn hm => ?_) (fun n => ?_)
  · have hw := wrap_succ i (by first | omega | (simp at hl; omega))
    obtain ⟨_, rfl⟩ := List.getElem?_eq_some_iff.1 hi
    have h1 : (l[i]).length ≤ 9223372036854775807 := hb.2 _ (List.getElem_mem hl) 
    have h3 := subW_or n (wS l[i]) 
    have h4 : wS l[i] = (l[i]).length := rfl 
    obtain ⟨m, e1⟩ : ∃ m, m = n - ((l[i]).length : Int) := ⟨_, rfl⟩ 
    have h2 : IntKind.i64.wrap (n - ((l[i]).length : Int)) = m := by rw [e1]; exact wrap_id (by omega) (by omega) 
    by_cases h5 : m < 0 
    · have ef : subW n (wS l[i]) = -1 := by omega 
      simp -implicitDefEqProofs [l_szStringS_L0, l_szStringS_L0b, hl, hw, h2, h5, ef] 
    have ef : subW n (wS l[i]) = m := by omega
    simp -implicitDefEqProofs [l_szStringS_L0, l_szStringS_L0b, hl, hw, h2, h5, ef]
  · simp -implicitDefEqProofs [l_szStringS_L0, l_szStringS_L0b]
theorem c_l_szStringS (l : List Str) (n : Int) (hb : bL bS l) (hn : 0 ≤ n) (hm : n ≤ 9223372036854775807) : ev LI TT 65 [.row .bor 1 (l.map (eS)), .int .i64 n] = some (.int .i64 (subW n (wL wS l)), [.dead, .dead]) := by
  rw [ev_run (b := l_szStringS_b) (rs := [.t 4]) (n := 2) rfl rfl]
  have hl := hb.1 
  have hw : wL wS l = l.length + (l.map wS).sum := rfl 
  have ht := subW_or n (wL wS l) 
  obtain ⟨m, e1⟩ : ∃ m, m = n - (l.length : Int) := ⟨_, rfl⟩ 
  have h2 : IntKind.i64.wrap (n - (l.length : Int)) = m := by rw [e1]; exact wrap_id (by omega) (by omega) 
  by_cases h : m < 0 
  · have ef : subW n (wL wS l) = -1 := by omega 
    simp -implicitDefEqProofs [l_szStringS_b, h2, h, ef] 
  have h3 := L_l_szStringS  l hb.1 hb m (by omega) (by omega) 
  rw [szL_subW _ _ _ (by omega)] at h3 
  have hs := subW_or m (l.map wS).sum 
  obtain ⟨q, e2⟩ : ∃ q, q = subW m (l.map wS).sum := ⟨_, rfl⟩ 
  rw [← e2] at h3 hs 
  try simp at h3 
  by_cases h4 : q < 0 
  · have ef : subW n (wL wS l) = -1 := by omega 
    simp only [h4, if_true] at h3 
    simp -implicitDefEqProofs [l_szStringS_b, h2, h, h3, ef] 
  have ef : subW n (wL wS l) = q := by omega 
  simp only [h4, if_false] at h3
  simp -implicitDefEqProofs [l_szStringS_b, h2, h, h3, ef]
  all_goals (repeat' split) <;> first | rfl | omega | (simp_all; done) | (simp_all; omega) | skip
theorem L_l_toStringS (l : List Str) (hlen : l.length ≤ 1048576) (hb : wL wS l ≤ 1048576) : loopW (evA (ev LI TT) (okT TT) l_toStringS_L0) [(0, .row .bor 1 (l.map eS)), (3, .row .own 1 (fillN (l.map eS) 0 [.str ⟨#[]⟩])), (4, .int .i64 0), (6, .int .i64 l.length)] = some (.exit 0, [(0, .row .bor 1 (l.map eS)), (3, .row .own 1 (l.map eS)), (4, .int .i64 (l).length), (6, .int .i64 l.length), (11, .bool false)]) := by
  refine loop_count (f := evA (ev LI TT) (okT TT) l_toStringS_L0) (l) (fun i => [(0, .row .bor 1 (l.map eS)), (3, .row .own 1 (fillN (l.map eS) i [.str ⟨#[]⟩])), (4, .int .i64 i), (6, .int .i64 l.length)]) _ (fun i b hi hl => ?_) ?_
  · have hw := wrap_succ i (by first | omega | (simp at hl; omega))
    obtain ⟨_, rfl⟩ := List.getElem?_eq_some_iff.1 hi
    skip
    simp -implicitDefEqProofs [l_toStringS_L0, l_toStringS_L0b, hl, hw]
    first | done | (rw [fillN_set _ _ _ _ (by simpa using hl) (by simp)]; done) | (simp only [modify_two]; rw [fillN_set _ _ _ _ (by simpa using hl) (by simp)])
  · simp -implicitDefEqProofs [l_toStringS_L0, l_toStringS_L0b]
theorem c_l_toStringS (l : List Str) (hb : wL wS l ≤ 1048576) : ev LI TT 71 [.row .bor 1 (l.map eS)] = some (.row .own 1 (l.map eS), [.dead]) := by
  rw [ev_run (b := l_toStringS_b) (rs := [.t 2]) (n := 1) rfl rfl]
  have hlen := wL_len (w := wS) l 
  have h := L_l_toStringS  l (by omega) hb 
  try simp at h
  simp -implicitDefEqProofs [l_toStringS_b, h, (by omega : (l.length : Int) * 16 ≤ 140737488355328)]
  all_goals (repeat' split) <;> first | rfl | omega | (simp_all; done) | (simp_all; omega) | skip
theorem L_l_eqStringS (ps : List (Str × Str)) (hb : ps.length ≤ 9223372036854775807) (hb1 : ∀ x ∈ ps, wS x.1 ≤ 1073741824) : loopW (evA (ev LI TT) (okT TT) l_eqStringS_L0) [(0, .row .bor 1 (ps.map (fun x : Str × Str => eS x.1))), (1, .row .bor 1 (ps.map (fun x : Str × Str => eS x.2))), (5, .int .i64 0)] = if allB eqB (ps) = true then some (.exit 0, [(0, .row .bor 1 (ps.map (fun x : Str × Str => eS x.1))), (1, .row .bor 1 (ps.map (fun x : Str × Str => eS x.2))), (5, .int .i64 ps.length), (14, .bool false)]) else some (.ret, [(4, .bool false)]) := by
  refine loop_all (f := evA (ev LI TT) (okT TT) l_eqStringS_L0) (ps) (fun i => [(0, .row .bor 1 (ps.map (fun x : Str × Str => eS x.1))), (1, .row .bor 1 (ps.map (fun x : Str × Str => eS x.2))), (5, .int .i64 i)]) eqB _ _ (fun i b hi hl => ?_) ?_
  · have hw := wrap_succ i (by first | omega | (simp at hl; omega))
    obtain ⟨_, rfl⟩ := List.getElem?_eq_some_iff.1 hi
    simp -implicitDefEqProofs [l_eqStringS_L0, l_eqStringS_L0b, hl, hw, eqB]
    first | done | (split <;> simp_all)
  · simp -implicitDefEqProofs [l_eqStringS_L0, l_eqStringS_L0b]
theorem c_l_eqStringS (a b : List Str) (hb : wL wS a ≤ 1073741824) : ev LI TT 84 [.row .bor 1 (a.map eS), .row .bor 1 (b.map eS)] = some (.bool (decide (a = b)), [.dead, .dead]) := by
  rw [ev_run (b := l_eqStringS_b) (rs := [.t 4]) (n := 2) rfl rfl]
  simp -implicitDefEqProofs [l_eqStringS_b]
  have hlen := wL_len (w := wS) a 
  by_cases h : a.length = b.length 
  · obtain ⟨ps, rfl, rfl⟩ := zip_ex h 
    have h1 := L_l_eqStringS  ps (by simp at hlen; omega) (fun x hx => Nat.le_trans (wL_mem (List.mem_map_of_mem hx)) hb) 
    have h2 := allB_eq ps 
    simp at h1 
    rw [← h2] 
    cases h3 : allB eqB ps <;> rw [h3] at h1 <;> simp [h1, Function.comp_def] 
  · have : ¬ a = b := fun e => h (by rw [e]) 
    simp [this] 
    omega
theorem c_l_szWrite (a : Wr) (n : Int) (hb : bWr a) (hn : 0 ≤ n) (hm : n ≤ 9223372036854775807) : ev LI TT 113 [.agg (eW a), .int .i64 n] = some (.int .i64 (subW n (wWr a)), [.dead, .dead]) := by
  rw [ev_run (b := l_szWrite_b) (rs := [.t 4]) (n := 2) rfl rfl]
  have hw : wWr a = a.text.length := rfl 
  have ht := subW_or n (wWr a) 
  have hl1 : a.text.length ≤ 9223372036854775807 := hb.k_text 
  obtain ⟨m1, e1⟩ : ∃ m, m = n - (a.text.length : Int) := ⟨_, rfl⟩ 
  have c1 : IntKind.i64.wrap (n - (a.text.length : Int)) = m1 := by rw [e1]; exact wrap_id (by omega) (by omega) 
  by_cases h1 : m1 < 0 
  · have ef : subW n (wWr a) = -1 := by omega 
    simp -implicitDefEqProofs [l_szWrite_b, c1, h1, ef] 
  have ef : subW n (wWr a) = m1 := by omega
  simp -implicitDefEqProofs [l_szWrite_b, c1, h1, ef]
  all_goals (repeat' split) <;> first | rfl | omega | (simp_all; done) | (simp_all; omega) | skip
theorem c_l_toWrite (a : Wr) (hb : wWr a ≤ 1048576) : ev LI TT 115 [.agg (eW a)] = some (.agg (eW a), [.dead]) := by
  rw [ev_run (b := l_toWrite_b) (rs := [.c 2 2 true 185]) (n := 1) rfl rfl]
  have hw : wWr a = a.text.length := rfl
  simp -implicitDefEqProofs [l_toWrite_b, hw]
  all_goals (repeat' split) <;> first | rfl | omega | (simp_all; done) | (simp_all; omega) | skip
theorem c_l_eqWrite (a b : Wr) (hb : wWr a ≤ 1073741824) : ev LI TT 125 [.agg (eW a), .agg (eW b)] = some (.bool (decide (a = b)), [.dead, .dead]) := by
  rw [ev_run (b := l_eqWrite_b) (rs := [.t 4]) (n := 2) rfl rfl]
  have hw : wWr a = a.text.length := rfl 
  rw [dec_Wr] 
  by_cases g1 : a.at_ = b.at_ 
  rotate_left 
  · simp -implicitDefEqProofs [l_eqWrite_b, eq_false g1] 
  by_cases g2 : a.text = b.text 
  rotate_left 
  · simp -implicitDefEqProofs [l_eqWrite_b, eq_true g1, eq_false g2]
  simp -implicitDefEqProofs [l_eqWrite_b, eq_true g1, eq_true g2]
  all_goals (repeat' split) <;> first | rfl | omega | (simp_all; done) | (simp_all; omega) | skip
theorem L_l_szWriteS (l : List Wr) (hlen : l.length ≤ 9223372036854775807) (hb : bL bWr l) (n : Int) (hn : 0 ≤ n) (hm : n ≤ 9223372036854775807) : loopW (evA (ev LI TT) (okT TT) l_szWriteS_L0) [(0, .row .bor 2 (l.map (eW))), (1, .int .i64 n), (5, .int .i64 0)] = if szL (fun b n => subW n (wWr b)) (l) n < 0 then some (.ret, [(4, .int .i64 (-1))]) else some (.exit 0, [(0, .row .bor 2 (l.map (eW))), (1, .int .i64 (szL (fun b n => subW n (wWr b)) (l) n)), (5, .int .i64 (l).length), (15, .bool false)]) := by
  refine loop_sz (f := evA (ev LI TT) (okT TT) l_szWriteS_L0) (l) (fun i n => [(0, .row .bor 2 (l.map (eW))), (1, .int .i64 n), (5, .int .i64 i)]) (fun b n => subW n (wWr b)) _ (fun n => [(0, .row .bor 2 (l.map (eW))), (1, .int .i64 n), (5, .int .i64 (l).length), (15, .bool false)]) n hn hm (fun b n => subW_le _ n) (fun i b n hi hl hn hm => ?_) (fun n => ?_)
  · have hw := wrap_succ i (by first | omega | (simp at hl; omega))
    obtain ⟨_, rfl⟩ := List.getElem?_eq_some_iff.1 hi
    have h2 := c_l_szWrite  l[i] n (hb.2 _ (List.getElem_mem hl)) hn hm 
    obtain ⟨m, e1⟩ : ∃ m, m = subW n (wWr l[i]) := ⟨_, rfl⟩ 
    rw [← e1] at h2 ⊢ 
    try simp at h2
    simp -implicitDefEqProofs [l_szWriteS_L0, l_szWriteS_L0b, hl, hw, h2]
  · simp -implicitDefEqProofs [l_szWriteS_L0, l_szWriteS_L0b]
theorem c_l_szWriteS (l : List Wr) (n : Int) (hb : bL bWr l) (hn : 0 ≤ n) (hm : n ≤ 9223372036854775807) : ev LI TT 66 [.row .bor 2 (l.map (eW)), .int .i64 n] = some (.int .i64 (subW n (wL wWr l)), [.dead, .dead]) := by
  rw [ev_run (b := l_szWriteS_b) (rs := [.t 4]) (n := 2) rfl rfl]
  have hl := hb.1 
  have hw : wL wWr l = l.length + (l.map wWr).sum := rfl 
  have ht := subW_or n (wL wWr l) 
  obtain ⟨m, e1⟩ : ∃ m, m = n - (l.length : Int) := ⟨_, rfl⟩ 
  have h2 : IntKind.i64.wrap (n - (l.length : Int)) = m := by rw [e1]; exact wrap_id (by omega) (by omega) 
  by_cases h : m < 0 
  · have ef : subW n (wL wWr l) = -1 := by omega 
    simp -implicitDefEqProofs [l_szWriteS_b, h2, h, ef] 
  have h3 := L_l_szWriteS  l hb.1 hb m (by omega) (by omega) 
  rw [szL_subW _ _ _ (by omega)] at h3 
  have hs := subW_or m (l.map wWr).sum 
  obtain ⟨q, e2⟩ : ∃ q, q = subW m (l.map wWr).sum := ⟨_, rfl⟩ 
  rw [← e2] at h3 hs 
  try simp at h3 
  by_cases h4 : q < 0 
  · have ef : subW n (wL wWr l) = -1 := by omega 
    simp only [h4, if_true] at h3 
    simp -implicitDefEqProofs [l_szWriteS_b, h2, h, h3, ef] 
  have ef : subW n (wL wWr l) = q := by omega 
  simp only [h4, if_false] at h3
  simp -implicitDefEqProofs [l_szWriteS_b, h2, h, h3, ef]
  all_goals (repeat' split) <;> first | rfl | omega | (simp_all; done) | (simp_all; omega) | skip
theorem L_l_toWriteS (l : List Wr) (hlen : l.length ≤ 1048576) (hb : wL wWr l ≤ 1048576) : loopW (evA (ev LI TT) (okT TT) l_toWriteS_L0) [(0, .row .bor 2 (l.map eW)), (3, .row .own 2 (fillN (l.map eW) 0 [.int .i64 0, .str ⟨#[]⟩])), (4, .int .i64 0), (6, .int .i64 l.length)] = some (.exit 0, [(0, .row .bor 2 (l.map eW)), (3, .row .own 2 (l.map eW)), (4, .int .i64 (l).length), (6, .int .i64 l.length), (11, .bool false)]) := by
  refine loop_count (f := evA (ev LI TT) (okT TT) l_toWriteS_L0) (l) (fun i => [(0, .row .bor 2 (l.map eW)), (3, .row .own 2 (fillN (l.map eW) i [.int .i64 0, .str ⟨#[]⟩])), (4, .int .i64 i), (6, .int .i64 l.length)]) _ (fun i b hi hl => ?_) ?_
  · have hw := wrap_succ i (by first | omega | (simp at hl; omega))
    obtain ⟨_, rfl⟩ := List.getElem?_eq_some_iff.1 hi
    have h := c_l_toWrite  l[i] (Nat.le_trans (wL_mem (List.getElem_mem hl)) hb) 
    try simp at h
    simp -implicitDefEqProofs [l_toWriteS_L0, l_toWriteS_L0b, hl, hw, h]
    first | done | (rw [fillN_set _ _ _ _ (by simpa using hl) (by simp)]; done) | (simp only [modify_two]; rw [fillN_set _ _ _ _ (by simpa using hl) (by simp)])
  · simp -implicitDefEqProofs [l_toWriteS_L0, l_toWriteS_L0b]
theorem c_l_toWriteS (l : List Wr) (hb : wL wWr l ≤ 1048576) : ev LI TT 72 [.row .bor 2 (l.map eW)] = some (.row .own 2 (l.map eW), [.dead]) := by
  rw [ev_run (b := l_toWriteS_b) (rs := [.t 2]) (n := 1) rfl rfl]
  have hlen := wL_len (w := wWr) l 
  have h := L_l_toWriteS  l (by omega) hb 
  try simp at h
  simp -implicitDefEqProofs [l_toWriteS_b, h, (by omega : (l.length : Int) * 24 ≤ 140737488355328)]
  all_goals (repeat' split) <;> first | rfl | omega | (simp_all; done) | (simp_all; omega) | skip
theorem L_l_eqWriteS (ps : List (Wr × Wr)) (hb : ps.length ≤ 9223372036854775807) (hb1 : ∀ x ∈ ps, wWr x.1 ≤ 1073741824) : loopW (evA (ev LI TT) (okT TT) l_eqWriteS_L0) [(0, .row .bor 2 (ps.map (fun x : Wr × Wr => eW x.1))), (1, .row .bor 2 (ps.map (fun x : Wr × Wr => eW x.2))), (5, .int .i64 0)] = if allB eqB (ps) = true then some (.exit 0, [(0, .row .bor 2 (ps.map (fun x : Wr × Wr => eW x.1))), (1, .row .bor 2 (ps.map (fun x : Wr × Wr => eW x.2))), (5, .int .i64 ps.length), (14, .bool false)]) else some (.ret, [(4, .bool false)]) := by
  refine loop_all (f := evA (ev LI TT) (okT TT) l_eqWriteS_L0) (ps) (fun i => [(0, .row .bor 2 (ps.map (fun x : Wr × Wr => eW x.1))), (1, .row .bor 2 (ps.map (fun x : Wr × Wr => eW x.2))), (5, .int .i64 i)]) eqB _ _ (fun i b hi hl => ?_) ?_
  · have hw := wrap_succ i (by first | omega | (simp at hl; omega))
    obtain ⟨_, rfl⟩ := List.getElem?_eq_some_iff.1 hi
    have h := c_l_eqWrite  (ps[i]).1 (ps[i]).2 (hb1 _ (List.getElem_mem hl)); try simp at h
    simp -implicitDefEqProofs [l_eqWriteS_L0, l_eqWriteS_L0b, hl, hw, eqB, h]
  · simp -implicitDefEqProofs [l_eqWriteS_L0, l_eqWriteS_L0b]
theorem c_l_eqWriteS (a b : List Wr) (hb : wL wWr a ≤ 1073741824) : ev LI TT 85 [.row .bor 2 (a.map eW), .row .bor 2 (b.map eW)] = some (.bool (decide (a = b)), [.dead, .dead]) := by
  rw [ev_run (b := l_eqWriteS_b) (rs := [.t 4]) (n := 2) rfl rfl]
  simp -implicitDefEqProofs [l_eqWriteS_b]
  have hlen := wL_len (w := wWr) a 
  by_cases h : a.length = b.length 
  · obtain ⟨ps, rfl, rfl⟩ := zip_ex h 
    have h1 := L_l_eqWriteS  ps (by simp at hlen; omega) (fun x hx => Nat.le_trans (wL_mem (List.mem_map_of_mem hx)) hb) 
    have h2 := allB_eq ps 
    simp at h1 
    rw [← h2] 
    cases h3 : allB eqB ps <;> rw [h3] at h1 <;> simp [h1, Function.comp_def] 
  · have : ¬ a = b := fun e => h (by rw [e]) 
    simp [this] 
    omega
theorem c_l_szDisk (a : Dsk) (n : Int) (hb : bDsk a) (hn : 0 ≤ n) (hm : n ≤ 9223372036854775807) : ev LI TT 29 [.agg ((eDsk .bor) a), .int .i64 n] = some (.int .i64 (subW n (wDsk a)), [.dead, .dead]) := by
  rw [ev_run (b := l_szDisk_b) (rs := [.t 4]) (n := 2) rfl rfl]
  have hw : wDsk a = wL wS a.cells + wL wWr a.pending := rfl 
  have ht := subW_or n (wDsk a) 
  have c1 := c_l_szStringS  a.cells n hb.k_cells (by omega) (by omega) 
  have s1 := subW_or n (wL wS a.cells) 
  obtain ⟨m1, e1⟩ : ∃ m, m = subW n (wL wS a.cells) := ⟨_, rfl⟩ 
  rw [← e1] at c1 s1 
  try simp at c1 
  by_cases h1 : m1 < 0 
  · have ef : subW n (wDsk a) = -1 := by omega 
    simp -implicitDefEqProofs [l_szDisk_b, c1, h1, ef] 
  have c2 := c_l_szWriteS  a.pending m1 hb.k_pending (by omega) (by omega) 
  have s2 := subW_or m1 (wL wWr a.pending) 
  obtain ⟨m2, e2⟩ : ∃ m, m = subW m1 (wL wWr a.pending) := ⟨_, rfl⟩ 
  rw [← e2] at c2 s2 
  try simp at c2 
  by_cases h2 : m2 < 0 
  · have ef : subW n (wDsk a) = -1 := by omega 
    simp -implicitDefEqProofs [l_szDisk_b, c1, h1, c2, h2, ef] 
  have ef : subW n (wDsk a) = m2 := by omega
  simp -implicitDefEqProofs [l_szDisk_b, c1, h1, c2, h2, ef]
  all_goals (repeat' split) <;> first | rfl | omega | (simp_all; done) | (simp_all; omega) | skip
theorem c_l_toDisk (a : Dsk) (hb : wDsk a ≤ 1048576) : ev LI TT 34 [.agg ((eDsk .bor) a)] = some (.agg ((eDsk .own) a), [.dead]) := by
  rw [ev_run (b := l_toDisk_b) (rs := [.c 2 2 true 44]) (n := 1) rfl rfl]
  have hw : wDsk a = wL wS a.cells + wL wWr a.pending := rfl 
  have h1 := c_l_toStringS  a.cells (by omega) 
  try simp at h1 
  have h2 := c_l_toWriteS  a.pending (by omega) 
  try simp at h2
  simp -implicitDefEqProofs [l_toDisk_b, h1, h2, hw]
  all_goals (repeat' split) <;> first | rfl | omega | (simp_all; done) | (simp_all; omega) | skip
theorem c_l_eqDisk (a b : Dsk) (hb : wDsk a ≤ 1073741824) : ev LI TT 40 [.agg ((eDsk .bor) a), .agg ((eDsk .bor) b)] = some (.bool (decide (a = b)), [.dead, .dead]) := by
  rw [ev_run (b := l_eqDisk_b) (rs := [.t 4]) (n := 2) rfl rfl]
  have hw : wDsk a = wL wS a.cells + wL wWr a.pending := rfl 
  rw [dec_Dsk] 
  have c1 := c_l_eqStringS  a.cells b.cells (by omega) 
  cases g1 : decide (a.cells = b.cells) 
  · rw [g1] at c1 
    try simp at c1 
    simp -implicitDefEqProofs [l_eqDisk_b, c1] 
  rw [g1] at c1 
  try simp at c1 
  have c2 := c_l_eqWriteS  a.pending b.pending (by omega) 
  cases g2 : decide (a.pending = b.pending) 
  · rw [g2] at c2 
    try simp at c2 
    simp -implicitDefEqProofs [l_eqDisk_b, c1, c2] 
  rw [g2] at c2 
  try simp at c2
  simp -implicitDefEqProofs [l_eqDisk_b, c1, c2]
  all_goals (repeat' split) <;> first | rfl | omega | (simp_all; done) | (simp_all; omega) | skip
theorem c_l_szField (a : Fld) (n : Int) (hb : bFld a) (hn : 0 ≤ n) (hm : n ≤ 9223372036854775807) : ev LI TT 56 [.agg (eFld a), .int .i64 n] = some (.int .i64 (subW n (wFld a)), [.dead, .dead]) := by
  rw [ev_run (b := l_szField_b) (rs := [.t 4]) (n := 2) rfl rfl]
  have hw : wFld a = a.name.length + a.value.length := rfl 
  have ht := subW_or n (wFld a) 
  have hl1 : a.name.length ≤ 9223372036854775807 := hb.k_name 
  obtain ⟨m1, e1⟩ : ∃ m, m = n - (a.name.length : Int) := ⟨_, rfl⟩ 
  have c1 : IntKind.i64.wrap (n - (a.name.length : Int)) = m1 := by rw [e1]; exact wrap_id (by omega) (by omega) 
  by_cases h1 : m1 < 0 
  · have ef : subW n (wFld a) = -1 := by omega 
    simp -implicitDefEqProofs [l_szField_b, c1, h1, ef] 
  have hl2 : a.value.length ≤ 9223372036854775807 := hb.k_value 
  obtain ⟨m2, e2⟩ : ∃ m, m = m1 - (a.value.length : Int) := ⟨_, rfl⟩ 
  have c2 : IntKind.i64.wrap (m1 - (a.value.length : Int)) = m2 := by rw [e2]; exact wrap_id (by omega) (by omega) 
  by_cases h2 : m2 < 0 
  · have ef : subW n (wFld a) = -1 := by omega 
    simp -implicitDefEqProofs [l_szField_b, c1, h1, c2, h2, ef] 
  have ef : subW n (wFld a) = m2 := by omega
  simp -implicitDefEqProofs [l_szField_b, c1, h1, c2, h2, ef]
  all_goals (repeat' split) <;> first | rfl | omega | (simp_all; done) | (simp_all; omega) | skip
theorem c_l_toField (a : Fld) (hb : wFld a ≤ 1048576) : ev LI TT 61 [.agg (eFld a)] = some (.agg (eFld a), [.dead]) := by
  rw [ev_run (b := l_toField_b) (rs := [.c 2 2 true 75]) (n := 1) rfl rfl]
  have hw : wFld a = a.name.length + a.value.length := rfl
  simp -implicitDefEqProofs [l_toField_b, hw]
  all_goals (repeat' split) <;> first | rfl | omega | (simp_all; done) | (simp_all; omega) | skip
theorem c_l_eqField (a b : Fld) (hb : wFld a ≤ 1073741824) : ev LI TT 64 [.agg (eFld a), .agg (eFld b)] = some (.bool (decide (a = b)), [.dead, .dead]) := by
  rw [ev_run (b := l_eqField_b) (rs := [.t 4]) (n := 2) rfl rfl]
  have hw : wFld a = a.name.length + a.value.length := rfl 
  rw [dec_Fld] 
  by_cases g1 : a.name = b.name 
  rotate_left 
  · simp -implicitDefEqProofs [l_eqField_b, eq_false g1] 
  by_cases g2 : a.value = b.value 
  rotate_left 
  · simp -implicitDefEqProofs [l_eqField_b, eq_true g1, eq_false g2]
  simp -implicitDefEqProofs [l_eqField_b, eq_true g1, eq_true g2]
  all_goals (repeat' split) <;> first | rfl | omega | (simp_all; done) | (simp_all; omega) | skip
theorem L_l_szFieldS (l : List Fld) (hlen : l.length ≤ 9223372036854775807) (hb : bL bFld l) (n : Int) (hn : 0 ≤ n) (hm : n ≤ 9223372036854775807) : loopW (evA (ev LI TT) (okT TT) l_szFieldS_L0) [(0, .row .bor 2 (l.map (eFld))), (1, .int .i64 n), (5, .int .i64 0)] = if szL (fun b n => subW n (wFld b)) (l) n < 0 then some (.ret, [(4, .int .i64 (-1))]) else some (.exit 0, [(0, .row .bor 2 (l.map (eFld))), (1, .int .i64 (szL (fun b n => subW n (wFld b)) (l) n)), (5, .int .i64 (l).length), (15, .bool false)]) := by
  refine loop_sz (f := evA (ev LI TT) (okT TT) l_szFieldS_L0) (l) (fun i n => [(0, .row .bor 2 (l.map (eFld))), (1, .int .i64 n), (5, .int .i64 i)]) (fun b n => subW n (wFld b)) _ (fun n => [(0, .row .bor 2 (l.map (eFld))), (1, .int .i64 n), (5, .int .i64 (l).length), (15, .bool false)]) n hn hm (fun b n => subW_le _ n) (fun i b n hi hl hn hm => ?_) (fun n => ?_)
  · have hw := wrap_succ i (by first | omega | (simp at hl; omega))
    obtain ⟨_, rfl⟩ := List.getElem?_eq_some_iff.1 hi
    have h2 := c_l_szField  l[i] n (hb.2 _ (List.getElem_mem hl)) hn hm 
    obtain ⟨m, e1⟩ : ∃ m, m = subW n (wFld l[i]) := ⟨_, rfl⟩ 
    rw [← e1] at h2 ⊢ 
    try simp at h2
    simp -implicitDefEqProofs [l_szFieldS_L0, l_szFieldS_L0b, hl, hw, h2]
  · simp -implicitDefEqProofs [l_szFieldS_L0, l_szFieldS_L0b]
theorem c_l_szFieldS (l : List Fld) (n : Int) (hb : bL bFld l) (hn : 0 ≤ n) (hm : n ≤ 9223372036854775807) : ev LI TT 21 [.row .bor 2 (l.map (eFld)), .int .i64 n] = some (.int .i64 (subW n (wL wFld l)), [.dead, .dead]) := by
  rw [ev_run (b := l_szFieldS_b) (rs := [.t 4]) (n := 2) rfl rfl]
  have hl := hb.1 
  have hw : wL wFld l = l.length + (l.map wFld).sum := rfl 
  have ht := subW_or n (wL wFld l) 
  obtain ⟨m, e1⟩ : ∃ m, m = n - (l.length : Int) := ⟨_, rfl⟩ 
  have h2 : IntKind.i64.wrap (n - (l.length : Int)) = m := by rw [e1]; exact wrap_id (by omega) (by omega) 
  by_cases h : m < 0 
  · have ef : subW n (wL wFld l) = -1 := by omega 
    simp -implicitDefEqProofs [l_szFieldS_b, h2, h, ef] 
  have h3 := L_l_szFieldS  l hb.1 hb m (by omega) (by omega) 
  rw [szL_subW _ _ _ (by omega)] at h3 
  have hs := subW_or m (l.map wFld).sum 
  obtain ⟨q, e2⟩ : ∃ q, q = subW m (l.map wFld).sum := ⟨_, rfl⟩ 
  rw [← e2] at h3 hs 
  try simp at h3 
  by_cases h4 : q < 0 
  · have ef : subW n (wL wFld l) = -1 := by omega 
    simp only [h4, if_true] at h3 
    simp -implicitDefEqProofs [l_szFieldS_b, h2, h, h3, ef] 
  have ef : subW n (wL wFld l) = q := by omega 
  simp only [h4, if_false] at h3
  simp -implicitDefEqProofs [l_szFieldS_b, h2, h, h3, ef]
  all_goals (repeat' split) <;> first | rfl | omega | (simp_all; done) | (simp_all; omega) | skip
theorem L_l_toFieldS (l : List Fld) (hlen : l.length ≤ 1048576) (hb : wL wFld l ≤ 1048576) : loopW (evA (ev LI TT) (okT TT) l_toFieldS_L0) [(0, .row .bor 2 (l.map eFld)), (3, .row .own 2 (fillN (l.map eFld) 0 [.str ⟨#[]⟩, .str ⟨#[]⟩])), (4, .int .i64 0), (6, .int .i64 l.length)] = some (.exit 0, [(0, .row .bor 2 (l.map eFld)), (3, .row .own 2 (l.map eFld)), (4, .int .i64 (l).length), (6, .int .i64 l.length), (11, .bool false)]) := by
  refine loop_count (f := evA (ev LI TT) (okT TT) l_toFieldS_L0) (l) (fun i => [(0, .row .bor 2 (l.map eFld)), (3, .row .own 2 (fillN (l.map eFld) i [.str ⟨#[]⟩, .str ⟨#[]⟩])), (4, .int .i64 i), (6, .int .i64 l.length)]) _ (fun i b hi hl => ?_) ?_
  · have hw := wrap_succ i (by first | omega | (simp at hl; omega))
    obtain ⟨_, rfl⟩ := List.getElem?_eq_some_iff.1 hi
    have h := c_l_toField  l[i] (Nat.le_trans (wL_mem (List.getElem_mem hl)) hb) 
    try simp at h
    simp -implicitDefEqProofs [l_toFieldS_L0, l_toFieldS_L0b, hl, hw, h]
    first | done | (rw [fillN_set _ _ _ _ (by simpa using hl) (by simp)]; done) | (simp only [modify_two]; rw [fillN_set _ _ _ _ (by simpa using hl) (by simp)])
  · simp -implicitDefEqProofs [l_toFieldS_L0, l_toFieldS_L0b]
theorem c_l_toFieldS (l : List Fld) (hb : wL wFld l ≤ 1048576) : ev LI TT 25 [.row .bor 2 (l.map eFld)] = some (.row .own 2 (l.map eFld), [.dead]) := by
  rw [ev_run (b := l_toFieldS_b) (rs := [.t 2]) (n := 1) rfl rfl]
  have hlen := wL_len (w := wFld) l 
  have h := L_l_toFieldS  l (by omega) hb 
  try simp at h
  simp -implicitDefEqProofs [l_toFieldS_b, h, (by omega : (l.length : Int) * 32 ≤ 140737488355328)]
  all_goals (repeat' split) <;> first | rfl | omega | (simp_all; done) | (simp_all; omega) | skip
theorem L_l_eqFieldS (ps : List (Fld × Fld)) (hb : ps.length ≤ 9223372036854775807) (hb1 : ∀ x ∈ ps, wFld x.1 ≤ 1073741824) : loopW (evA (ev LI TT) (okT TT) l_eqFieldS_L0) [(0, .row .bor 2 (ps.map (fun x : Fld × Fld => eFld x.1))), (1, .row .bor 2 (ps.map (fun x : Fld × Fld => eFld x.2))), (5, .int .i64 0)] = if allB eqB (ps) = true then some (.exit 0, [(0, .row .bor 2 (ps.map (fun x : Fld × Fld => eFld x.1))), (1, .row .bor 2 (ps.map (fun x : Fld × Fld => eFld x.2))), (5, .int .i64 ps.length), (14, .bool false)]) else some (.ret, [(4, .bool false)]) := by
  refine loop_all (f := evA (ev LI TT) (okT TT) l_eqFieldS_L0) (ps) (fun i => [(0, .row .bor 2 (ps.map (fun x : Fld × Fld => eFld x.1))), (1, .row .bor 2 (ps.map (fun x : Fld × Fld => eFld x.2))), (5, .int .i64 i)]) eqB _ _ (fun i b hi hl => ?_) ?_
  · have hw := wrap_succ i (by first | omega | (simp at hl; omega))
    obtain ⟨_, rfl⟩ := List.getElem?_eq_some_iff.1 hi
    have h := c_l_eqField  (ps[i]).1 (ps[i]).2 (hb1 _ (List.getElem_mem hl)); try simp at h
    simp -implicitDefEqProofs [l_eqFieldS_L0, l_eqFieldS_L0b, hl, hw, eqB, h]
  · simp -implicitDefEqProofs [l_eqFieldS_L0, l_eqFieldS_L0b]
theorem c_l_eqFieldS (a b : List Fld) (hb : wL wFld a ≤ 1073741824) : ev LI TT 28 [.row .bor 2 (a.map eFld), .row .bor 2 (b.map eFld)] = some (.bool (decide (a = b)), [.dead, .dead]) := by
  rw [ev_run (b := l_eqFieldS_b) (rs := [.t 4]) (n := 2) rfl rfl]
  simp -implicitDefEqProofs [l_eqFieldS_b]
  have hlen := wL_len (w := wFld) a 
  by_cases h : a.length = b.length 
  · obtain ⟨ps, rfl, rfl⟩ := zip_ex h 
    have h1 := L_l_eqFieldS  ps (by simp at hlen; omega) (fun x hx => Nat.le_trans (wL_mem (List.mem_map_of_mem hx)) hb) 
    have h2 := allB_eq ps 
    simp at h1 
    rw [← h2] 
    cases h3 : allB eqB ps <;> rw [h3] at h1 <;> simp [h1, Function.comp_def] 
  · have : ¬ a = b := fun e => h (by rw [e]) 
    simp [this] 
    omega
theorem c_l_szResp (a : Rsp) (n : Int) (hb : bRsp a) (hn : 0 ≤ n) (hm : n ≤ 9223372036854775807) : ev LI TT 128 [.agg ((eRsp .bor) a), .int .i64 n] = some (.int .i64 (subW n (wRsp a)), [.dead, .dead]) := by
  rw [ev_run (b := l_szResp_b) (rs := [.t 4]) (n := 2) rfl rfl]
  have hw : wRsp a = wL wFld a.fields + a.body.length := rfl 
  have ht := subW_or n (wRsp a) 
  have c1 := c_l_szFieldS  a.fields n hb.k_fields (by omega) (by omega) 
  have s1 := subW_or n (wL wFld a.fields) 
  obtain ⟨m1, e1⟩ : ∃ m, m = subW n (wL wFld a.fields) := ⟨_, rfl⟩ 
  rw [← e1] at c1 s1 
  try simp at c1 
  by_cases h1 : m1 < 0 
  · have ef : subW n (wRsp a) = -1 := by omega 
    simp -implicitDefEqProofs [l_szResp_b, c1, h1, ef] 
  have hl2 : a.body.length ≤ 9223372036854775807 := hb.k_body 
  obtain ⟨m2, e2⟩ : ∃ m, m = m1 - (a.body.length : Int) := ⟨_, rfl⟩ 
  have c2 : IntKind.i64.wrap (m1 - (a.body.length : Int)) = m2 := by rw [e2]; exact wrap_id (by omega) (by omega) 
  by_cases h2 : m2 < 0 
  · have ef : subW n (wRsp a) = -1 := by omega 
    simp -implicitDefEqProofs [l_szResp_b, c1, h1, c2, h2, ef] 
  have ef : subW n (wRsp a) = m2 := by omega
  simp -implicitDefEqProofs [l_szResp_b, c1, h1, c2, h2, ef]
  all_goals (repeat' split) <;> first | rfl | omega | (simp_all; done) | (simp_all; omega) | skip
theorem c_l_toResp (a : Rsp) (hb : wRsp a ≤ 1048576) : ev LI TT 131 [.agg ((eRsp .bor) a)] = some (.agg ((eRsp .own) a), [.dead]) := by
  rw [ev_run (b := l_toResp_b) (rs := [.c 2 3 true 81]) (n := 1) rfl rfl]
  have hw : wRsp a = wL wFld a.fields + a.body.length := rfl 
  have h1 := c_l_toFieldS  a.fields (by omega) 
  try simp at h1
  simp -implicitDefEqProofs [l_toResp_b, h1, hw]
  all_goals (repeat' split) <;> first | rfl | omega | (simp_all; done) | (simp_all; omega) | skip
theorem c_l_eqResp (a b : Rsp) (hb : wRsp a ≤ 1073741824) : ev LI TT 137 [.agg ((eRsp .bor) a), .agg ((eRsp .bor) b)] = some (.bool (decide (a = b)), [.dead, .dead]) := by
  rw [ev_run (b := l_eqResp_b) (rs := [.t 4]) (n := 2) rfl rfl]
  have hw : wRsp a = wL wFld a.fields + a.body.length := rfl 
  rw [dec_Rsp] 
  by_cases g1 : a.status = b.status 
  rotate_left 
  · simp -implicitDefEqProofs [l_eqResp_b, eq_false g1] 
  have c2 := c_l_eqFieldS  a.fields b.fields (by omega) 
  cases g2 : decide (a.fields = b.fields) 
  · rw [g2] at c2 
    try simp at c2 
    simp -implicitDefEqProofs [l_eqResp_b, eq_true g1, c2] 
  rw [g2] at c2 
  try simp at c2 
  by_cases g3 : a.body = b.body 
  rotate_left 
  · simp -implicitDefEqProofs [l_eqResp_b, eq_true g1, c2, eq_false g3]
  simp -implicitDefEqProofs [l_eqResp_b, eq_true g1, c2, eq_true g3]
  all_goals (repeat' split) <;> first | rfl | omega | (simp_all; done) | (simp_all; omega) | skip
theorem c_l_szObj (a : Ob) (n : Int) (hb : bOb a) (hn : 0 ≤ n) (hm : n ≤ 9223372036854775807) : ev LI TT 114 [.agg ((eOb .bor) a), .int .i64 n] = some (.int .i64 (subW n (wOb a)), [.dead, .dead]) := by
  rw [ev_run (b := l_szObj_b) (rs := [.t 4]) (n := 2) rfl rfl]
  have hw : wOb a = a.path.length + wL wS a.names + wL wS a.values + wRsp a.resp := rfl 
  have ht := subW_or n (wOb a) 
  have hl1 : a.path.length ≤ 9223372036854775807 := hb.k_path 
  obtain ⟨m1, e1⟩ : ∃ m, m = n - (a.path.length : Int) := ⟨_, rfl⟩ 
  have c1 : IntKind.i64.wrap (n - (a.path.length : Int)) = m1 := by rw [e1]; exact wrap_id (by omega) (by omega) 
  by_cases h1 : m1 < 0 
  · have ef : subW n (wOb a) = -1 := by omega 
    simp -implicitDefEqProofs [l_szObj_b, c1, h1, ef] 
  have c2 := c_l_szStringS  a.names m1 hb.k_names (by omega) (by omega) 
  have s2 := subW_or m1 (wL wS a.names) 
  obtain ⟨m2, e2⟩ : ∃ m, m = subW m1 (wL wS a.names) := ⟨_, rfl⟩ 
  rw [← e2] at c2 s2 
  try simp at c2 
  by_cases h2 : m2 < 0 
  · have ef : subW n (wOb a) = -1 := by omega 
    simp -implicitDefEqProofs [l_szObj_b, c1, h1, c2, h2, ef] 
  have c3 := c_l_szStringS  a.values m2 hb.k_values (by omega) (by omega) 
  have s3 := subW_or m2 (wL wS a.values) 
  obtain ⟨m3, e3⟩ : ∃ m, m = subW m2 (wL wS a.values) := ⟨_, rfl⟩ 
  rw [← e3] at c3 s3 
  try simp at c3 
  by_cases h3 : m3 < 0 
  · have ef : subW n (wOb a) = -1 := by omega 
    simp -implicitDefEqProofs [l_szObj_b, c1, h1, c2, h2, c3, h3, ef] 
  have c4 := c_l_szResp  a.resp m3 hb.k_resp (by omega) (by omega) 
  have s4 := subW_or m3 (wRsp a.resp) 
  obtain ⟨m4, e4⟩ : ∃ m, m = subW m3 (wRsp a.resp) := ⟨_, rfl⟩ 
  rw [← e4] at c4 s4 
  try simp at c4 
  by_cases h4 : m4 < 0 
  · have ef : subW n (wOb a) = -1 := by omega 
    simp -implicitDefEqProofs [l_szObj_b, c1, h1, c2, h2, c3, h3, c4, h4, ef] 
  have ef : subW n (wOb a) = m4 := by omega
  simp -implicitDefEqProofs [l_szObj_b, c1, h1, c2, h2, c3, h3, c4, h4, ef]
  all_goals (repeat' split) <;> first | rfl | omega | (simp_all; done) | (simp_all; omega) | skip
theorem c_l_toObj (a : Ob) (hb : wOb a ≤ 1048576) : ev LI TT 116 [.agg ((eOb .bor) a)] = some (.agg ((eOb .own) a), [.dead]) := by
  rw [ev_run (b := l_toObj_b) (rs := [.c 2 7 true 83]) (n := 1) rfl rfl]
  have hw : wOb a = a.path.length + wL wS a.names + wL wS a.values + wRsp a.resp := rfl 
  have h1 := c_l_toStringS  a.names (by omega) 
  try simp at h1 
  have h2 := c_l_toStringS  a.values (by omega) 
  try simp at h2 
  have h3 := c_l_toResp  a.resp (by omega) 
  try simp at h3
  simp -implicitDefEqProofs [l_toObj_b, h1, h2, h3, hw]
  all_goals (repeat' split) <;> first | rfl | omega | (simp_all; done) | (simp_all; omega) | skip
theorem c_l_eqObj (a b : Ob) (hb : wOb a ≤ 1073741824) : ev LI TT 126 [.agg ((eOb .bor) a), .agg ((eOb .bor) b)] = some (.bool (decide (a = b)), [.dead, .dead]) := by
  rw [ev_run (b := l_eqObj_b) (rs := [.t 4]) (n := 2) rfl rfl]
  have hw : wOb a = a.path.length + wL wS a.names + wL wS a.values + wRsp a.resp := rfl 
  rw [dec_Ob] 
  by_cases g1 : a.path = b.path 
  rotate_left 
  · simp -implicitDefEqProofs [l_eqObj_b, eq_false g1] 
  have c2 := c_l_eqStringS  a.names b.names (by omega) 
  cases g2 : decide (a.names = b.names) 
  · rw [g2] at c2 
    try simp at c2 
    simp -implicitDefEqProofs [l_eqObj_b, eq_true g1, c2] 
  rw [g2] at c2 
  try simp at c2 
  have c3 := c_l_eqStringS  a.values b.values (by omega) 
  cases g3 : decide (a.values = b.values) 
  · rw [g3] at c3 
    try simp at c3 
    simp -implicitDefEqProofs [l_eqObj_b, eq_true g1, c2, c3] 
  rw [g3] at c3 
  try simp at c3 
  have c4 := c_l_eqResp  a.resp b.resp (by omega) 
  cases g4 : decide (a.resp = b.resp) 
  · rw [g4] at c4 
    try simp at c4 
    simp -implicitDefEqProofs [l_eqObj_b, eq_true g1, c2, c3, c4] 
  rw [g4] at c4 
  try simp at c4 
  by_cases g5 : a.t = b.t 
  rotate_left 
  · simp -implicitDefEqProofs [l_eqObj_b, eq_true g1, c2, c3, c4, eq_false g5]
  simp -implicitDefEqProofs [l_eqObj_b, eq_true g1, c2, c3, c4, eq_true g5]
  all_goals (repeat' split) <;> first | rfl | omega | (simp_all; done) | (simp_all; omega) | skip
theorem c_l_szKept (a : Kp) (n : Int) (hb : bKp a) (hn : 0 ≤ n) (hm : n ≤ 9223372036854775807) : ev LI TT 67 [.agg ((eKp .bor) a), .int .i64 n] = some (.int .i64 (subW n (wKp a)), [.dead, .dead]) := by
  rw [ev_run (b := l_szKept_b) (rs := [.t 4]) (n := 2) rfl rfl]
  have hw : wKp a = wOb a.obj := rfl 
  have ht := subW_or n (wKp a) 
  have c1 := c_l_szObj  a.obj n hb.k_obj (by omega) (by omega) 
  have s1 := subW_or n (wOb a.obj) 
  obtain ⟨m1, e1⟩ : ∃ m, m = subW n (wOb a.obj) := ⟨_, rfl⟩ 
  rw [← e1] at c1 s1 
  try simp at c1 
  by_cases h1 : m1 < 0 
  · have ef : subW n (wKp a) = -1 := by omega 
    simp -implicitDefEqProofs [l_szKept_b, c1, h1, ef] 
  have ef : subW n (wKp a) = m1 := by omega
  simp -implicitDefEqProofs [l_szKept_b, c1, h1, ef]
  all_goals (repeat' split) <;> first | rfl | omega | (simp_all; done) | (simp_all; omega) | skip
theorem c_l_toKept (a : Kp) (hb : wKp a ≤ 1048576) : ev LI TT 73 [.agg ((eKp .bor) a)] = some (.agg ((eKp .own) a), [.dead]) := by
  rw [ev_run (b := l_toKept_b) (rs := [.c 2 9 true 85]) (n := 1) rfl rfl]
  have hw : wKp a = wOb a.obj := rfl 
  have h1 := c_l_toObj  a.obj (by omega) 
  try simp at h1
  simp -implicitDefEqProofs [l_toKept_b, h1, hw]
  all_goals (repeat' split) <;> first | rfl | omega | (simp_all; done) | (simp_all; omega) | skip
theorem c_l_eqKept (a b : Kp) (hb : wKp a ≤ 1073741824) : ev LI TT 86 [.agg ((eKp .bor) a), .agg ((eKp .bor) b)] = some (.bool (decide (a = b)), [.dead, .dead]) := by
  rw [ev_run (b := l_eqKept_b) (rs := [.t 4]) (n := 2) rfl rfl]
  have hw : wKp a = wOb a.obj := rfl 
  rw [dec_Kp] 
  have c1 := c_l_eqObj  a.obj b.obj (by omega) 
  cases g1 : decide (a.obj = b.obj) 
  · rw [g1] at c1 
    try simp at c1 
    simp -implicitDefEqProofs [l_eqKept_b, c1] 
  rw [g1] at c1 
  try simp at c1 
  by_cases g2 : a.at_ = b.at_ 
  rotate_left 
  · simp -implicitDefEqProofs [l_eqKept_b, c1, eq_false g2] 
  by_cases g3 : a.seq = b.seq 
  rotate_left 
  · simp -implicitDefEqProofs [l_eqKept_b, c1, eq_true g2, eq_false g3]
  simp -implicitDefEqProofs [l_eqKept_b, c1, eq_true g2, eq_true g3]
  all_goals (repeat' split) <;> first | rfl | omega | (simp_all; done) | (simp_all; omega) | skip
theorem L_l_szKeptS (l : List Kp) (hlen : l.length ≤ 9223372036854775807) (hb : bL bKp l) (n : Int) (hn : 0 ≤ n) (hm : n ≤ 9223372036854775807) : loopW (evA (ev LI TT) (okT TT) l_szKeptS_L0) [(0, .row .bor 9 (l.map (eKp .bor))), (1, .int .i64 n), (5, .int .i64 0)] = if szL (fun b n => subW n (wKp b)) (l) n < 0 then some (.ret, [(4, .int .i64 (-1))]) else some (.exit 0, [(0, .row .bor 9 (l.map (eKp .bor))), (1, .int .i64 (szL (fun b n => subW n (wKp b)) (l) n)), (5, .int .i64 (l).length), (15, .bool false)]) := by
  refine loop_sz (f := evA (ev LI TT) (okT TT) l_szKeptS_L0) (l) (fun i n => [(0, .row .bor 9 (l.map (eKp .bor))), (1, .int .i64 n), (5, .int .i64 i)]) (fun b n => subW n (wKp b)) _ (fun n => [(0, .row .bor 9 (l.map (eKp .bor))), (1, .int .i64 n), (5, .int .i64 (l).length), (15, .bool false)]) n hn hm (fun b n => subW_le _ n) (fun i b n hi hl hn hm => ?_) (fun n => ?_)
  · have hw := wrap_succ i (by first | omega | (simp at hl; omega))
    obtain ⟨_, rfl⟩ := List.getElem?_eq_some_iff.1 hi
    have h2 := c_l_szKept  l[i] n (hb.2 _ (List.getElem_mem hl)) hn hm 
    obtain ⟨m, e1⟩ : ∃ m, m = subW n (wKp l[i]) := ⟨_, rfl⟩ 
    rw [← e1] at h2 ⊢ 
    try simp at h2
    simp -implicitDefEqProofs [l_szKeptS_L0, l_szKeptS_L0b, hl, hw, h2]
  · simp -implicitDefEqProofs [l_szKeptS_L0, l_szKeptS_L0b]
theorem c_l_szKeptS (l : List Kp) (n : Int) (hb : bL bKp l) (hn : 0 ≤ n) (hm : n ≤ 9223372036854775807) : ev LI TT 30 [.row .bor 9 (l.map (eKp .bor)), .int .i64 n] = some (.int .i64 (subW n (wL wKp l)), [.dead, .dead]) := by
  rw [ev_run (b := l_szKeptS_b) (rs := [.t 4]) (n := 2) rfl rfl]
  have hl := hb.1 
  have hw : wL wKp l = l.length + (l.map wKp).sum := rfl 
  have ht := subW_or n (wL wKp l) 
  obtain ⟨m, e1⟩ : ∃ m, m = n - (l.length : Int) := ⟨_, rfl⟩ 
  have h2 : IntKind.i64.wrap (n - (l.length : Int)) = m := by rw [e1]; exact wrap_id (by omega) (by omega) 
  by_cases h : m < 0 
  · have ef : subW n (wL wKp l) = -1 := by omega 
    simp -implicitDefEqProofs [l_szKeptS_b, h2, h, ef] 
  have h3 := L_l_szKeptS  l hb.1 hb m (by omega) (by omega) 
  rw [szL_subW _ _ _ (by omega)] at h3 
  have hs := subW_or m (l.map wKp).sum 
  obtain ⟨q, e2⟩ : ∃ q, q = subW m (l.map wKp).sum := ⟨_, rfl⟩ 
  rw [← e2] at h3 hs 
  try simp at h3 
  by_cases h4 : q < 0 
  · have ef : subW n (wL wKp l) = -1 := by omega 
    simp only [h4, if_true] at h3 
    simp -implicitDefEqProofs [l_szKeptS_b, h2, h, h3, ef] 
  have ef : subW n (wL wKp l) = q := by omega 
  simp only [h4, if_false] at h3
  simp -implicitDefEqProofs [l_szKeptS_b, h2, h, h3, ef]
  all_goals (repeat' split) <;> first | rfl | omega | (simp_all; done) | (simp_all; omega) | skip
theorem L_l_toKeptS (l : List Kp) (hlen : l.length ≤ 1048576) (hb : wL wKp l ≤ 1048576) : loopW (evA (ev LI TT) (okT TT) l_toKeptS_L0) [(0, .row .bor 9 (l.map (eKp .bor))), (3, .row .own 9 (fillN (l.map (eKp .own)) 0 [.str ⟨#[]⟩, .row .own 1 [], .row .own 1 [], .int .i64 0, .row .own 2 [], .str ⟨#[]⟩, .int .i64 0, .int .i64 0, .int .i64 0])), (4, .int .i64 0), (6, .int .i64 l.length)] = some (.exit 0, [(0, .row .bor 9 (l.map (eKp .bor))), (3, .row .own 9 (l.map (eKp .own))), (4, .int .i64 (l).length), (6, .int .i64 l.length), (11, .bool false)]) := by
  refine loop_count (f := evA (ev LI TT) (okT TT) l_toKeptS_L0) (l) (fun i => [(0, .row .bor 9 (l.map (eKp .bor))), (3, .row .own 9 (fillN (l.map (eKp .own)) i [.str ⟨#[]⟩, .row .own 1 [], .row .own 1 [], .int .i64 0, .row .own 2 [], .str ⟨#[]⟩, .int .i64 0, .int .i64 0, .int .i64 0])), (4, .int .i64 i), (6, .int .i64 l.length)]) _ (fun i b hi hl => ?_) ?_
  · have hw := wrap_succ i (by first | omega | (simp at hl; omega))
    obtain ⟨_, rfl⟩ := List.getElem?_eq_some_iff.1 hi
    have h := c_l_toKept  l[i] (Nat.le_trans (wL_mem (List.getElem_mem hl)) hb) 
    try simp at h
    simp -implicitDefEqProofs [l_toKeptS_L0, l_toKeptS_L0b, hl, hw, h]
    first | done | (rw [fillN_set _ _ _ _ (by simpa using hl) (by simp)]; done) | (simp only [modify_two]; rw [fillN_set _ _ _ _ (by simpa using hl) (by simp)])
  · simp -implicitDefEqProofs [l_toKeptS_L0, l_toKeptS_L0b]
theorem c_l_toKeptS (l : List Kp) (hb : wL wKp l ≤ 1048576) : ev LI TT 35 [.row .bor 9 (l.map (eKp .bor))] = some (.row .own 9 (l.map (eKp .own)), [.dead]) := by
  rw [ev_run (b := l_toKeptS_b) (rs := [.t 2]) (n := 1) rfl rfl]
  have hlen := wL_len (w := wKp) l 
  have h := L_l_toKeptS  l (by omega) hb 
  try simp at h
  simp -implicitDefEqProofs [l_toKeptS_b, h, (by omega : (l.length : Int) * 136 ≤ 140737488355328)]
  all_goals (repeat' split) <;> first | rfl | omega | (simp_all; done) | (simp_all; omega) | skip
theorem L_l_eqKeptS (ps : List (Kp × Kp)) (hb : ps.length ≤ 9223372036854775807) (hb1 : ∀ x ∈ ps, wKp x.1 ≤ 1073741824) : loopW (evA (ev LI TT) (okT TT) l_eqKeptS_L0) [(0, .row .bor 9 (ps.map (fun x : Kp × Kp => (eKp .bor) x.1))), (1, .row .bor 9 (ps.map (fun x : Kp × Kp => (eKp .bor) x.2))), (5, .int .i64 0)] = if allB eqB (ps) = true then some (.exit 0, [(0, .row .bor 9 (ps.map (fun x : Kp × Kp => (eKp .bor) x.1))), (1, .row .bor 9 (ps.map (fun x : Kp × Kp => (eKp .bor) x.2))), (5, .int .i64 ps.length), (14, .bool false)]) else some (.ret, [(4, .bool false)]) := by
  refine loop_all (f := evA (ev LI TT) (okT TT) l_eqKeptS_L0) (ps) (fun i => [(0, .row .bor 9 (ps.map (fun x : Kp × Kp => (eKp .bor) x.1))), (1, .row .bor 9 (ps.map (fun x : Kp × Kp => (eKp .bor) x.2))), (5, .int .i64 i)]) eqB _ _ (fun i b hi hl => ?_) ?_
  · have hw := wrap_succ i (by first | omega | (simp at hl; omega))
    obtain ⟨_, rfl⟩ := List.getElem?_eq_some_iff.1 hi
    have h := c_l_eqKept  (ps[i]).1 (ps[i]).2 (hb1 _ (List.getElem_mem hl)); try simp at h
    simp -implicitDefEqProofs [l_eqKeptS_L0, l_eqKeptS_L0b, hl, hw, eqB, h]
  · simp -implicitDefEqProofs [l_eqKeptS_L0, l_eqKeptS_L0b]
theorem c_l_eqKeptS (a b : List Kp) (hb : wL wKp a ≤ 1073741824) : ev LI TT 41 [.row .bor 9 (a.map (eKp .bor)), .row .bor 9 (b.map (eKp .bor))] = some (.bool (decide (a = b)), [.dead, .dead]) := by
  rw [ev_run (b := l_eqKeptS_b) (rs := [.t 4]) (n := 2) rfl rfl]
  simp -implicitDefEqProofs [l_eqKeptS_b]
  have hlen := wL_len (w := wKp) a 
  by_cases h : a.length = b.length 
  · obtain ⟨ps, rfl, rfl⟩ := zip_ex h 
    have h1 := L_l_eqKeptS  ps (by simp at hlen; omega) (fun x hx => Nat.le_trans (wL_mem (List.mem_map_of_mem hx)) hb) 
    have h2 := allB_eq ps 
    simp at h1 
    rw [← h2] 
    cases h3 : allB eqB ps <;> rw [h3] at h1 <;> simp [h1, Function.comp_def] 
  · have : ¬ a = b := fun e => h (by rw [e]) 
    simp [this] 
    omega
theorem c_l_szBan (a : Bn) (n : Int) (hb : bBn a) (hn : 0 ≤ n) (hm : n ≤ 9223372036854775807) : ev LI TT 68 [.agg (eBn a), .int .i64 n] = some (.int .i64 (subW n (wBn a)), [.dead, .dead]) := by
  rw [ev_run (b := l_szBan_b) (rs := [.t 4]) (n := 2) rfl rfl]
  have hw : wBn a = a.a.length + a.b.length := rfl 
  have ht := subW_or n (wBn a) 
  have hl1 : a.a.length ≤ 9223372036854775807 := hb.k_a 
  obtain ⟨m1, e1⟩ : ∃ m, m = n - (a.a.length : Int) := ⟨_, rfl⟩ 
  have c1 : IntKind.i64.wrap (n - (a.a.length : Int)) = m1 := by rw [e1]; exact wrap_id (by omega) (by omega) 
  by_cases h1 : m1 < 0 
  · have ef : subW n (wBn a) = -1 := by omega 
    simp -implicitDefEqProofs [l_szBan_b, c1, h1, ef] 
  have hl2 : a.b.length ≤ 9223372036854775807 := hb.k_b 
  obtain ⟨m2, e2⟩ : ∃ m, m = m1 - (a.b.length : Int) := ⟨_, rfl⟩ 
  have c2 : IntKind.i64.wrap (m1 - (a.b.length : Int)) = m2 := by rw [e2]; exact wrap_id (by omega) (by omega) 
  by_cases h2 : m2 < 0 
  · have ef : subW n (wBn a) = -1 := by omega 
    simp -implicitDefEqProofs [l_szBan_b, c1, h1, c2, h2, ef] 
  have ef : subW n (wBn a) = m2 := by omega
  simp -implicitDefEqProofs [l_szBan_b, c1, h1, c2, h2, ef]
  all_goals (repeat' split) <;> first | rfl | omega | (simp_all; done) | (simp_all; omega) | skip
theorem c_l_toBan (a : Bn) (hb : wBn a ≤ 1048576) : ev LI TT 74 [.agg (eBn a)] = some (.agg (eBn a), [.dead]) := by
  rw [ev_run (b := l_toBan_b) (rs := [.c 2 4 true 133]) (n := 1) rfl rfl]
  have hw : wBn a = a.a.length + a.b.length := rfl
  simp -implicitDefEqProofs [l_toBan_b, hw]
  all_goals (repeat' split) <;> first | rfl | omega | (simp_all; done) | (simp_all; omega) | skip
theorem c_l_eqBan (a b : Bn) (hb : wBn a ≤ 1073741824) : ev LI TT 87 [.agg (eBn a), .agg (eBn b)] = some (.bool (decide (a = b)), [.dead, .dead]) := by
  rw [ev_run (b := l_eqBan_b) (rs := [.t 4]) (n := 2) rfl rfl]
  have hw : wBn a = a.a.length + a.b.length := rfl 
  rw [dec_Bn] 
  by_cases g1 : a.kind = b.kind 
  rotate_left 
  · simp -implicitDefEqProofs [l_eqBan_b, eq_false g1] 
  by_cases g2 : a.a = b.a 
  rotate_left 
  · simp -implicitDefEqProofs [l_eqBan_b, eq_true g1, eq_false g2] 
  by_cases g3 : a.b = b.b 
  rotate_left 
  · simp -implicitDefEqProofs [l_eqBan_b, eq_true g1, eq_true g2, eq_false g3] 
  by_cases g4 : a.t = b.t 
  rotate_left 
  · simp -implicitDefEqProofs [l_eqBan_b, eq_true g1, eq_true g2, eq_true g3, eq_false g4]
  simp -implicitDefEqProofs [l_eqBan_b, eq_true g1, eq_true g2, eq_true g3, eq_true g4]
  all_goals (repeat' split) <;> first | rfl | omega | (simp_all; done) | (simp_all; omega) | skip
theorem L_l_szBanS (l : List Bn) (hlen : l.length ≤ 9223372036854775807) (hb : bL bBn l) (n : Int) (hn : 0 ≤ n) (hm : n ≤ 9223372036854775807) : loopW (evA (ev LI TT) (okT TT) l_szBanS_L0) [(0, .row .bor 4 (l.map (eBn))), (1, .int .i64 n), (5, .int .i64 0)] = if szL (fun b n => subW n (wBn b)) (l) n < 0 then some (.ret, [(4, .int .i64 (-1))]) else some (.exit 0, [(0, .row .bor 4 (l.map (eBn))), (1, .int .i64 (szL (fun b n => subW n (wBn b)) (l) n)), (5, .int .i64 (l).length), (15, .bool false)]) := by
  refine loop_sz (f := evA (ev LI TT) (okT TT) l_szBanS_L0) (l) (fun i n => [(0, .row .bor 4 (l.map (eBn))), (1, .int .i64 n), (5, .int .i64 i)]) (fun b n => subW n (wBn b)) _ (fun n => [(0, .row .bor 4 (l.map (eBn))), (1, .int .i64 n), (5, .int .i64 (l).length), (15, .bool false)]) n hn hm (fun b n => subW_le _ n) (fun i b n hi hl hn hm => ?_) (fun n => ?_)
  · have hw := wrap_succ i (by first | omega | (simp at hl; omega))
    obtain ⟨_, rfl⟩ := List.getElem?_eq_some_iff.1 hi
    have h2 := c_l_szBan  l[i] n (hb.2 _ (List.getElem_mem hl)) hn hm 
    obtain ⟨m, e1⟩ : ∃ m, m = subW n (wBn l[i]) := ⟨_, rfl⟩ 
    rw [← e1] at h2 ⊢ 
    try simp at h2
    simp -implicitDefEqProofs [l_szBanS_L0, l_szBanS_L0b, hl, hw, h2]
  · simp -implicitDefEqProofs [l_szBanS_L0, l_szBanS_L0b]
theorem c_l_szBanS (l : List Bn) (n : Int) (hb : bL bBn l) (hn : 0 ≤ n) (hm : n ≤ 9223372036854775807) : ev LI TT 31 [.row .bor 4 (l.map (eBn)), .int .i64 n] = some (.int .i64 (subW n (wL wBn l)), [.dead, .dead]) := by
  rw [ev_run (b := l_szBanS_b) (rs := [.t 4]) (n := 2) rfl rfl]
  have hl := hb.1 
  have hw : wL wBn l = l.length + (l.map wBn).sum := rfl 
  have ht := subW_or n (wL wBn l) 
  obtain ⟨m, e1⟩ : ∃ m, m = n - (l.length : Int) := ⟨_, rfl⟩ 
  have h2 : IntKind.i64.wrap (n - (l.length : Int)) = m := by rw [e1]; exact wrap_id (by omega) (by omega) 
  by_cases h : m < 0 
  · have ef : subW n (wL wBn l) = -1 := by omega 
    simp -implicitDefEqProofs [l_szBanS_b, h2, h, ef] 
  have h3 := L_l_szBanS  l hb.1 hb m (by omega) (by omega) 
  rw [szL_subW _ _ _ (by omega)] at h3 
  have hs := subW_or m (l.map wBn).sum 
  obtain ⟨q, e2⟩ : ∃ q, q = subW m (l.map wBn).sum := ⟨_, rfl⟩ 
  rw [← e2] at h3 hs 
  try simp at h3 
  by_cases h4 : q < 0 
  · have ef : subW n (wL wBn l) = -1 := by omega 
    simp only [h4, if_true] at h3 
    simp -implicitDefEqProofs [l_szBanS_b, h2, h, h3, ef] 
  have ef : subW n (wL wBn l) = q := by omega 
  simp only [h4, if_false] at h3
  simp -implicitDefEqProofs [l_szBanS_b, h2, h, h3, ef]
  all_goals (repeat' split) <;> first | rfl | omega | (simp_all; done) | (simp_all; omega) | skip
theorem L_l_toBanS (l : List Bn) (hlen : l.length ≤ 1048576) (hb : wL wBn l ≤ 1048576) : loopW (evA (ev LI TT) (okT TT) l_toBanS_L0) [(0, .row .bor 4 (l.map eBn)), (3, .row .own 4 (fillN (l.map eBn) 0 [.int .i64 0, .str ⟨#[]⟩, .str ⟨#[]⟩, .int .i64 0])), (4, .int .i64 0), (6, .int .i64 l.length)] = some (.exit 0, [(0, .row .bor 4 (l.map eBn)), (3, .row .own 4 (l.map eBn)), (4, .int .i64 (l).length), (6, .int .i64 l.length), (11, .bool false)]) := by
  refine loop_count (f := evA (ev LI TT) (okT TT) l_toBanS_L0) (l) (fun i => [(0, .row .bor 4 (l.map eBn)), (3, .row .own 4 (fillN (l.map eBn) i [.int .i64 0, .str ⟨#[]⟩, .str ⟨#[]⟩, .int .i64 0])), (4, .int .i64 i), (6, .int .i64 l.length)]) _ (fun i b hi hl => ?_) ?_
  · have hw := wrap_succ i (by first | omega | (simp at hl; omega))
    obtain ⟨_, rfl⟩ := List.getElem?_eq_some_iff.1 hi
    have h := c_l_toBan  l[i] (Nat.le_trans (wL_mem (List.getElem_mem hl)) hb) 
    try simp at h
    simp -implicitDefEqProofs [l_toBanS_L0, l_toBanS_L0b, hl, hw, h]
    first | done | (rw [fillN_set _ _ _ _ (by simpa using hl) (by simp)]; done) | (simp only [modify_two]; rw [fillN_set _ _ _ _ (by simpa using hl) (by simp)])
  · simp -implicitDefEqProofs [l_toBanS_L0, l_toBanS_L0b]
theorem c_l_toBanS (l : List Bn) (hb : wL wBn l ≤ 1048576) : ev LI TT 36 [.row .bor 4 (l.map eBn)] = some (.row .own 4 (l.map eBn), [.dead]) := by
  rw [ev_run (b := l_toBanS_b) (rs := [.t 2]) (n := 1) rfl rfl]
  have hlen := wL_len (w := wBn) l 
  have h := L_l_toBanS  l (by omega) hb 
  try simp at h
  simp -implicitDefEqProofs [l_toBanS_b, h, (by omega : (l.length : Int) * 48 ≤ 140737488355328)]
  all_goals (repeat' split) <;> first | rfl | omega | (simp_all; done) | (simp_all; omega) | skip
theorem L_l_eqBanS (ps : List (Bn × Bn)) (hb : ps.length ≤ 9223372036854775807) (hb1 : ∀ x ∈ ps, wBn x.1 ≤ 1073741824) : loopW (evA (ev LI TT) (okT TT) l_eqBanS_L0) [(0, .row .bor 4 (ps.map (fun x : Bn × Bn => eBn x.1))), (1, .row .bor 4 (ps.map (fun x : Bn × Bn => eBn x.2))), (5, .int .i64 0)] = if allB eqB (ps) = true then some (.exit 0, [(0, .row .bor 4 (ps.map (fun x : Bn × Bn => eBn x.1))), (1, .row .bor 4 (ps.map (fun x : Bn × Bn => eBn x.2))), (5, .int .i64 ps.length), (14, .bool false)]) else some (.ret, [(4, .bool false)]) := by
  refine loop_all (f := evA (ev LI TT) (okT TT) l_eqBanS_L0) (ps) (fun i => [(0, .row .bor 4 (ps.map (fun x : Bn × Bn => eBn x.1))), (1, .row .bor 4 (ps.map (fun x : Bn × Bn => eBn x.2))), (5, .int .i64 i)]) eqB _ _ (fun i b hi hl => ?_) ?_
  · have hw := wrap_succ i (by first | omega | (simp at hl; omega))
    obtain ⟨_, rfl⟩ := List.getElem?_eq_some_iff.1 hi
    have h := c_l_eqBan  (ps[i]).1 (ps[i]).2 (hb1 _ (List.getElem_mem hl)); try simp at h
    simp -implicitDefEqProofs [l_eqBanS_L0, l_eqBanS_L0b, hl, hw, eqB, h]
  · simp -implicitDefEqProofs [l_eqBanS_L0, l_eqBanS_L0b]
theorem c_l_eqBanS (a b : List Bn) (hb : wL wBn a ≤ 1073741824) : ev LI TT 42 [.row .bor 4 (a.map eBn), .row .bor 4 (b.map eBn)] = some (.bool (decide (a = b)), [.dead, .dead]) := by
  rw [ev_run (b := l_eqBanS_b) (rs := [.t 4]) (n := 2) rfl rfl]
  simp -implicitDefEqProofs [l_eqBanS_b]
  have hlen := wL_len (w := wBn) a 
  by_cases h : a.length = b.length 
  · obtain ⟨ps, rfl, rfl⟩ := zip_ex h 
    have h1 := L_l_eqBanS  ps (by simp at hlen; omega) (fun x hx => Nat.le_trans (wL_mem (List.mem_map_of_mem hx)) hb) 
    have h2 := allB_eq ps 
    simp at h1 
    rw [← h2] 
    cases h3 : allB eqB ps <;> rw [h3] at h1 <;> simp [h1, Function.comp_def] 
  · have : ¬ a = b := fun e => h (by rw [e]) 
    simp [this] 
    omega
theorem c_l_szShelf (a : Sh) (n : Int) (hb : bSh a) (hn : 0 ≤ n) (hm : n ≤ 9223372036854775807) : ev LI TT 11 [.agg ((eSh .bor) a), .int .i64 n] = some (.int .i64 (subW n (wSh a)), [.dead, .dead]) := by
  rw [ev_run (b := l_szShelf_b) (rs := [.t 4]) (n := 2) rfl rfl]
  have hw : wSh a = wDsk a.disk + wL wKp a.objs + wL wBn a.bans := rfl 
  have ht := subW_or n (wSh a) 
  have c1 := c_l_szDisk  a.disk n hb.k_disk (by omega) (by omega) 
  have s1 := subW_or n (wDsk a.disk) 
  obtain ⟨m1, e1⟩ : ∃ m, m = subW n (wDsk a.disk) := ⟨_, rfl⟩ 
  rw [← e1] at c1 s1 
  try simp at c1 
  by_cases h1 : m1 < 0 
  · have ef : subW n (wSh a) = -1 := by omega 
    simp -implicitDefEqProofs [l_szShelf_b, c1, h1, ef] 
  have c2 := c_l_szKeptS  a.objs m1 hb.k_objs (by omega) (by omega) 
  have s2 := subW_or m1 (wL wKp a.objs) 
  obtain ⟨m2, e2⟩ : ∃ m, m = subW m1 (wL wKp a.objs) := ⟨_, rfl⟩ 
  rw [← e2] at c2 s2 
  try simp at c2 
  by_cases h2 : m2 < 0 
  · have ef : subW n (wSh a) = -1 := by omega 
    simp -implicitDefEqProofs [l_szShelf_b, c1, h1, c2, h2, ef] 
  have c3 := c_l_szBanS  a.bans m2 hb.k_bans (by omega) (by omega) 
  have s3 := subW_or m2 (wL wBn a.bans) 
  obtain ⟨m3, e3⟩ : ∃ m, m = subW m2 (wL wBn a.bans) := ⟨_, rfl⟩ 
  rw [← e3] at c3 s3 
  try simp at c3 
  by_cases h3 : m3 < 0 
  · have ef : subW n (wSh a) = -1 := by omega 
    simp -implicitDefEqProofs [l_szShelf_b, c1, h1, c2, h2, c3, h3, ef] 
  have ef : subW n (wSh a) = m3 := by omega
  simp -implicitDefEqProofs [l_szShelf_b, c1, h1, c2, h2, c3, h3, ef]
  all_goals (repeat' split) <;> first | rfl | omega | (simp_all; done) | (simp_all; omega) | skip
theorem c_l_toShelf (a : Sh) (hb : wSh a ≤ 1048576) : ev LI TT 13 [.agg ((eSh .bor) a)] = some (.agg ((eSh .own) a), [.dead]) := by
  rw [ev_run (b := l_toShelf_b) (rs := [.c 2 6 true 48]) (n := 1) rfl rfl]
  have hw : wSh a = wDsk a.disk + wL wKp a.objs + wL wBn a.bans := rfl 
  have h1 := c_l_toDisk  a.disk (by omega) 
  try simp at h1 
  have h2 := c_l_toKeptS  a.objs (by omega) 
  try simp at h2 
  have h3 := c_l_toBanS  a.bans (by omega) 
  try simp at h3
  simp -implicitDefEqProofs [l_toShelf_b, h1, h2, h3, hw]
  all_goals (repeat' split) <;> first | rfl | omega | (simp_all; done) | (simp_all; omega) | skip
theorem c_l_eqShelf (a b : Sh) (hb : wSh a ≤ 1073741824) : ev LI TT 15 [.agg ((eSh .bor) a), .agg ((eSh .bor) b)] = some (.bool (decide (a = b)), [.dead, .dead]) := by
  rw [ev_run (b := l_eqShelf_b) (rs := [.t 4]) (n := 2) rfl rfl]
  have hw : wSh a = wDsk a.disk + wL wKp a.objs + wL wBn a.bans := rfl 
  rw [dec_Sh] 
  have c1 := c_l_eqDisk  a.disk b.disk (by omega) 
  cases g1 : decide (a.disk = b.disk) 
  · rw [g1] at c1 
    try simp at c1 
    simp -implicitDefEqProofs [l_eqShelf_b, c1] 
  rw [g1] at c1 
  try simp at c1 
  have c2 := c_l_eqKeptS  a.objs b.objs (by omega) 
  cases g2 : decide (a.objs = b.objs) 
  · rw [g2] at c2 
    try simp at c2 
    simp -implicitDefEqProofs [l_eqShelf_b, c1, c2] 
  rw [g2] at c2 
  try simp at c2 
  have c3 := c_l_eqBanS  a.bans b.bans (by omega) 
  cases g3 : decide (a.bans = b.bans) 
  · rw [g3] at c3 
    try simp at c3 
    simp -implicitDefEqProofs [l_eqShelf_b, c1, c2, c3] 
  rw [g3] at c3 
  try simp at c3 
  by_cases g4 : a.next = b.next 
  rotate_left 
  · simp -implicitDefEqProofs [l_eqShelf_b, c1, c2, c3, eq_false g4] 
  by_cases g5 : a.seq = b.seq 
  rotate_left 
  · simp -implicitDefEqProofs [l_eqShelf_b, c1, c2, c3, eq_true g4, eq_false g5]
  simp -implicitDefEqProofs [l_eqShelf_b, c1, c2, c3, eq_true g4, eq_true g5]
  all_goals (repeat' split) <;> first | rfl | omega | (simp_all; done) | (simp_all; omega) | skip
end M
set_option linter.unusedVariables false
set_option linter.unusedSimpArgs false
namespace M
open Go
@[simp] theorem c_s_l1In (x : Int) (lo : Int) (hi : Int) : ev LI TT 46 [.int .i64 x, .int .i64 lo, .int .i64 hi] = some (.bool ((decide (lo ≤ x ∧ x ≤ hi))), [.dead, .dead, .dead]) := by
  rw [ev_run (b := s_l1In_b) (rs := [.t 6]) (n := 3) rfl rfl]
  simp -implicitDefEqProofs [s_l1In_b]
  try (by_cases h1 : lo ≤ x <;> by_cases h2 : x ≤ hi <;> simp [h1, h2])
@[simp] theorem c_i_inRange (x : Int) (lo : Int) (hi : Int) : ev LI TT 77 [.int .i64 x, .int .i64 lo, .int .i64 hi] = some (.bool ((decide (lo ≤ x ∧ x ≤ hi))), [.dead, .dead, .dead]) := by
  rw [ev_run (b := i_inRange_b) (rs := [.t 6]) (n := 3) rfl rfl]
  simp -implicitDefEqProofs [i_inRange_b]
  try (by_cases h1 : lo ≤ x <;> by_cases h2 : x ≤ hi <;> simp [h1, h2])
theorem L_s_TokenOk (s : Str) (hb : s.length ≤ 9223372036854775807) : loopW (evA (ev LI TT) (okT TT) s_TokenOk_L0) [(0, .str ⟨s.toArray⟩), (3, .int .i64 0)] = if allB tokB (s) = true then some (.exit 0, [(0, .str ⟨s.toArray⟩), (3, .int .i64 (s).length), (8, .bool false)]) else some (.ret, [(2, .bool false)]) := by
  refine loop_all (f := evA (ev LI TT) (okT TT) s_TokenOk_L0) (s) (fun i => [(0, .str ⟨s.toArray⟩), (3, .int .i64 i)]) tokB _ _ (fun i b hi hl => ?_) ?_
  · have hw := wrap_succ i (by first | omega | (simp at hl; omega))
    obtain ⟨_, rfl⟩ := List.getElem?_eq_some_iff.1 hi
    unfold tokB
    simp -implicitDefEqProofs [s_TokenOk_L0, s_TokenOk_L0b, hl, hw]
    all_goals (repeat' split) <;> first | rfl | omega | (simp_all; done) | (simp_all; omega) | skip
  · simp -implicitDefEqProofs [s_TokenOk_L0, s_TokenOk_L0b]
theorem c_s_TokenOk (s : Str) (hb : s.length ≤ 9223372036854775807) : ev LI TT 103 [.str ⟨s.toArray⟩] = some (.bool ((tokenOk s)), [.dead]) := by
  rw [ev_run (b := s_TokenOk_b) (rs := [.t 2]) (n := 1) rfl rfl]
  unfold tokenOk
  have u1 := L_s_TokenOk  s hb
  try simp at u1
  simp -implicitDefEqProofs [s_TokenOk_b, u1]
  all_goals (repeat' split) <;> first | rfl | omega | (simp_all; done) | (simp_all; omega) | skip
theorem L_i_TokenOk (s : Str) (hb : s.length ≤ 9223372036854775807) : loopW (evA (ev LI TT) (okT TT) i_TokenOk_L0) [(0, .str ⟨s.toArray⟩), (3, .int .i64 0)] = if allB tokB (s) = true then some (.exit 0, [(0, .str ⟨s.toArray⟩), (3, .int .i64 (s).length), (7, .bool false)]) else some (.ret, [(2, .bool false)]) := by
  refine loop_all (f := evA (ev LI TT) (okT TT) i_TokenOk_L0) (s) (fun i => [(0, .str ⟨s.toArray⟩), (3, .int .i64 i)]) tokB _ _ (fun i b hi hl => ?_) ?_
  · have hw := wrap_succ i (by first | omega | (simp at hl; omega))
    obtain ⟨_, rfl⟩ := List.getElem?_eq_some_iff.1 hi
    unfold tokB
    simp -implicitDefEqProofs [i_TokenOk_L0, i_TokenOk_L0b, hl, hw]
    all_goals (repeat' split) <;> first | rfl | omega | (simp_all; done) | (simp_all; omega) | skip
  · simp -implicitDefEqProofs [i_TokenOk_L0, i_TokenOk_L0b]
theorem c_i_TokenOk (s : Str) (hb : s.length ≤ 9223372036854775807) : ev LI TT 117 [.str ⟨s.toArray⟩] = some (.bool ((tokenOk s)), [.dead]) := by
  rw [ev_run (b := i_TokenOk_b) (rs := [.t 2]) (n := 1) rfl rfl]
  unfold tokenOk
  have u1 := L_i_TokenOk  s hb
  try simp at u1
  simp -implicitDefEqProofs [i_TokenOk_b, u1]
  all_goals (repeat' split) <;> first | rfl | omega | (simp_all; done) | (simp_all; omega) | skip
theorem L_i_areFrom (s : Str) (lo : UInt8) (hb : s.length ≤ 9223372036854775807) : loopW (evA (ev LI TT) (okT TT) i_areFrom_L0) [(0, .str ⟨s.toArray⟩), (1, .int .u8 (lo.toNat : Int)), (5, .int .i64 0)] = if allB (visB lo.toNat) (s) = true then some (.exit 0, [(0, .str ⟨s.toArray⟩), (1, .int .u8 (lo.toNat : Int)), (5, .int .i64 (s).length), (9, .bool false)]) else some (.ret, [(4, .bool false)]) := by
  refine loop_all (f := evA (ev LI TT) (okT TT) i_areFrom_L0) (s) (fun i => [(0, .str ⟨s.toArray⟩), (1, .int .u8 (lo.toNat : Int)), (5, .int .i64 i)]) (visB lo.toNat) _ _ (fun i b hi hl => ?_) ?_
  · have hw := wrap_succ i (by first | omega | (simp at hl; omega))
    obtain ⟨_, rfl⟩ := List.getElem?_eq_some_iff.1 hi
    unfold visB
    simp -implicitDefEqProofs [i_areFrom_L0, i_areFrom_L0b, hl, hw]
    all_goals (repeat' split) <;> first | rfl | omega | (simp_all; done) | (simp_all; omega) | skip
  · simp -implicitDefEqProofs [i_areFrom_L0, i_areFrom_L0b]
theorem c_i_areFrom (s : Str) (lo : UInt8) (hb : s.length ≤ 9223372036854775807) : ev LI TT 139 [.str ⟨s.toArray⟩, .int .u8 (lo.toNat : Int)] = some (.bool ((allB (visB lo.toNat) s)), [.dead, .dead]) := by
  rw [ev_run (b := i_areFrom_b) (rs := [.t 4]) (n := 2) rfl rfl]
  have u1 := L_i_areFrom  s lo hb
  try simp at u1
  simp -implicitDefEqProofs [i_areFrom_b, u1]
  all_goals (repeat' split) <;> first | rfl | omega | (simp_all; done) | (simp_all; omega) | skip
end M
set_option linter.unusedVariables false
set_option linter.unusedSimpArgs false
namespace M
open Go
def nsp (b : UInt8) : Bool := decide ¬ (b.toNat : Int) = 32
theorem L_s_Trim (s : Str) (hb : s.length ≤ 9223372036854775807) : loopW (evA (ev LI TT) (okT TT) s_Trim_L0) [(0, .str ⟨s.toArray⟩), (3, .int .i64 0), (4, .int .i64 s.length)] = some (.exit 0, (fun (i : Nat) => [(0, .str ⟨s.toArray⟩), (3, .int .i64 i), (4, .int .i64 s.length), (15, .bool false)]) (untilI nsp (s))) := by
  refine loop_until (f := evA (ev LI TT) (okT TT) s_Trim_L0) (s) (fun i => [(0, .str ⟨s.toArray⟩), (3, .int .i64 i), (4, .int .i64 s.length)]) nsp (fun (i : Nat) => [(0, .str ⟨s.toArray⟩), (3, .int .i64 i), (4, .int .i64 s.length), (15, .bool false)]) (fun i b hi hl => ?_) ?_
  · have hw := wrap_succ i (by first | omega | (simp at hl; omega))
    obtain ⟨_, rfl⟩ := List.getElem?_eq_some_iff.1 hi
    simp -implicitDefEqProofs [s_Trim_L0, s_Trim_L0b, hl, hw, nsp]
    all_goals (repeat' split) <;> first | rfl | omega | (simp_all; done) | (simp_all; omega) | skip
  · simp -implicitDefEqProofs [s_Trim_L0, s_Trim_L0b]
theorem L_s_Trim_L1 (s : Str) (k : Nat) (hk : k ≤ s.length) (hb : s.length ≤ 9223372036854775807) : loopW (evA (ev LI TT) (okT TT) s_Trim_L1) [(0, .str ⟨s.toArray⟩), (3, .int .i64 k), (4, .int .i64 ((s.length - 0 : Nat) : Int))] = some (.exit 2, (fun (i : Nat) => [(0, .str ⟨s.toArray⟩), (3, .int .i64 k), (4, .int .i64 ((s.length - i : Nat) : Int)), (27, .bool false)]) (untilI nsp ((s.drop k).reverse))) := by
  refine loop_until (f := evA (ev LI TT) (okT TT) s_Trim_L1) ((s.drop k).reverse) (fun i => [(0, .str ⟨s.toArray⟩), (3, .int .i64 k), (4, .int .i64 ((s.length - i : Nat) : Int))]) nsp (fun (i : Nat) => [(0, .str ⟨s.toArray⟩), (3, .int .i64 k), (4, .int .i64 ((s.length - i : Nat) : Int)), (27, .bool false)]) (fun i b hi hl => ?_) ?_
  · have hw := wrap_succ i (by first | omega | (simp at hl; omega))
    obtain ⟨_, rfl⟩ := List.getElem?_eq_some_iff.1 hi
    simp at hl 
    obtain ⟨m, hm⟩ : ∃ m, s.length - i = m + 1 := ⟨s.length - i - 1, by omega⟩ 
    have e1 : s.length - (i + 1) = m := by omega 
    have e2 : IntKind.i64.wrap (m : Int) = m := wrap_id (by omega) (by omega) 
    have e3 : m < s.length := by omega 
    have e4 : ((s.drop k).reverse)[i] = s[m] := by simp; congr 1; omega 
    have e5 : (k : Int) < (m : Int) + 1 := by omega 
    rw [e4, hm, e1]
    simp -implicitDefEqProofs [s_Trim_L1, s_Trim_L1b, hl, hw, nsp, e2, e3, e5]
    try (rw [List.getElem?_eq_getElem e3]; simp [e2]) 
    all_goals (repeat' split) <;> first | rfl | omega | (simp_all; done) | (simp_all; omega) | skip
  · simp only [List.length_reverse, List.length_drop, show s.length - (s.length - k) = k by omega] 
    simp -implicitDefEqProofs [s_Trim_L1, s_Trim_L1b]
end M
set_option linter.unusedVariables false
set_option linter.unusedSimpArgs false
namespace M
open Go
theorem nsp_iff (b : UInt8) : nsp b = true ↔ b ≠ 32 := by
  unfold nsp
  have : ((b.toNat : Int) = 32) ↔ b = 32 := by
    constructor
    · intro h; exact UInt8.toNat_inj.1 (by have e : (32 : UInt8).toNat = 32 := rfl; omega)
    · rintro rfl; rfl
  simp [this]
theorem trimL_until (s : Str) : Lib.trimLeftB s 32 = s.drop (untilI nsp s) := by
  refine Lib.trimLeftB_drop s 32 _ (untilI_le _ _) (fun j b hj hb => ?_) fun b hb => (nsp_iff b).1 (untilI_at _ _ _ hb)
  have := untilI_before _ _ _ _ hj hb
  by_cases h : b = 32
  · exact h
  · rw [(nsp_iff b).2 h] at this; cases this
theorem trimR_until (s : Str) : Lib.trimRightB s 32 = s.take (s.length - untilI nsp s.reverse) := by
  have h := trimL_until s.reverse
  unfold Lib.trimLeftB at h
  unfold Lib.trimRightB
  rw [h, List.drop_reverse, List.reverse_reverse]
theorem trimS_cut (s : Str) : (s.drop (untilI nsp s)).take (s.length - untilI nsp (s.drop (untilI nsp s)).reverse - untilI nsp s) = trimS s := by
  rw [trimS_left, trimL_until, trimR_until, List.length_drop]
  congr 1
  omega
theorem c_s_Trim (s : Str) (hb : s.length ≤ 9223372036854775807) : ev LI TT 129 [.str ⟨s.toArray⟩] = some (.str ⟨(trimS s).toArray⟩, [.dead]) := by
  rw [ev_run (b := s_Trim_b) (rs := [.t 2]) (n := 1) rfl rfl]
  have h1 := untilI_le nsp s 
  have h2 := untilI_le nsp (s.drop (untilI nsp s)).reverse 
  simp only [List.length_reverse, List.length_drop] at h2 
  have h3 := trimS_cut s
  have u1 := L_s_Trim  s hb
  try simp at u1
  have u2 := L_s_Trim_L1  s (untilI nsp s) (untilI_le _ _) hb
  try simp at u2
  simp -implicitDefEqProofs [s_Trim_b, u1, u2, (by omega : (untilI nsp s : Int) ≤ ((s.length - untilI nsp (s.drop (untilI nsp s)).reverse : Nat) : Int)), (by omega : ((s.length - untilI nsp (s.drop (untilI nsp s)).reverse : Nat) : Int) ≤ s.length), Lib.extract_mk, h3]
  all_goals (repeat' split) <;> first | rfl | omega | (simp_all; done) | (simp_all; omega) | skip
theorem c_i_Trim (s : Str) (hb : s.length ≤ 9223372036854775807) : ev LI TT 144 [.str ⟨s.toArray⟩] = some (.str ⟨(trimS s).toArray⟩, [.dead]) := by
  rw [ev_run (b := i_Trim_b) (rs := [.t 2]) (n := 1) rfl rfl]
  have u1 := c_x_strings_Trim  s hb
  try simp at u1
  simp -implicitDefEqProofs [i_Trim_b, u1]
  all_goals (repeat' split) <;> first | rfl | omega | (simp_all; done) | (simp_all; omega) | skip
theorem L_s_ValueOk (s : Str) (hb : s.length ≤ 9223372036854775807) : loopW (evA (ev LI TT) (okT TT) s_ValueOk_L0) [(0, .str ⟨s.toArray⟩), (3, .int .i64 0)] = if allB (visB 32) (s) = true then some (.exit 0, [(0, .str ⟨s.toArray⟩), (3, .int .i64 (s).length), (7, .bool false)]) else some (.ret, [(2, .bool false)]) := by
  refine loop_all (f := evA (ev LI TT) (okT TT) s_ValueOk_L0) (s) (fun i => [(0, .str ⟨s.toArray⟩), (3, .int .i64 i)]) (visB 32) _ _ (fun i b hi hl => ?_) ?_
  · have hw := wrap_succ i (by first | omega | (simp at hl; omega))
    obtain ⟨_, rfl⟩ := List.getElem?_eq_some_iff.1 hi
    unfold visB
    simp -implicitDefEqProofs [s_ValueOk_L0, s_ValueOk_L0b, hl, hw]
    all_goals (repeat' split) <;> first | rfl | omega | (simp_all; done) | (simp_all; omega) | skip
  · simp -implicitDefEqProofs [s_ValueOk_L0, s_ValueOk_L0b]
theorem c_s_ValueOk (s : Str) (hb : s.length ≤ 9223372036854775807) : ev LI TT 95 [.str ⟨s.toArray⟩] = some (.bool ((valueOk s)), [.dead]) := by
  rw [ev_run (b := s_ValueOk_b) (rs := [.t 2]) (n := 1) rfl rfl]
  unfold valueOk
  have u1 := L_s_ValueOk  s hb
  try simp at u1
  have u2 := c_s_Trim  s hb
  try simp at u2
  by_cases g1 : allB (visB 32) s = true
  rotate_left
  · simp -implicitDefEqProofs [s_ValueOk_b, u1, u2, g1]
  by_cases g2 : 1 ≤ (s.length : Int)
  rotate_left
  · simp -implicitDefEqProofs [s_ValueOk_b, u1, u2, g1, eq_false g2]
  by_cases g3 : (s.length : Int) ≤ 60
  rotate_left
  · simp -implicitDefEqProofs [s_ValueOk_b, u1, u2, g1, eq_true g2, eq_false g3]
  simp -implicitDefEqProofs [s_ValueOk_b, u1, u2, g1, eq_true g2, eq_true g3]
  all_goals (repeat' split) <;> first | rfl | omega | (simp_all; done) | (simp_all; omega) | skip
theorem c_i_ValueOk (s : Str) (hb : s.length ≤ 9223372036854775807) : ev LI TT 118 [.str ⟨s.toArray⟩] = some (.bool ((valueOk s)), [.dead]) := by
  rw [ev_run (b := i_ValueOk_b) (rs := [.t 2]) (n := 1) rfl rfl]
  unfold valueOk 
  have e32 : (32 : UInt8).toNat = 32 := rfl
  have u1 := c_i_areFrom  s 32 hb
  try simp at u1
  have u2 := c_i_Trim  s hb
  try simp at u2
  by_cases g1 : 1 ≤ (s.length : Int)
  rotate_left
  · simp -implicitDefEqProofs [i_ValueOk_b, u1, u2, eq_false g1]
  by_cases g2 : (s.length : Int) ≤ 60
  rotate_left
  · simp -implicitDefEqProofs [i_ValueOk_b, u1, u2, eq_true g1, eq_false g2]
  by_cases g3 : allB (visB 32) s = true
  rotate_left
  · simp -implicitDefEqProofs [i_ValueOk_b, u1, u2, eq_true g1, eq_true g2, g3]
  simp -implicitDefEqProofs [i_ValueOk_b, u1, u2, eq_true g1, eq_true g2, g3]
  all_goals (repeat' split) <;> first | rfl | omega | (simp_all; done) | (simp_all; omega) | skip
theorem L_s_l3Path (s : Str) (hb : s.length ≤ 9223372036854775807) : loopW (evA (ev LI TT) (okT TT) s_l3Path_L0) [(0, .str ⟨s.toArray⟩), (3, .int .i64 0)] = if allB (visB 33) (s) = true then some (.exit 0, [(0, .str ⟨s.toArray⟩), (3, .int .i64 (s).length), (7, .bool false)]) else some (.ret, [(2, .bool false)]) := by
  refine loop_all (f := evA (ev LI TT) (okT TT) s_l3Path_L0) (s) (fun i => [(0, .str ⟨s.toArray⟩), (3, .int .i64 i)]) (visB 33) _ _ (fun i b hi hl => ?_) ?_
  · have hw := wrap_succ i (by first | omega | (simp at hl; omega))
    obtain ⟨_, rfl⟩ := List.getElem?_eq_some_iff.1 hi
    unfold visB
    simp -implicitDefEqProofs [s_l3Path_L0, s_l3Path_L0b, hl, hw]
    all_goals (repeat' split) <;> first | rfl | omega | (simp_all; done) | (simp_all; omega) | skip
  · simp -implicitDefEqProofs [s_l3Path_L0, s_l3Path_L0b]
theorem c_s_l3Path (s : Str) (hb : s.length ≤ 9223372036854775807) : ev LI TT 57 [.str ⟨s.toArray⟩] = some (.bool ((pathOk s)), [.dead]) := by
  rw [ev_run (b := s_l3Path_b) (rs := [.t 2]) (n := 1) rfl rfl]
  unfold pathOk
  have u1 := L_s_l3Path  s hb
  try simp at u1
  by_cases g1 : allB (visB 33) s = true
  rotate_left
  · simp -implicitDefEqProofs [s_l3Path_b, u1, g1]
  by_cases g2 : 1 ≤ (s.length : Int)
  rotate_left
  · simp -implicitDefEqProofs [s_l3Path_b, u1, g1, eq_false g2]
  by_cases g3 : (s.length : Int) ≤ 60
  rotate_left
  · simp -implicitDefEqProofs [s_l3Path_b, u1, g1, eq_true g2, eq_false g3]
  obtain ⟨b, hb0⟩ : ∃ b, s[0]? = some b := ⟨s[0]'(by omega), by simp⟩
  simp -implicitDefEqProofs [s_l3Path_b, u1, g1, eq_true g2, eq_true g3, hb0]
  all_goals (repeat' split) <;> first | rfl | omega | (simp_all; done) | (simp_all; omega) | skip
theorem c_i_pathOk (s : Str) (hb : s.length ≤ 9223372036854775807) : ev LI TT 109 [.str ⟨s.toArray⟩] = some (.bool ((pathOk s)), [.dead]) := by
  rw [ev_run (b := i_pathOk_b) (rs := [.t 2]) (n := 1) rfl rfl]
  unfold pathOk 
  have e33 : (33 : UInt8).toNat = 33 := rfl
  have u1 := c_i_areFrom  s 33 hb
  try simp at u1
  by_cases g1 : 1 ≤ (s.length : Int)
  rotate_left
  · simp -implicitDefEqProofs [i_pathOk_b, u1, eq_false g1]
  by_cases g2 : (s.length : Int) ≤ 60
  rotate_left
  · simp -implicitDefEqProofs [i_pathOk_b, u1, eq_true g1, eq_false g2]
  obtain ⟨b, hb0⟩ : ∃ b, s[0]? = some b := ⟨s[0]'(by omega), by simp⟩ 
  by_cases h47 : (b.toNat : Int) = 47 
  all_goals
  simp -implicitDefEqProofs [i_pathOk_b, u1, eq_true g1, eq_true g2, hb0, h47]
  all_goals (repeat' split) <;> first | rfl | omega | (simp_all; done) | (simp_all; omega) | skip
@[simp] theorem c_i_isTime (t : Int) : ev LI TT 51 [.int .i64 t] = some (.bool ((decide (0 ≤ t ∧ t ≤ 1000000))), [.dead]) := by
  rw [ev_run (b := i_isTime_b) (rs := [.t 2]) (n := 1) rfl rfl]
  simp -implicitDefEqProofs [i_isTime_b]
  all_goals (repeat' split) <;> first | rfl | omega | (simp_all; done) | (simp_all; omega) | skip
theorem c_i_NumText (n : Int) : ev LI TT 38 [.int .i64 n] = some (.str ⟨(numText n).toArray⟩, [.dead]) := by
  rw [ev_run (b := i_NumText_b) (rs := [.t 2]) (n := 1) rfl rfl]
  unfold numText 
  by_cases hn : 0 ≤ n ∧ n ≤ 1000000 
  rotate_left 
  · have hf : (decide (0 ≤ n) && decide (n ≤ 1000000)) = false := by simp; omega 
    simp -implicitDefEqProofs [i_NumText_b, hn, hf] 
  obtain ⟨k, rfl⟩ : ∃ k : Nat, n = k := ⟨n.toNat, by omega⟩
  have u1 := c_x_strconv_Itoa  k (by omega)
  try simp at u1
  simp -implicitDefEqProofs [i_NumText_b, u1, hn]
  all_goals (repeat' split) <;> first | rfl | omega | (simp_all; done) | (simp_all; omega) | skip
end M
set_option linter.unusedVariables false
set_option linter.unusedSimpArgs false
namespace M
open Go
def lowOut (s : Str) : Str := lowS s
theorem L_s_Lower (s : Str) (hb : s.length ≤ 1073741824) : loopW (evA (ev LI TT) (okT TT) s_Lower_L0) [(0, .str ⟨s.toArray⟩), (3, .row .own 1 (([]).map eU)), (4, .int .i64 0)] = some (.exit 0, [(0, .str ⟨s.toArray⟩), (3, .row .own 1 ((((s).flatMap (fun b => [lowB b]))).map eU)), (4, .int .i64 (s).length), (10, .bool false)]) := by
  refine loop_flat (f := evA (ev LI TT) (okT TT) s_Lower_L0) (s) (fun b => [lowB b]) (fun i out => [(0, .str ⟨s.toArray⟩), (3, .row .own 1 ((out).map eU)), (4, .int .i64 i)]) (fun out => [(0, .str ⟨s.toArray⟩), (3, .row .own 1 ((out).map eU)), (4, .int .i64 (s).length), (10, .bool false)]) (fun i b out hi hl hout => ?_) (fun out hout => ?_)
  · have hw := wrap_succ i (by first | omega | (simp at hl; omega))
    obtain ⟨_, rfl⟩ := List.getElem?_eq_some_iff.1 hi
    have hlo : out.length = i := by rw [hout]; exact flat_one_len _ _ _ (by omega) 
    have hx := s[i].toNat_lt 
    unfold lowB 
    by_cases h1 : 65 ≤ (s[i]).toNat 
    rotate_left 
    · have h1' : ¬ (65 : Int) ≤ (s[i]).toNat := by omega 
      simp -implicitDefEqProofs [s_Lower_L0, s_Lower_L0b, hl, hw, h1, h1', hlo, takeE] 
      omega 
    by_cases h2 : (s[i]).toNat ≤ 90 
    rotate_left 
    · have h1' : (65 : Int) ≤ (s[i]).toNat := by omega 
      have h2' : ¬ ((s[i]).toNat : Int) ≤ 90 := by omega 
      have h2'' : 90 < ((s[i]).toNat : Int) := by omega 
      simp -implicitDefEqProofs [s_Lower_L0, s_Lower_L0b, hl, hw, h1, h1', h2, h2', h2'', hlo, takeE] 
      omega 
    have h1' : (65 : Int) ≤ (s[i]).toNat := by omega 
    have h2' : ((s[i]).toNat : Int) ≤ 90 := by omega 
    have h3 := lowB_add s[i] ⟨h1, h2⟩ 
    have h4 : IntKind.u8.wrap ((s[i]).toNat + 32) = (s[i]).toNat + 32 := wrap8_id (by omega) (by omega)
    simp -implicitDefEqProofs [s_Lower_L0, s_Lower_L0b, hl, hw, h1, h1', h2, h2', hlo, takeE, h3, h4]
    omega
  · simp -implicitDefEqProofs [s_Lower_L0, s_Lower_L0b]
theorem c_s_Lower (s : Str) (hb : s.length ≤ 1073741824) : ev LI TT 106 [.str ⟨s.toArray⟩] = some (.str ⟨(lowS s).toArray⟩, [.dead]) := by
  rw [ev_run (b := s_Lower_b) (rs := [.t 2]) (n := 1) rfl rfl]
  have hl : (lowS s).length = s.length := by simp [lowS] 
  have e : s.flatMap (fun b => [lowB b]) = lowS s := flatMap_one lowB s
  have u1 := L_s_Lower  s hb
  try simp at u1
  simp -implicitDefEqProofs [s_Lower_b, u1, e, hl, rowAt, (by omega : s.length ≤ 9223372036854775807)]
  all_goals (repeat' split) <;> first | rfl | omega | (simp_all; done) | (simp_all; omega) | skip
theorem set_low (s : Str) (i : Nat) (h : i < s.length) (x : UInt8) (hx : x = lowB s[i]) : (lowS (s.take i) ++ s.drop i).set i x = lowS (s.take (i + 1)) ++ s.drop (i + 1) := by
  subst hx
  rw [List.set_append_right _ _ (by simp [lowS]; omega), List.drop_eq_getElem_cons h]
  have : i - (lowS (s.take i)).length = 0 := by simp [lowS]; omega
  rw [this, List.take_succ_eq_append_getElem h]
  simp only [List.set_cons_zero, lowS, List.map_append, List.map_cons, List.map_nil, List.append_assoc, List.cons_append, List.nil_append]
theorem set_same_low (s : Str) (i : Nat) (h : i < s.length) (hx : lowB s[i] = s[i]) : lowS (s.take i) ++ s.drop i = lowS (s.take (i + 1)) ++ s.drop (i + 1) := by
  rw [List.take_succ_eq_append_getElem h, List.drop_eq_getElem_cons h]
  simp only [lowS, hx, List.map_append, List.map_cons, List.map_nil, List.append_assoc, List.cons_append, List.nil_append]
theorem eU_set (l : Str) (i : Nat) (x : Int) (b : UInt8) (hx : x = (b.toNat : Int)) : (l.map eU).modify i (fun e => e.set 0 (X.int .u8 x)) = (l.set i b).map eU := by
  subst hx
  apply List.ext_getElem?
  intro j
  rw [List.getElem?_modify, List.getElem?_map, List.getElem?_map, List.getElem?_set]
  by_cases h : i = j
  · subst h
    by_cases h2 : i < l.length
    · simp [h2]
    · simp [h2, List.getElem?_eq_none (Nat.le_of_not_lt h2)]
  · simp only [h, if_false]
    cases l[j]? <;> rfl
theorem L_i_Lower (s : Str) (hb : s.length ≤ 1073741824) : loopW (evA (ev LI TT) (okT TT) i_Lower_L0) [(3, .row .own 1 ((lowS (s.take 0) ++ s.drop 0).map eU)), (6, .str ⟨s.toArray⟩), (8, .ref 3 []), (9, .int .i64 s.length), (10, .int .i64 0)] = some (.exit 0, [(3, .row .own 1 ((lowS s).map eU)), (6, .str ⟨s.toArray⟩), (8, .ref 3 []), (9, .int .i64 s.length), (10, .int .i64 (s).length), (11, .bool false)]) := by
  refine loop_count (f := evA (ev LI TT) (okT TT) i_Lower_L0) (s) (fun i => [(3, .row .own 1 ((lowS (s.take i) ++ s.drop i).map eU)), (6, .str ⟨s.toArray⟩), (8, .ref 3 []), (9, .int .i64 s.length), (10, .int .i64 i)]) _ (fun i b hi hl => ?_) ?_
  · have hw := wrap_succ i (by first | omega | (simp at hl; omega))
    obtain ⟨_, rfl⟩ := List.getElem?_eq_some_iff.1 hi
    have hk : (lowS (s.take i) ++ s.drop i).length = s.length := by simp [lowS]; omega 
    have hx := s[i].toNat_lt 
    have hg : (lowS (s.take i) ++ s.drop i)[i]? = some s[i] := by rw [List.getElem?_append_right (by simp [lowS]; omega)]; simp [lowS, Nat.min_eq_left (Nat.le_of_lt hl)] 
    have hg' : ∀ h, (lowS (s.take i) ++ s.drop i)[i]'h = s[i] := fun h => by rw [List.getElem?_eq_getElem h] at hg; exact Option.some.inj hg 
    generalize hq : lowS (s.take i) ++ s.drop i = q at hk hg hg' ⊢ 
    have hlq : i < q.length := by omega 
    by_cases h1 : 65 ≤ (s[i]).toNat 
    rotate_left 
    · have h1' : ¬ (65 : Int) ≤ (s[i]).toNat := by omega 
      have e := set_same_low s i hl (by unfold lowB; rw [if_neg (by omega)]) 
      rw [hq] at e 
      simp -implicitDefEqProofs [i_Lower_L0, i_Lower_L0b, hl, hw, hg, hg', hlq, h1', ← e] 
    by_cases h2 : (s[i]).toNat ≤ 90 
    rotate_left 
    · have h1' : (65 : Int) ≤ (s[i]).toNat := by omega 
      have h2'' : 90 < ((s[i]).toNat : Int) := by omega 
      have h2' : ¬ ((s[i]).toNat : Int) ≤ 90 := by omega 
      have e := set_same_low s i hl (by unfold lowB; rw [if_neg (by omega)]) 
      rw [hq] at e 
      simp -implicitDefEqProofs [i_Lower_L0, i_Lower_L0b, hl, hw, hg, hg', hlq, h1', h2', h2'', ← e] 
    have h1' : (65 : Int) ≤ (s[i]).toNat := by omega 
    have h2' : ((s[i]).toNat : Int) ≤ 90 := by omega 
    have h3 := lowB_add s[i] ⟨h1, h2⟩ 
    have h4 : IntKind.u8.wrap ((s[i]).toNat + 32) = (s[i]).toNat + 32 := wrap8_id (by omega) (by omega) 
    have e := set_low s i hl (s[i] + 32) (by unfold lowB; rw [if_pos ⟨h1, h2⟩]) 
    rw [hq] at e 
    have e2 := eU_set q i _ (s[i] + 32) (show ((s[i]).toNat : Int) + 32 = _ by rw [h3]; rfl) 
    rw [e] at e2
    simp -implicitDefEqProofs [i_Lower_L0, i_Lower_L0b, hl, hw, hg, hg', hlq, h1', h2', h4, e2]
    all_goals (repeat' split) <;> first | rfl | omega | (simp_all; done) | (simp_all; omega) | skip
  · simp only [List.take_length, List.drop_length, List.append_nil] 
    simp -implicitDefEqProofs [i_Lower_L0, i_Lower_L0b]
theorem c_i_Lower (s : Str) (hb : s.length ≤ 1073741824) : ev LI TT 143 [.str ⟨s.toArray⟩] = some (.str ⟨(lowS s).toArray⟩, [.dead]) := by
  rw [ev_run (b := i_Lower_b) (rs := [.t 2]) (n := 1) rfl rfl]
  have hl : (lowS s).length = s.length := by simp [lowS] 
  have e0 : lowS (s.take 0) ++ s.drop 0 = s := by simp [lowS]
  have u1 := L_i_Lower  s hb
  try simp at u1
  simp -implicitDefEqProofs [i_Lower_b, u1, hl, rowAt, (by omega : s.length ≤ 9223372036854775807)]
  all_goals (repeat' split) <;> first | rfl | omega | (simp_all; done) | (simp_all; omega) | skip
end M
set_option linter.unusedVariables false
set_option linter.unusedSimpArgs false
namespace M
open Go
theorem L_s_NumText (n : Nat) (out : Str) (hn : out.length + n ≤ 9223372036854775807) : loopW (evA (ev LI TT) (okT TT) s_NumText_L0) [(0, .int .i64 n), (3, .str ⟨out.toArray⟩)] = some (.exit 0, [(0, .int .i64 0), (3, .str ⟨(markD n out).toArray⟩), (10, .bool false)]) := by
  have hs : ∀ s, evA (ev LI TT) (okT TT) s_NumText_L0 s = evA (ev LI TT) (okT TT) s_NumText_L0b s := fun _ => rfl
  induction n using Nat.strongRecOn generalizing out with
  | ind n ih =>
    rw [loopW_eq, hs]
    unfold markD
    by_cases h : n = 0
    · subst h
      simp -implicitDefEqProofs [s_NumText_L0b]
    · have hp : 0 < n := by omega
      have := ih (n / 10) (by omega) (UInt8.ofNat (48 + n % 10) :: out) (by rw [List.length_cons]; omega)
      have e1 : ((n : Int)).tmod 10 = ((n % 10 : Nat) : Int) := by rw [Int.tmod_eq_emod_of_nonneg (by omega)]; omega
      have e4 : ((n : Int)).tdiv 10 = ((n / 10 : Nat) : Int) := by rw [Int.tdiv_eq_ediv_of_nonneg (by omega)]; omega
      have e2 : IntKind.i64.wrap (48 + ((n % 10 : Nat) : Int)) = ((48 + n % 10 : Nat) : Int) := by rw [wrap_id (by omega) (by omega)]; omega
      have e3 : IntKind.u8.wrap ((48 + n % 10 : Nat) : Int) = ((48 + n % 10 : Nat) : Int) := wrap8_id' (by omega) (by omega)
      have e5 := u8s_one' (48 + n % 10) (by omega)
      have e6 : IntKind.i64.wrap ((n / 10 : Nat) : Int) = ((n / 10 : Nat) : Int) := wrap_id (by omega) (by omega)
      simp only [h, dite_false]
      rw [← this]
      simp -implicitDefEqProofs [s_NumText_L0b, hp, litB, e1, e2, e3, e4, e5, e6, -Int.natCast_emod, -Int.natCast_ediv, -Int.natCast_add, -UInt8.ofNat_add, str_append, (by omega : 1 + out.length ≤ 9223372036854775807)]
theorem c_s_NumText (n : Int) : ev LI TT 33 [.int .i64 n] = some (.str ⟨(numText n).toArray⟩, [.dead]) := by
  rw [ev_run (b := s_NumText_b) (rs := [.t 2]) (n := 1) rfl rfl]
  unfold numText 
  by_cases hn : 0 ≤ n ∧ n ≤ 1000000 
  rotate_left 
  · have hf : (decide (0 ≤ n) && decide (n ≤ 1000000)) = false := by simp; omega 
    simp -implicitDefEqProofs [s_NumText_b, hn, hf] 
  obtain ⟨k, rfl⟩ : ∃ k : Nat, n = k := ⟨n.toNat, by omega⟩ 
  by_cases h : k = 0 
  · subst h; simp -implicitDefEqProofs [s_NumText_b, digS_zero] 
  have h1 := L_s_NumText k [] (by simp; omega) 
  rw [markD_dig k [] h, List.append_nil] at h1
  simp -implicitDefEqProofs [s_NumText_b, hn, h, h1]
  all_goals (repeat' split) <;> first | rfl | omega | (simp_all; done) | (simp_all; omega) | skip
theorem numText_len (n : Int) : (numText n).length ≤ 7 := by
  unfold numText
  split
  · exact digS_len7 _ (by omega)
  · simp
theorem foldI_foldl {β γ : Type} (go : γ → β → γ) : ∀ (l : List β) (i : Nat) (g : γ), foldI (fun _ g b => go g b) i l g = l.foldl go g
  | [], _, _ => rfl
  | b :: l, i, g => by rw [foldI, foldI_foldl go l, List.foldl_cons]
end M
set_option linter.unusedVariables false
set_option linter.unusedSimpArgs false
namespace M
open Go
def spF (w : Str) : List Str := if trimS w ≠ [] then [trimS w] else []
theorem opt_cases (s : Str) (i : Nat) (h : i < (s.map some ++ [none]).length) : (∃ hi : i < s.length, (s.map some ++ [none])[i] = some s[i]) ∨ (i = s.length ∧ (s.map some ++ [none])[i] = none) := by
  by_cases hi : i < s.length
  · refine .inl ⟨hi, ?_⟩
    rw [List.getElem_append_left (by simpa using hi)]
    simp
  · simp at h
    obtain rfl : i = s.length := by omega
    refine .inr ⟨rfl, ?_⟩
    rw [List.getElem_append_right (by simp)]
    simp
theorem spF_len (w : Str) : (spF w).length ≤ 1 := by unfold spF; split <;> simp
theorem goW_inv (c : UInt8) (f : Str → List Str) (hf : ∀ w, (f w).length ≤ 1) (s : Str) (i : Nat) (g : List Str × Nat) (b : Option UInt8) (h : g.2 ≤ i ∧ g.1.length ≤ i) : (goW c f s i g b).2 ≤ i + 1 ∧ (goW c f s i g b).1.length ≤ i + 1 := by
  unfold goW
  have := hf ((s.take i).drop g.2)
  split
  · split
    · simp; omega
    · omega
  · simp; omega
theorem L_s_Split (s : Str) (hb : s.length ≤ 1073741824) (g : List Str × Nat) (hinv : g.2 ≤ 0 ∧ g.1.length ≤ 0) : loopW (evA (ev LI TT) (okT TT) s_Split_L0) [(0, .str ⟨s.toArray⟩), (3, .row .own 1 ((g).1.map eS)), (4, .int .i64 ((g).2 : Nat)), (5, .int .i64 0)] = some (.exit 0, [(0, .str ⟨s.toArray⟩), (3, .row .own 1 (((foldI (goW 44 spF s) 0 (s.map some ++ [none]) g)).1.map eS)), (4, .int .i64 (((foldI (goW 44 spF s) 0 (s.map some ++ [none]) g)).2 : Nat)), (5, .int .i64 (s.map some ++ [none]).length), (11, .bool false)]) := by
  refine loop_foldI (f := evA (ev LI TT) (okT TT) s_Split_L0) (s.map some ++ [none]) (fun i (g : List Str × Nat) => [(0, .str ⟨s.toArray⟩), (3, .row .own 1 ((g).1.map eS)), (4, .int .i64 ((g).2 : Nat)), (5, .int .i64 i)]) (goW 44 spF s) (fun g => [(0, .str ⟨s.toArray⟩), (3, .row .own 1 ((g).1.map eS)), (4, .int .i64 ((g).2 : Nat)), (5, .int .i64 (s.map some ++ [none]).length), (11, .bool false)]) (fun i (g : List Str × Nat) => g.2 ≤ i ∧ g.1.length ≤ i) g hinv (fun i b g hi hl hinv => ?_) (fun i b g hi hinv => ?_) (fun g hinv => ?_)
  · have hw := wrap_succ i (by first | omega | (simp at hl; omega))
    obtain ⟨_, rfl⟩ := List.getElem?_eq_some_iff.1 hi
    have hlz : (g.1.length + 1) * 16 ≤ 140737488355328 := by simp at hl; omega 
    have h44 : ∀ b : UInt8, ((b.toNat : Int) = 44) ↔ b = 44 := fun b => ⟨fun h => UInt8.toNat_inj.1 (by have e : (44 : UInt8).toNat = 44 := rfl; omega), fun h => by subst h; rfl⟩ 
    rcases opt_cases s i hl with ⟨hi', e⟩ | ⟨rfl, e⟩ 
    · rw [e] 
      have k1 : (i : Int) ≤ s.length := by omega 
      have k2 : i ≤ s.length := by omega 
      have hc := c_s_Trim ((s.drop g.2).take (i - g.2)) (by simp; omega) 
      by_cases hx : s[i] = 44 
      rotate_left 
      · have hx' := mt (h44 s[i]).1 hx 
        simp -implicitDefEqProofs [s_Split_L0, s_Split_L0b, k1, k2, hi', hw, goW, hx, hx'] 
      have hx' := (h44 s[i]).2 hx 
      have e3 : (s.take i).drop g.2 = (s.drop g.2).take (i - g.2) := List.drop_take .. 
      by_cases ht : trimS ((s.drop g.2).take (i - g.2)) = [] 
      · simp -implicitDefEqProofs [s_Split_L0, s_Split_L0b, k1, k2, hi', hw, goW, eq_true hx, hx', hinv, hc, Lib.extract_mk, spF, e3, eq_true ht] 
      · simp -implicitDefEqProofs [s_Split_L0, s_Split_L0b, k1, k2, hi', hw, goW, eq_true hx, hx', hinv, hc, Lib.extract_mk, spF, e3, eq_false ht, takeE, hlz] 
    rw [e] 
    have hc := c_s_Trim ((s.drop g.2).take (s.length - g.2)) (by simp; omega) 
    have e3 : (s.take s.length).drop g.2 = (s.drop g.2).take (s.length - g.2) := List.drop_take .. 
    by_cases ht : trimS ((s.drop g.2).take (s.length - g.2)) = [] 
    · simp only [goW, e3, spF, eq_true ht] 
      simp -implicitDefEqProofs [s_Split_L0, s_Split_L0b, hw, hinv, hc, Lib.extract_mk, eq_true ht] 
    simp only [goW, e3, spF, eq_false ht]
    simp -implicitDefEqProofs [s_Split_L0, s_Split_L0b, hl, hw, hinv, hc, Lib.extract_mk, eq_false ht, takeE, hlz]
  · exact goW_inv 44 spF spF_len s i g b hinv
  · have hfin : ¬ ((s.length : Int) + 1 ≤ s.length) := by omega 
    simp -implicitDefEqProofs [s_Split_L0, s_Split_L0b, hfin]
theorem c_s_Split (s : Str) (hb : s.length ≤ 1073741824) : ev LI TT 105 [.str ⟨s.toArray⟩] = some (.row .own 1 ((wordsC s).map eS), [.dead]) := by
  rw [ev_run (b := s_Split_b) (rs := [.t 2]) (n := 1) rfl rfl]
  have u1 := L_s_Split s hb ([], 0) ⟨by omega, by simp⟩ 
  rw [foldSplit, show (splitC 44 s).flatMap spF = wordsC s from (wordsC_eq s).symm] at u1 
  simp at u1
  simp -implicitDefEqProofs [s_Split_b, u1]
  all_goals (repeat' split) <;> first | rfl | omega | (simp_all; done) | (simp_all; omega) | skip
theorem L_i_Split (s : Str) (ws : List Str) (hb : ∀ w ∈ ws, w.length ≤ 1073741824) (hl0 : ws.length ≤ 1073741825) : loopW (evA (ev LI TT) (okT TT) i_Split_L0) [(3, .row .own 1 (([]).map eS)), (8, .row .own 1 (ws.map eS)), (9, .int .i64 ws.length), (10, .int .i64 0)] = some (.exit 0, [(3, .row .own 1 ((((ws).flatMap spF)).map eS)), (8, .row .own 1 (ws.map eS)), (9, .int .i64 ws.length), (10, .int .i64 (ws).length), (11, .bool false)]) := by
  refine loop_flat (f := evA (ev LI TT) (okT TT) i_Split_L0) (ws) spF (fun i out => [(3, .row .own 1 ((out).map eS)), (8, .row .own 1 (ws.map eS)), (9, .int .i64 ws.length), (10, .int .i64 i)]) (fun out => [(3, .row .own 1 ((out).map eS)), (8, .row .own 1 (ws.map eS)), (9, .int .i64 ws.length), (10, .int .i64 (ws).length), (11, .bool false)]) (fun i b out hi hl hout => ?_) (fun out hout => ?_)
  · have hw := wrap_succ i (by first | omega | (simp at hl; omega))
    obtain ⟨_, rfl⟩ := List.getElem?_eq_some_iff.1 hi
    have hlo : out.length ≤ i := by rw [hout]; exact flat_le_len spF spF_len ws i 
    have hlz : (out.length + 1) * 16 ≤ 140737488355328 := by omega 
    have hc := c_i_Trim ws[i] (by have := hb _ (List.getElem_mem hl); omega) 
    unfold spF 
    by_cases ht : trimS ws[i] = [] 
    · simp -implicitDefEqProofs [i_Split_L0, i_Split_L0b, hl, hw, hc, eq_true ht]
    simp -implicitDefEqProofs [i_Split_L0, i_Split_L0b, hl, hw, hc, eq_false ht, takeE, hlz]
  · simp -implicitDefEqProofs [i_Split_L0, i_Split_L0b]
theorem c_i_Split (s : Str) (hb : s.length ≤ 1073741824) : ev LI TT 141 [.str ⟨s.toArray⟩] = some (.row .own 1 ((wordsC s).map eS), [.dead]) := by
  rw [ev_run (b := i_Split_b) (rs := [.t 2]) (n := 1) rfl rfl]
  rw [wordsC_eq s, show (fun w => if trimS w ≠ [] then [trimS w] else []) = spF from rfl]
  have u1 := c_x_strings_Split  s 44 (by omega)
  try simp at u1
  have u2 := L_i_Split  s (splitC 44 s) (fun w hw => by have := splitC_mem 44 s w hw; omega) (by have := splitC_len 44 s; omega)
  try simp at u2
  simp -implicitDefEqProofs [i_Split_b, u1, u2]
  all_goals (repeat' split) <;> first | rfl | omega | (simp_all; done) | (simp_all; omega) | skip
theorem L_s_l9Names (l : List Str) (hl0 : l.length ≤ 1073741824) (hb : ∀ w ∈ l, w.length ≤ 1073741824) : loopW (evA (ev LI TT) (okT TT) s_l9Names_L0) [(0, .row .bor 1 (l.map eS)), (3, .int .i64 0)] = if allB tokenOk (l) = true then some (.exit 0, [(0, .row .bor 1 (l.map eS)), (3, .int .i64 (l).length), (7, .bool false)]) else some (.ret, [(2, .bool false)]) := by
  refine loop_all (f := evA (ev LI TT) (okT TT) s_l9Names_L0) (l) (fun i => [(0, .row .bor 1 (l.map eS)), (3, .int .i64 i)]) tokenOk _ _ (fun i b hi hl => ?_) ?_
  · have hw := wrap_succ i (by first | omega | (simp at hl; omega))
    obtain ⟨_, rfl⟩ := List.getElem?_eq_some_iff.1 hi
    have u1 := c_s_TokenOk  l[i] (by have := hb _ (List.getElem_mem hl); omega)
    try simp at u1
    simp -implicitDefEqProofs [s_l9Names_L0, s_l9Names_L0b, hl, hw, u1]
    all_goals (repeat' split) <;> first | rfl | omega | (simp_all; done) | (simp_all; omega) | skip
  · simp -implicitDefEqProofs [s_l9Names_L0, s_l9Names_L0b]
theorem c_s_l9Names (l : List Str) (hl0 : l.length ≤ 1073741824) (hb : ∀ w ∈ l, w.length ≤ 1073741824) : ev LI TT 92 [.row .bor 1 (l.map eS)] = some (.bool ((allB tokenOk l && decide ((l.length : Int) ≤ 4))), [.dead]) := by
  rw [ev_run (b := s_l9Names_b) (rs := [.t 2]) (n := 1) rfl rfl]
  have u1 := L_s_l9Names  l hl0 hb
  try simp at u1
  simp -implicitDefEqProofs [s_l9Names_b, u1]
  all_goals (repeat' split) <;> first | rfl | omega | (simp_all; done) | (simp_all; omega) | skip
theorem L_i_namesOk (l : List Str) (hl0 : l.length ≤ 1073741824) (hb : ∀ w ∈ l, w.length ≤ 1073741824) : loopW (evA (ev LI TT) (okT TT) i_namesOk_L0) [(0, .row .bor 1 (l.map eS)), (5, .row .bor 1 (l.map eS)), (6, .int .i64 l.length), (7, .int .i64 0)] = if allB tokenOk (l) = true then some (.exit 0, [(0, .row .bor 1 (l.map eS)), (5, .row .bor 1 (l.map eS)), (6, .int .i64 l.length), (7, .int .i64 (l).length), (8, .bool false)]) else some (.ret, [(2, .bool false)]) := by
  refine loop_all (f := evA (ev LI TT) (okT TT) i_namesOk_L0) (l) (fun i => [(0, .row .bor 1 (l.map eS)), (5, .row .bor 1 (l.map eS)), (6, .int .i64 l.length), (7, .int .i64 i)]) tokenOk _ _ (fun i b hi hl => ?_) ?_
  · have hw := wrap_succ i (by first | omega | (simp at hl; omega))
    obtain ⟨_, rfl⟩ := List.getElem?_eq_some_iff.1 hi
    have u1 := c_i_TokenOk  l[i] (by have := hb _ (List.getElem_mem hl); omega)
    try simp at u1
    simp -implicitDefEqProofs [i_namesOk_L0, i_namesOk_L0b, hl, hw, u1]
    all_goals (repeat' split) <;> first | rfl | omega | (simp_all; done) | (simp_all; omega) | skip
  · simp -implicitDefEqProofs [i_namesOk_L0, i_namesOk_L0b]
theorem c_i_namesOk (l : List Str) (hl0 : l.length ≤ 1073741824) (hb : ∀ w ∈ l, w.length ≤ 1073741824) : ev LI TT 132 [.row .bor 1 (l.map eS)] = some (.bool ((allB tokenOk l && decide ((l.length : Int) ≤ 4))), [.dead]) := by
  rw [ev_run (b := i_namesOk_b) (rs := [.t 2]) (n := 1) rfl rfl]
  have u1 := L_i_namesOk  l hl0 hb
  try simp at u1
  simp -implicitDefEqProofs [i_namesOk_b, u1]
  all_goals (repeat' split) <;> first | rfl | omega | (simp_all; done) | (simp_all; omega) | skip
end M
set_option linter.unusedVariables false
set_option linter.unusedSimpArgs false
namespace M
open Go
theorem L_s_l2At (fs : List Fld) (n : Str) (hb : fs.length ≤ 9223372036854775807) : loopW (evA (ev LI TT) (okT TT) s_l2At_L0) [(0, .row .bor 2 (fs.map eFld)), (1, .str ⟨n.toArray⟩), (5, .int .i64 0)] = (firstI (fun f => decide (f.name = n)) 0 (fs)).elim (some (.exit 0, [(0, .row .bor 2 (fs.map eFld)), (1, .str ⟨n.toArray⟩), (5, .int .i64 (fs).length), (9, .bool false)])) fun x => some (.ret, (fun (i : Nat) b => [(4, .int .i64 i)]) x.1 x.2) := by
  refine loop_first (f := evA (ev LI TT) (okT TT) s_l2At_L0) (fs) (fun i => [(0, .row .bor 2 (fs.map eFld)), (1, .str ⟨n.toArray⟩), (5, .int .i64 i)]) (fun f => decide (f.name = n)) (fun (i : Nat) b => [(4, .int .i64 i)]) _ (fun i b hi hl => ?_) ?_
  · have hw := wrap_succ i (by first | omega | (simp at hl; omega))
    obtain ⟨_, rfl⟩ := List.getElem?_eq_some_iff.1 hi
    simp -implicitDefEqProofs [s_l2At_L0, s_l2At_L0b, hl, hw]
  · simp -implicitDefEqProofs [s_l2At_L0, s_l2At_L0b]
theorem c_s_l2At (fs : List Fld) (n : Str) (hb : fs.length ≤ 9223372036854775807) : ev LI TT 104 [.row .bor 2 (fs.map eFld), .str ⟨n.toArray⟩] = some (.int .i64 (atI (atF fs n)), [.dead, .dead]) := by
  rw [ev_run (b := s_l2At_b) (rs := [.t 4]) (n := 2) rfl rfl]
  have h := L_s_l2At  fs n hb 
  rw [show firstI (fun f => decide (f.name = n)) 0 fs = atF fs n from rfl] at h 
  simp at h 
  cases g : atF fs n with 
  | none => rw [g] at h; simp at h; simp -implicitDefEqProofs [s_l2At_b, h, atI] 
  | some x => 
  rw [g] at h 
  simp at h
  simp -implicitDefEqProofs [s_l2At_b, h, atI]
  all_goals (repeat' split) <;> first | rfl | omega | (simp_all; done) | (simp_all; omega) | skip
theorem c_s_Get (fs : List Fld) (n : Str) (hb : fs.length ≤ 9223372036854775807) : ev LI TT 59 [.row .bor 2 (fs.map eFld), .str ⟨n.toArray⟩] = some (.tup [.str ⟨((gtF fs n).getD []).toArray⟩, .bool (gtF fs n).isSome], [.dead, .dead]) := by
  rw [ev_run (b := s_Get_b) (rs := [.t 4, .t 5]) (n := 2) rfl rfl]
  have h := c_s_l2At  fs n hb 
  unfold gtF 
  cases g : atF fs n with 
  | none => rw [g] at h; simp [atI] at h; simp -implicitDefEqProofs [s_Get_b, h] 
  | some x => 
  obtain ⟨i, b⟩ := x 
  rw [g] at h 
  obtain ⟨h1, h2, h3⟩ := firstI_some g 
  simp at h2 
  simp [atI] at h 
  have hi : i < fs.length := (List.getElem?_eq_some_iff.1 h2).1 
  obtain ⟨_, rfl⟩ := List.getElem?_eq_some_iff.1 h2
  simp -implicitDefEqProofs [s_Get_b, h, hi]
  all_goals (repeat' split) <;> first | rfl | omega | (simp_all; done) | (simp_all; omega) | skip
theorem c_i_fieldAt_1 (f : Fld) (n : Str) : ev LI TT 150 [.agg (eFld f), .ptr .bor [.str ⟨n.toArray⟩]] = some (.bool (decide (f.name = n)), [.dead, .dead]) := by
  rw [ev_run (b := i_fieldAt_1_b) (rs := [.t 3]) (n := 2) rfl rfl]
  simp -implicitDefEqProofs [i_fieldAt_1_b]
  all_goals (repeat' split) <;> first | rfl | omega | (simp_all; done) | (simp_all; omega) | skip
theorem L_x_slices_IndexFunc_impl_Field_impl_Field (fs : List Fld) (n : Str) (hb : fs.length ≤ 9223372036854775807) : loopW (evA (ev LI TT) (okT TT) x_slices_IndexFunc_impl_Field_impl_Field_L0) [(0, .row .bor 2 (fs.map eFld)), (1, .fn 150 [.ptr .bor [.str ⟨n.toArray⟩]]), (7, .int .i64 fs.length), (8, .int .i64 0)] = (firstI (fun f => decide (f.name = n)) 0 (fs)).elim (some (.exit 0, [(0, .row .bor 2 (fs.map eFld)), (1, .fn 150 [.ptr .bor [.str ⟨n.toArray⟩]]), (7, .int .i64 fs.length), (8, .int .i64 (fs).length), (9, .bool false)])) fun x => some (.ret, (fun (i : Nat) b => [(4, .int .i64 i)]) x.1 x.2) := by
  refine loop_first (f := evA (ev LI TT) (okT TT) x_slices_IndexFunc_impl_Field_impl_Field_L0) (fs) (fun i => [(0, .row .bor 2 (fs.map eFld)), (1, .fn 150 [.ptr .bor [.str ⟨n.toArray⟩]]), (7, .int .i64 fs.length), (8, .int .i64 i)]) (fun f => decide (f.name = n)) (fun (i : Nat) b => [(4, .int .i64 i)]) _ (fun i b hi hl => ?_) ?_
  · have hw := wrap_succ i (by first | omega | (simp at hl; omega))
    obtain ⟨_, rfl⟩ := List.getElem?_eq_some_iff.1 hi
    have ho : okT TT 150 = true := rfl 
    have hf := c_i_fieldAt_1  fs[i] n 
    simp at hf
    simp -implicitDefEqProofs [x_slices_IndexFunc_impl_Field_impl_Field_L0, x_slices_IndexFunc_impl_Field_impl_Field_L0b, hl, hw, ho, isFn, hf]
  · simp -implicitDefEqProofs [x_slices_IndexFunc_impl_Field_impl_Field_L0, x_slices_IndexFunc_impl_Field_impl_Field_L0b]
theorem c_x_slices_IndexFunc_impl_Field_impl_Field (fs : List Fld) (n : Str) (hb : fs.length ≤ 9223372036854775807) : ev LI TT 149 [.row .bor 2 (fs.map eFld), .fn 150 [.ptr .bor [.str ⟨n.toArray⟩]]] = some (.int .i64 (atI (atF fs n)), [.dead, .dead]) := by
  rw [ev_run (b := x_slices_IndexFunc_impl_Field_impl_Field_b) (rs := [.t 4]) (n := 2) rfl rfl]
  have h := L_x_slices_IndexFunc_impl_Field_impl_Field  fs n hb 
  rw [show firstI (fun f => decide (f.name = n)) 0 fs = atF fs n from rfl] at h 
  simp at h 
  cases g : atF fs n with 
  | none => rw [g] at h; simp at h; simp -implicitDefEqProofs [x_slices_IndexFunc_impl_Field_impl_Field_b, h, atI] 
  | some x => 
  rw [g] at h 
  simp at h
  simp -implicitDefEqProofs [x_slices_IndexFunc_impl_Field_impl_Field_b, h, atI]
  all_goals (repeat' split) <;> first | rfl | omega | (simp_all; done) | (simp_all; omega) | skip
theorem c_i_fieldAt (fs : List Fld) (n : Str) (hb : fs.length ≤ 9223372036854775807) : ev LI TT 140 [.row .bor 2 (fs.map eFld), .str ⟨n.toArray⟩] = some (.int .i64 (atI (atF fs n)), [.dead, .dead]) := by
  rw [ev_run (b := i_fieldAt_b) (rs := [.t 4]) (n := 2) rfl rfl]
  have h := c_x_slices_IndexFunc_impl_Field_impl_Field  fs n hb
  simp -implicitDefEqProofs [i_fieldAt_b, h, resAL, resA]
  all_goals (repeat' split) <;> first | rfl | omega | (simp_all; done) | (simp_all; omega) | skip
theorem c_i_Get (fs : List Fld) (n : Str) (hb : fs.length ≤ 9223372036854775807) : ev LI TT 111 [.row .bor 2 (fs.map eFld), .str ⟨n.toArray⟩] = some (.tup [.str ⟨((gtF fs n).getD []).toArray⟩, .bool (gtF fs n).isSome], [.dead, .dead]) := by
  rw [ev_run (b := i_Get_b) (rs := [.t 4, .t 5]) (n := 2) rfl rfl]
  have h := c_i_fieldAt  fs n hb 
  unfold gtF 
  cases g : atF fs n with 
  | none => rw [g] at h; simp [atI] at h; simp -implicitDefEqProofs [i_Get_b, h] 
  | some x => 
  obtain ⟨i, b⟩ := x 
  rw [g] at h 
  obtain ⟨h1, h2, h3⟩ := firstI_some g 
  simp at h2 
  simp [atI] at h 
  have hi : i < fs.length := (List.getElem?_eq_some_iff.1 h2).1 
  obtain ⟨_, rfl⟩ := List.getElem?_eq_some_iff.1 h2
  simp -implicitDefEqProofs [i_Get_b, h, hi]
  all_goals (repeat' split) <;> first | rfl | omega | (simp_all; done) | (simp_all; omega) | skip
end M
set_option linter.unusedVariables false
set_option linter.unusedSimpArgs false
namespace M
open Go
theorem nmCL_eq : (⟨#[99, 111, 110, 116, 101, 110, 116, 45, 108, 101, 110, 103, 116, 104]⟩ : ByteArray) = ⟨nmCL.toArray⟩ := rfl
theorem L_s_FieldsOk (fs : List Fld) (hb : wL wFld fs ≤ 1073741824) : loopW (evA (ev LI TT) (okT TT) s_FieldsOk_L0) [(0, .row .bor 2 (fs.map eFld)), (3, .int .i64 0)] = if allB (fldP fs) (fs.zipIdx) = true then some (.exit 0, [(0, .row .bor 2 (fs.map eFld)), (3, .int .i64 (fs.zipIdx).length), (7, .bool false)]) else some (.ret, [(2, .bool false)]) := by
  refine loop_all (f := evA (ev LI TT) (okT TT) s_FieldsOk_L0) (fs.zipIdx) (fun i => [(0, .row .bor 2 (fs.map eFld)), (3, .int .i64 i)]) (fldP fs) _ _ (fun i b hi hl => ?_) ?_
  · have hw := wrap_succ i (by have := wL_len (w := wFld) fs; simp at hl; omega)
    obtain ⟨_, rfl⟩ := List.getElem?_eq_some_iff.1 hi
    simp only [List.length_zipIdx] at hl 
    have hz : fs.zipIdx[i]'(by simpa using hl) = (fs[i], i) := by simp 
    have hm := wFld_mem (List.getElem_mem hl) 
    have hfl := wL_len (w := wFld) fs 
    rw [hz]
    have u1 := c_s_TokenOk  fs[i].name (by omega)
    try simp at u1
    have u2 := c_s_ValueOk  fs[i].value (by omega)
    try simp at u2
    have u3 := c_s_l2At  fs fs[i].name (by omega)
    try simp at u3
    by_cases g1 : tokenOk fs[i].name = true
    rotate_left
    · simp -implicitDefEqProofs [s_FieldsOk_L0, s_FieldsOk_L0b, hl, hw, u1, u2, u3, fldP, g1]
    by_cases g2 : valueOk fs[i].value = true
    rotate_left
    · simp -implicitDefEqProofs [s_FieldsOk_L0, s_FieldsOk_L0b, hl, hw, u1, u2, u3, fldP, g1, g2]
    by_cases g3 : atI (atF fs fs[i].name) = i
    rotate_left
    · simp -implicitDefEqProofs [s_FieldsOk_L0, s_FieldsOk_L0b, hl, hw, u1, u2, u3, fldP, g1, g2, eq_false g3]
    by_cases hcl : fs[i].name = nmCL 
    · simp -implicitDefEqProofs [s_FieldsOk_L0, s_FieldsOk_L0b, hl, hw, u1, u2, u3, g1, g2, eq_true g3, fldP, nmCL_eq, eq_true hcl]
    simp -implicitDefEqProofs [s_FieldsOk_L0, s_FieldsOk_L0b, hl, hw, u1, u2, u3, fldP, g1, g2, eq_true g3, nmCL_eq, eq_false hcl]
    all_goals (repeat' split) <;> first | rfl | omega | (simp_all; done) | (simp_all; omega) | skip
  · simp -implicitDefEqProofs [s_FieldsOk_L0, s_FieldsOk_L0b]
theorem c_s_FieldsOk (fs : List Fld) (hb : wL wFld fs ≤ 1073741824) : ev LI TT 58 [.row .bor 2 (fs.map eFld)] = some (.bool ((fieldsOk fs)), [.dead]) := by
  rw [ev_run (b := s_FieldsOk_b) (rs := [.t 2]) (n := 1) rfl rfl]
  unfold fieldsOk 
  have hfl := wL_len (w := wFld) fs
  have u1 := L_s_FieldsOk  fs hb
  try simp at u1
  simp -implicitDefEqProofs [s_FieldsOk_b, u1]
  all_goals (repeat' split) <;> first | rfl | omega | (simp_all; done) | (simp_all; omega) | skip
theorem L_i_FieldsOk (fs : List Fld) (hb : wL wFld fs ≤ 1073741824) : loopW (evA (ev LI TT) (okT TT) i_FieldsOk_L0) [(0, .row .bor 2 (fs.map eFld)), (5, .row .bor 2 (fs.map eFld)), (6, .int .i64 fs.length), (7, .int .i64 0)] = if allB (fldP fs) (fs.zipIdx) = true then some (.exit 0, [(0, .row .bor 2 (fs.map eFld)), (5, .row .bor 2 (fs.map eFld)), (6, .int .i64 fs.length), (7, .int .i64 (fs.zipIdx).length), (8, .bool false)]) else some (.ret, [(2, .bool false)]) := by
  refine loop_all (f := evA (ev LI TT) (okT TT) i_FieldsOk_L0) (fs.zipIdx) (fun i => [(0, .row .bor 2 (fs.map eFld)), (5, .row .bor 2 (fs.map eFld)), (6, .int .i64 fs.length), (7, .int .i64 i)]) (fldP fs) _ _ (fun i b hi hl => ?_) ?_
  · have hw := wrap_succ i (by have := wL_len (w := wFld) fs; simp at hl; omega)
    obtain ⟨_, rfl⟩ := List.getElem?_eq_some_iff.1 hi
    simp only [List.length_zipIdx] at hl 
    have hz : fs.zipIdx[i]'(by simpa using hl) = (fs[i], i) := by simp 
    have hm := wFld_mem (List.getElem_mem hl) 
    have hfl := wL_len (w := wFld) fs 
    rw [hz]
    have u1 := c_i_TokenOk  fs[i].name (by omega)
    try simp at u1
    have u2 := c_i_ValueOk  fs[i].value (by omega)
    try simp at u2
    have u3 := c_i_fieldAt  fs fs[i].name (by omega)
    try simp at u3
    by_cases g1 : tokenOk fs[i].name = true
    rotate_left
    · simp -implicitDefEqProofs [i_FieldsOk_L0, i_FieldsOk_L0b, hl, hw, u1, u2, u3, fldP, g1]
    by_cases g2 : valueOk fs[i].value = true
    rotate_left
    · simp -implicitDefEqProofs [i_FieldsOk_L0, i_FieldsOk_L0b, hl, hw, u1, u2, u3, fldP, g1, g2]
    by_cases hcl : fs[i].name = nmCL 
    · simp -implicitDefEqProofs [i_FieldsOk_L0, i_FieldsOk_L0b, hl, hw, u1, u2, u3, g1, g2, fldP, nmCL_eq, eq_true hcl] 
    by_cases g3 : atI (atF fs fs[i].name) = i 
    rotate_left 
    · simp -implicitDefEqProofs [i_FieldsOk_L0, i_FieldsOk_L0b, hl, hw, u1, u2, u3, g1, g2, fldP, nmCL_eq, eq_false hcl, eq_false g3]
    simp -implicitDefEqProofs [i_FieldsOk_L0, i_FieldsOk_L0b, hl, hw, u1, u2, u3, fldP, g1, g2, nmCL_eq, eq_false hcl, eq_true g3]
    all_goals (repeat' split) <;> first | rfl | omega | (simp_all; done) | (simp_all; omega) | skip
  · simp -implicitDefEqProofs [i_FieldsOk_L0, i_FieldsOk_L0b]
theorem c_i_FieldsOk (fs : List Fld) (hb : wL wFld fs ≤ 1073741824) : ev LI TT 110 [.row .bor 2 (fs.map eFld)] = some (.bool ((fieldsOk fs)), [.dead]) := by
  rw [ev_run (b := i_FieldsOk_b) (rs := [.t 2]) (n := 1) rfl rfl]
  unfold fieldsOk 
  have hfl := wL_len (w := wFld) fs
  have u1 := L_i_FieldsOk  fs hb
  try simp at u1
  simp -implicitDefEqProofs [i_FieldsOk_b, u1]
  all_goals (repeat' split) <;> first | rfl | omega | (simp_all; done) | (simp_all; omega) | skip
theorem fld_modify (fs : List Fld) (i : Nat) (h : i < fs.length) (v : Str) : (fs.map eFld).modify i (fun e => e.set 1 (X.str ⟨v.toArray⟩)) = (fs.set i ⟨fs[i].name, v⟩).map eFld := by
  apply List.ext_getElem?
  intro j
  rw [List.getElem?_modify, List.getElem?_map, List.getElem?_map, List.getElem?_set]
  by_cases hij : i = j
  · subst hij
    simp [h]
  · simp only [hij, if_false]
    cases fs[j]? <;> rfl
theorem fld_scalars (fs : List Fld) : scalarsB (fs.map eFld) = true := by induction fs <;> simp_all [scalarsB, scalar]
theorem c_s_RespOk (r : Rsp) (hb : wRsp r ≤ 1073741824) : ev LI TT 91 [.agg (eRsp .bor r)] = some (.bool ((respOk r)), [.dead]) := by
  rw [ev_run (b := s_RespOk_b) (rs := [.t 2]) (n := 1) rfl rfl]
  have hw : wRsp r = wL wFld r.fields + r.body.length := rfl 
  unfold respOk
  have u1 := c_s_FieldsOk  r.fields (by omega)
  try simp at u1
  by_cases g1 : 100 ≤ r.status
  rotate_left
  · simp -implicitDefEqProofs [s_RespOk_b, u1, eq_false g1]
  by_cases g2 : r.status ≤ 599
  rotate_left
  · simp -implicitDefEqProofs [s_RespOk_b, u1, eq_true g1, eq_false g2]
  by_cases g3 : fieldsOk r.fields = true
  rotate_left
  · simp -implicitDefEqProofs [s_RespOk_b, u1, eq_true g1, eq_true g2, g3]
  simp -implicitDefEqProofs [s_RespOk_b, u1, eq_true g1, eq_true g2, g3]
  all_goals (repeat' split) <;> first | rfl | omega | (simp_all; done) | (simp_all; omega) | skip
theorem c_i_RespOk (r : Rsp) (hb : wRsp r ≤ 1073741824) : ev LI TT 133 [.agg (eRsp .bor r)] = some (.bool ((respOk r)), [.dead]) := by
  rw [ev_run (b := i_RespOk_b) (rs := [.t 2]) (n := 1) rfl rfl]
  have hw : wRsp r = wL wFld r.fields + r.body.length := rfl 
  unfold respOk
  have u1 := c_i_FieldsOk  r.fields (by omega)
  try simp at u1
  by_cases g1 : 100 ≤ r.status
  rotate_left
  · simp -implicitDefEqProofs [i_RespOk_b, u1, eq_false g1]
  by_cases g2 : r.status ≤ 599
  rotate_left
  · simp -implicitDefEqProofs [i_RespOk_b, u1, eq_true g1, eq_false g2]
  by_cases g3 : (r.body.length : Int) ≤ 120
  rotate_left
  · simp -implicitDefEqProofs [i_RespOk_b, u1, eq_true g1, eq_true g2, eq_false g3]
  simp -implicitDefEqProofs [i_RespOk_b, u1, eq_true g1, eq_true g2, eq_true g3]
  all_goals (repeat' split) <;> first | rfl | omega | (simp_all; done) | (simp_all; omega) | skip
end M
set_option linter.unusedVariables false
set_option linter.unusedSimpArgs false
namespace M
open Go
theorem words_len (s : Str) : (wordsC s).length ≤ s.length + 1 := by
  unfold wordsC
  have h1 := List.length_filter_le (fun w : Str => decide (w ≠ [])) ((splitC 44 s).map trimS)
  have h2 := splitC_len 44 s
  simp only [List.length_map] at h1
  omega
theorem words_mem (s : Str) : ∀ w ∈ wordsC s, w.length ≤ s.length := by
  intro w hw
  unfold wordsC at hw
  obtain ⟨x, hx, rfl⟩ := List.mem_map.1 (List.mem_filter.1 hw).1
  have h1 := splitC_mem 44 s x hx
  have h2 := trimS_len x
  omega
theorem lowS_len (s : Str) : (lowS s).length = s.length := by simp [lowS]
theorem L_s_VaryOf (ws : List Str) (hl0 : ws.length ≤ 1073741825) (hb : ∀ w ∈ ws, w.length ≤ 1073741824) : loopW (evA (ev LI TT) (okT TT) s_VaryOf_L0) [(5, .row .own 1 ((mapTo lowS ws 0).map eS)), (6, .int .i64 0)] = some (.exit 0, [(5, .row .own 1 ((mapTo lowS ws (ws).length).map eS)), (6, .int .i64 (ws).length), (17, .bool false)]) := by
  refine loop_count (f := evA (ev LI TT) (okT TT) s_VaryOf_L0) (ws) (fun i => [(5, .row .own 1 ((mapTo lowS ws i).map eS)), (6, .int .i64 i)]) _ (fun i b hi hl => ?_) ?_
  · have hw := wrap_succ i (by first | omega | (simp at hl; omega))
    obtain ⟨_, rfl⟩ := List.getElem?_eq_some_iff.1 hi
    have h1 := mapTo_getE lowS ws i hl 
    have h2 := mapTo_set lowS ws i hl
    have u1 := c_s_Lower  ws[i] (hb _ (List.getElem_mem hl))
    try simp at u1
    simp -implicitDefEqProofs [s_VaryOf_L0, s_VaryOf_L0b, hl, hw, u1, h1, h2, rowAt, -List.map_set]
  · simp -implicitDefEqProofs [s_VaryOf_L0, s_VaryOf_L0b, rowAt]
theorem c_s_VaryOf (fs : List Fld) (hb : wL wFld fs ≤ 1073741824) : ev LI TT 94 [.row .bor 2 (fs.map eFld)] = some (.row .own 1 ((varyOf fs).map eS), [.dead]) := by
  rw [ev_run (b := s_VaryOf_b) (rs := [.t 2]) (n := 1) rfl rfl]
  have hfl := wL_len (w := wFld) fs 
  have hg := gtF_len fs nmVary
  have u1 := c_s_Get  fs nmVary (by omega)
  try simp at u1
  have u2 := c_s_Split  ((gtF fs nmVary).getD []) (by omega)
  try simp at u2
  have u3 := L_s_VaryOf  (wordsC ((gtF fs nmVary).getD [])) (by have := words_len ((gtF fs nmVary).getD []); omega) (fun w hw => by have := words_mem _ w hw; omega)
  try simp at u3
  rw [mapTo_zero, mapTo_end, show (wordsC ((gtF fs nmVary).getD [])).map lowS = varyOf fs from rfl] at u3
  simp -implicitDefEqProofs [s_VaryOf_b, u1, u2, u3]
  all_goals (repeat' split) <;> first | rfl | omega | (simp_all; done) | (simp_all; omega) | skip
theorem L_i_VaryOf (ws : List Str) (hl0 : ws.length ≤ 1073741825) (hb : ∀ w ∈ ws, w.length ≤ 1073741824) : loopW (evA (ev LI TT) (okT TT) i_VaryOf_L0) [(5, .row .own 1 (([]).map eS)), (14, .row .own 1 (ws.map eS)), (15, .int .i64 ws.length), (16, .int .i64 0)] = some (.exit 0, [(5, .row .own 1 ((((ws).flatMap (fun w => [lowS w]))).map eS)), (14, .row .own 1 (ws.map eS)), (15, .int .i64 ws.length), (16, .int .i64 (ws).length), (17, .bool false)]) := by
  refine loop_flat (f := evA (ev LI TT) (okT TT) i_VaryOf_L0) (ws) (fun w => [lowS w]) (fun i out => [(5, .row .own 1 ((out).map eS)), (14, .row .own 1 (ws.map eS)), (15, .int .i64 ws.length), (16, .int .i64 i)]) (fun out => [(5, .row .own 1 ((out).map eS)), (14, .row .own 1 (ws.map eS)), (15, .int .i64 ws.length), (16, .int .i64 (ws).length), (17, .bool false)]) (fun i b out hi hl hout => ?_) (fun out hout => ?_)
  · have hw := wrap_succ i (by first | omega | (simp at hl; omega))
    obtain ⟨_, rfl⟩ := List.getElem?_eq_some_iff.1 hi
    have hlo : out.length = i := by rw [hout]; exact flat_one_len _ _ _ (by omega) 
    have hlz : (i + 1) * 16 ≤ 140737488355328 := by omega
    have u1 := c_i_Lower  ws[i] (hb _ (List.getElem_mem hl))
    try simp at u1
    simp -implicitDefEqProofs [i_VaryOf_L0, i_VaryOf_L0b, hl, hw, u1, hlo, hlz, takeE]
  · simp -implicitDefEqProofs [i_VaryOf_L0, i_VaryOf_L0b]
theorem c_i_VaryOf (fs : List Fld) (hb : wL wFld fs ≤ 1073741824) : ev LI TT 135 [.row .bor 2 (fs.map eFld)] = some (.row .own 1 ((varyOf fs).map eS), [.dead]) := by
  rw [ev_run (b := i_VaryOf_b) (rs := [.t 2]) (n := 1) rfl rfl]
  have hfl := wL_len (w := wFld) fs 
  have hg := gtF_len fs nmVary
  have u1 := c_i_Get  fs nmVary (by omega)
  try simp at u1
  have u2 := c_i_Split  ((gtF fs nmVary).getD []) (by omega)
  try simp at u2
  have u3 := L_i_VaryOf  (wordsC ((gtF fs nmVary).getD [])) (by have := words_len ((gtF fs nmVary).getD []); omega) (fun w hw => by have := words_mem _ w hw; omega)
  try simp at u3
  rw [flatMap_one, show (wordsC ((gtF fs nmVary).getD [])).map lowS = varyOf fs from rfl] at u3
  simp -implicitDefEqProofs [i_VaryOf_b, u1, u2, u3]
  all_goals (repeat' split) <;> first | rfl | omega | (simp_all; done) | (simp_all; omega) | skip
theorem varyOf_len (fs : List Fld) : (varyOf fs).length ≤ wL wFld fs + 1 := by
  have h1 := words_len ((gtF fs nmVary).getD [])
  have h2 := gtF_len fs nmVary
  simp [varyOf]; omega
end M
set_option linter.unusedVariables false
set_option linter.unusedSimpArgs false
namespace M
open Go
theorem L_x_slices_Equal_string_string (ps : List (Str × Str)) (hb : ps.length ≤ 9223372036854775807) : loopW (evA (ev LI TT) (okT TT) x_slices_Equal_string_string_L0) [(0, .row .bor 1 (ps.map fun x => eS x.1)), (1, .row .bor 1 (ps.map fun x => eS x.2)), (12, .int .i64 ps.length), (13, .int .i64 0)] = if allB eqB (ps) = true then some (.exit 0, [(0, .row .bor 1 (ps.map fun x => eS x.1)), (1, .row .bor 1 (ps.map fun x => eS x.2)), (12, .int .i64 ps.length), (13, .int .i64 ps.length), (14, .bool false)]) else some (.ret, [(4, .bool false)]) := by
  refine loop_all (f := evA (ev LI TT) (okT TT) x_slices_Equal_string_string_L0) (ps) (fun i => [(0, .row .bor 1 (ps.map fun x => eS x.1)), (1, .row .bor 1 (ps.map fun x => eS x.2)), (12, .int .i64 ps.length), (13, .int .i64 i)]) eqB _ _ (fun i b hi hl => ?_) ?_
  · have hw := wrap_succ i (by first | omega | (simp at hl; omega))
    obtain ⟨_, rfl⟩ := List.getElem?_eq_some_iff.1 hi
    simp -implicitDefEqProofs [x_slices_Equal_string_string_L0, x_slices_Equal_string_string_L0b, hl, hw, eqB]
    first | done | (split <;> simp_all)
  · simp -implicitDefEqProofs [x_slices_Equal_string_string_L0, x_slices_Equal_string_string_L0b]
theorem c_x_slices_Equal_string_string (a b : List Str) (hb : a.length ≤ 9223372036854775807) : ev LI TT 134 [.row .bor 1 (a.map eS), .row .bor 1 (b.map eS)] = some (.bool (decide (a = b)), [.dead, .dead]) := by
  rw [ev_run (b := x_slices_Equal_string_string_b) (rs := [.t 4]) (n := 2) rfl rfl]
  simp -implicitDefEqProofs [x_slices_Equal_string_string_b]
  by_cases h : a.length = b.length 
  · obtain ⟨ps, rfl, rfl⟩ := zip_ex h 
    have h1 := L_x_slices_Equal_string_string  ps (by simpa using hb) 
    have h2 := allB_eq ps 
    simp at h1 
    cases h3 : allB eqB ps <;> rw [h3] at h1 h2 <;> simp [h1, Function.comp_def, ← h2] 
  · have : ¬ a = b := fun e => h (by rw [e]) 
    simp [this] 
    omega
theorem zip_same : ∀ {a b : List Str}, (∀ x ∈ a.zip b, ¬ (decide (x.1 ≠ x.2)) = true) → a.length = b.length → a = b
  | [], [], _, _ => rfl
  | x :: a, y :: b, h, hl => by
    have h1 := h (x, y) (by simp)
    simp at h1
    have h2 : a = b := zip_same (fun z hz => h z (by simp only [List.zip_cons_cons]; exact List.mem_cons_of_mem _ hz)) (by simpa using hl)
    rw [h1, h2]
theorem zip_diff {a b : List Str} {x : Str × Str} (hx : x ∈ a.zip b) (h : x.1 ≠ x.2) : a ≠ b := by
  rintro rfl
  have : ∀ {l : List Str} {x : Str × Str}, x ∈ l.zip l → x.1 = x.2 := by
    intro l
    induction l with
    | nil => intro x h; simp at h
    | cons y l ih =>
      intro x h
      simp only [List.zip_cons_cons, List.mem_cons] at h
      rcases h with rfl | h
      · rfl
      · exact ih h
  exact h (this hx)
theorem L_s_l8Texts (a b : List Str) (hb : a.length ≤ 9223372036854775807) (hb2 : b.length ≤ 9223372036854775807) : loopW (evA (ev LI TT) (okT TT) s_l8Texts_L0) [(0, .row .bor 1 (a.map eS)), (1, .row .bor 1 (b.map eS)), (5, .int .i64 0)] = (firstI (fun x => decide (x.1 ≠ x.2)) 0 (a.zip b)).elim (some (.exit 0, [(0, .row .bor 1 (a.map eS)), (1, .row .bor 1 (b.map eS)), (5, .int .i64 (a.zip b).length), (15, .bool false)])) fun x => some (.ret, (fun (i : Nat) b => [(4, .bool false)]) x.1 x.2) := by
  refine loop_first (f := evA (ev LI TT) (okT TT) s_l8Texts_L0) (a.zip b) (fun i => [(0, .row .bor 1 (a.map eS)), (1, .row .bor 1 (b.map eS)), (5, .int .i64 i)]) (fun x => decide (x.1 ≠ x.2)) (fun (i : Nat) b => [(4, .bool false)]) _ (fun i b hi hl => ?_) ?_
  · have hw := wrap_succ i (by first | omega | (simp at hl; omega))
    obtain ⟨_, rfl⟩ := List.getElem?_eq_some_iff.1 hi
    have ha : i < a.length := by simp at hl; omega 
    have hb' : i < b.length := by simp at hl; omega
    simp -implicitDefEqProofs [s_l8Texts_L0, s_l8Texts_L0b, hl, hw, ha, hb']
  · have hz : (a.zip b).length = min a.length b.length := by simp 
    rw [hz] 
    by_cases hh : a.length ≤ b.length 
    · rw [Nat.min_eq_left hh]; simp -implicitDefEqProofs [s_l8Texts_L0, s_l8Texts_L0b] 
    have h1 : b.length ≤ a.length := by omega 
    have h2 : (b.length : Int) < a.length := by omega 
    have h3 : b.length < a.length := by omega 
    rw [Nat.min_eq_right h1] 
    simp -implicitDefEqProofs [s_l8Texts_L0, s_l8Texts_L0b, h2, h3]
theorem c_s_l8Texts (a b : List Str) (hb : a.length ≤ 9223372036854775807) (hb2 : b.length ≤ 9223372036854775807) : ev LI TT 93 [.row .bor 1 (a.map eS), .row .bor 1 (b.map eS)] = some (.bool (decide (a = b)), [.dead, .dead]) := by
  rw [ev_run (b := s_l8Texts_b) (rs := [.t 4]) (n := 2) rfl rfl]
  have h := L_s_l8Texts  a b hb hb2 
  cases g : firstI (fun x : Str × Str => decide (x.1 ≠ x.2)) 0 (a.zip b) with 
  | some x => 
    obtain ⟨i, x⟩ := x 
    obtain ⟨_, h1, h2⟩ := firstI_some g 
    have h3 : ¬ a = b := zip_diff (List.mem_of_getElem? h1) (by simpa using h2) 
    rw [g] at h; simp only [Option.elim] at h; simp -implicitDefEqProofs [s_l8Texts_b, h, h3] 
  | none => 
  have h1 := firstI_none.1 g 
  rw [g] at h 
  simp only [Option.elim] at h 
  try simp at h 
  by_cases hl : a.length = b.length 
  · have h2 := zip_same h1 hl 
    subst h2 
    try simp at h 
    simp -implicitDefEqProofs [s_l8Texts_b, h] 
  have h3 : ¬ a = b := fun e => hl (by rw [e]) 
  have h4 : ¬ (a.length : Int) = b.length := by omega
  simp -implicitDefEqProofs [s_l8Texts_b, h, h3, h4]
  all_goals (repeat' split) <;> first | rfl | omega | (simp_all; done) | (simp_all; omega) | skip
end M
set_option linter.unusedVariables false
set_option linter.unusedSimpArgs false
namespace M
open Go
theorem L_s_ObjOk (o : Ob) (hb : wL wS o.values ≤ 1073741824) : loopW (evA (ev LI TT) (okT TT) s_ObjOk_L0) [(1, .ptr .own (eOb .bor o)), (3, .int .i64 0)] = if allB valueOk (o.values) = true then some (.exit 0, [(1, .ptr .own (eOb .bor o)), (3, .int .i64 (o.values).length), (49, .bool false)]) else some (.ret, [(2, .bool false)]) := by
  refine loop_all (f := evA (ev LI TT) (okT TT) s_ObjOk_L0) (o.values) (fun i => [(1, .ptr .own (eOb .bor o)), (3, .int .i64 i)]) valueOk _ _ (fun i b hi hl => ?_) ?_
  · have hw := wrap_succ i (by have := wL_len (w := wS) o.values; omega)
    obtain ⟨_, rfl⟩ := List.getElem?_eq_some_iff.1 hi
    have hm := wS_mem (List.getElem_mem hl)
    have u1 := c_s_ValueOk  o.values[i] (by omega)
    try simp at u1
    simp -implicitDefEqProofs [s_ObjOk_L0, s_ObjOk_L0b, hl, hw, u1]
    all_goals (repeat' split) <;> first | rfl | omega | (simp_all; done) | (simp_all; omega) | skip
  · simp -implicitDefEqProofs [s_ObjOk_L0, s_ObjOk_L0b]
theorem c_s_ObjOk (o : Ob) (hb : wOb o ≤ 1073741824) : ev LI TT 47 [.agg (eOb .bor o)] = some (.bool ((objOk o)), [.dead]) := by
  rw [ev_run (b := s_ObjOk_b) (rs := [.t 2]) (n := 1) rfl rfl]
  have hw : wOb o = o.path.length + wL wS o.names + wL wS o.values + wRsp o.resp := rfl 
  have hw2 : wRsp o.resp = wL wFld o.resp.fields + o.resp.body.length := rfl 
  have hn := wL_len (w := wS) o.names 
  have hv := wL_len (w := wS) o.values 
  have hvl := varyOf_len o.resp.fields 
  unfold objOk namesOk
  have u1 := c_s_RespOk  o.resp (by omega)
  try simp at u1
  have u2 := c_s_l3Path  o.path (by omega)
  try simp at u2
  have u3 := c_s_l9Names  o.names (by omega) (fun w hw => by have := wS_mem hw; omega)
  try simp at u3
  have u4 := c_s_VaryOf  o.resp.fields (by omega)
  try simp at u4
  have u5 := c_s_l8Texts  o.names (varyOf o.resp.fields) (by omega) (by omega)
  try simp at u5
  have u6 := L_s_ObjOk  o (by omega)
  try simp at u6
  by_cases g1 : respOk o.resp = true
  rotate_left
  · simp -implicitDefEqProofs [s_ObjOk_b, u1, u2, u3, u4, u5, u6, g1]
  by_cases g2 : pathOk o.path = true
  rotate_left
  · simp -implicitDefEqProofs [s_ObjOk_b, u1, u2, u3, u4, u5, u6, g1, g2]
  by_cases g3 : 0 ≤ o.t
  rotate_left
  · simp -implicitDefEqProofs [s_ObjOk_b, u1, u2, u3, u4, u5, u6, g1, g2, eq_false g3]
  by_cases g4 : o.t ≤ 1000000
  rotate_left
  · simp -implicitDefEqProofs [s_ObjOk_b, u1, u2, u3, u4, u5, u6, g1, g2, eq_true g3, eq_false g4]
  by_cases g5 : allB tokenOk o.names = true
  rotate_left
  · simp -implicitDefEqProofs [s_ObjOk_b, u1, u2, u3, u4, u5, u6, g1, g2, eq_true g3, eq_true g4, g5]
  by_cases g6 : (o.names.length : Int) ≤ 4
  rotate_left
  · simp -implicitDefEqProofs [s_ObjOk_b, u1, u2, u3, u4, u5, u6, g1, g2, eq_true g3, eq_true g4, g5, eq_false g6]
  by_cases g7 : o.names = varyOf o.resp.fields
  rotate_left
  · simp -implicitDefEqProofs [s_ObjOk_b, u1, u2, u3, u4, u5, u6, g1, g2, eq_true g3, eq_true g4, g5, eq_true g6, eq_false g7]
  by_cases g8 : o.values.length = o.names.length 
  rotate_left 
  · have g8' : ¬ (o.values.length : Int) = o.names.length := by omega 
    simp -implicitDefEqProofs [s_ObjOk_b, u1, u2, u3, u4, u5, u6, g1, g2, eq_true g3, eq_true g4, g5, eq_true g6, eq_true g7, eq_false g8, eq_false g8'] 
  have g8' : (o.values.length : Int) = o.names.length := by omega
  simp -implicitDefEqProofs [s_ObjOk_b, u1, u2, u3, u4, u5, u6, g1, g2, eq_true g3, eq_true g4, g5, eq_true g6, eq_true g7, eq_true g8, eq_true g8']
  all_goals (repeat' split) <;> first | rfl | omega | (simp_all; done) | (simp_all; omega) | skip
theorem L_i_ObjOk (o : Ob) (hb : wL wS o.values ≤ 1073741824) : loopW (evA (ev LI TT) (okT TT) i_ObjOk_L0) [(1, .ptr .own (eOb .bor o)), (5, .adr 1 [] 0 2), (6, .row .bor 1 (o.values.map eS)), (7, .int .i64 o.values.length), (8, .int .i64 0)] = if allB valueOk (o.values) = true then some (.exit 0, [(1, .ptr .own (eOb .bor o)), (5, .adr 1 [] 0 2), (6, .row .bor 1 (o.values.map eS)), (7, .int .i64 o.values.length), (8, .int .i64 (o.values).length), (9, .bool false)]) else some (.ret, [(2, .bool false)]) := by
  refine loop_all (f := evA (ev LI TT) (okT TT) i_ObjOk_L0) (o.values) (fun i => [(1, .ptr .own (eOb .bor o)), (5, .adr 1 [] 0 2), (6, .row .bor 1 (o.values.map eS)), (7, .int .i64 o.values.length), (8, .int .i64 i)]) valueOk _ _ (fun i b hi hl => ?_) ?_
  · have hw := wrap_succ i (by have := wL_len (w := wS) o.values; omega)
    obtain ⟨_, rfl⟩ := List.getElem?_eq_some_iff.1 hi
    have hm := wS_mem (List.getElem_mem hl)
    have u1 := c_i_ValueOk  o.values[i] (by omega)
    try simp at u1
    simp -implicitDefEqProofs [i_ObjOk_L0, i_ObjOk_L0b, hl, hw, u1]
    all_goals (repeat' split) <;> first | rfl | omega | (simp_all; done) | (simp_all; omega) | skip
  · simp -implicitDefEqProofs [i_ObjOk_L0, i_ObjOk_L0b]
theorem c_i_ObjOk (o : Ob) (hb : wOb o ≤ 1073741824) : ev LI TT 99 [.agg (eOb .bor o)] = some (.bool ((objOk o)), [.dead]) := by
  rw [ev_run (b := i_ObjOk_b) (rs := [.t 2]) (n := 1) rfl rfl]
  have hw : wOb o = o.path.length + wL wS o.names + wL wS o.values + wRsp o.resp := rfl 
  have hw2 : wRsp o.resp = wL wFld o.resp.fields + o.resp.body.length := rfl 
  have hn := wL_len (w := wS) o.names 
  have hv := wL_len (w := wS) o.values 
  have hvl := varyOf_len o.resp.fields 
  unfold objOk namesOk
  have u1 := c_i_RespOk  o.resp (by omega)
  try simp at u1
  have u2 := c_i_pathOk  o.path (by omega)
  try simp at u2
  have u3 := c_i_namesOk  o.names (by omega) (fun w hw => by have := wS_mem hw; omega)
  try simp at u3
  have u4 := c_i_VaryOf  o.resp.fields (by omega)
  try simp at u4
  have u5 := c_x_slices_Equal_string_string  o.names (varyOf o.resp.fields) (by omega)
  try simp at u5
  have u6 := L_i_ObjOk  o (by omega)
  try simp at u6
  by_cases g1 : allB valueOk o.values = true
  rotate_left
  · simp -implicitDefEqProofs [i_ObjOk_b, u1, u2, u3, u4, u5, u6, g1]
  by_cases g2 : pathOk o.path = true
  rotate_left
  · simp -implicitDefEqProofs [i_ObjOk_b, u1, u2, u3, u4, u5, u6, g1, g2]
  by_cases g3 : 0 ≤ o.t
  rotate_left
  · simp -implicitDefEqProofs [i_ObjOk_b, u1, u2, u3, u4, u5, u6, g1, g2, eq_false g3]
  by_cases g4 : o.t ≤ 1000000
  rotate_left
  · simp -implicitDefEqProofs [i_ObjOk_b, u1, u2, u3, u4, u5, u6, g1, g2, eq_true g3, eq_false g4]
  by_cases g8 : o.values.length = o.names.length 
  rotate_left 
  · have g8' : ¬ (o.values.length : Int) = o.names.length := by omega 
    simp -implicitDefEqProofs [i_ObjOk_b, u1, u2, u3, u4, u5, u6, g1, g2, eq_true g3, eq_true g4, eq_false g8, eq_false g8'] 
  have g8' : (o.values.length : Int) = o.names.length := by omega 
  by_cases h5 : allB tokenOk o.names = true 
  rotate_left 
  · simp -implicitDefEqProofs [i_ObjOk_b, u1, u2, u3, u4, u5, u6, g1, g2, eq_true g3, eq_true g4, eq_true g8, eq_true g8', h5] 
  by_cases h6 : (o.names.length : Int) ≤ 4 
  rotate_left 
  · simp -implicitDefEqProofs [i_ObjOk_b, u1, u2, u3, u4, u5, u6, g1, g2, eq_true g3, eq_true g4, eq_true g8, eq_true g8', h5, eq_false h6] 
  by_cases h7 : respOk o.resp = true 
  rotate_left 
  · simp -implicitDefEqProofs [i_ObjOk_b, u1, u2, u3, u4, u5, u6, g1, g2, eq_true g3, eq_true g4, eq_true g8, eq_true g8', h5, eq_true h6, h7]
  simp -implicitDefEqProofs [i_ObjOk_b, u1, u2, u3, u4, u5, u6, g1, g2, eq_true g3, eq_true g4, eq_true g8, eq_true g8', h5, eq_true h6, h7]
  all_goals (repeat' split) <;> first | rfl | omega | (simp_all; done) | (simp_all; omega) | skip
theorem c_s_BanOk (b : Bn) (hb : wBn b ≤ 1073741824) : ev LI TT 70 [.agg (eBn b)] = some (.bool ((banOk b)), [.dead]) := by
  rw [ev_run (b := s_BanOk_b) (rs := [.t 2]) (n := 1) rfl rfl]
  have hw : wBn b = b.a.length + b.b.length := rfl 
  unfold banOk
  have u1 := c_s_l3Path  b.a (by omega)
  try simp at u1
  have u2 := c_s_TokenOk  b.a (by omega)
  try simp at u2
  have u3 := c_s_ValueOk  b.b (by omega)
  try simp at u3
  by_cases g1 : 0 ≤ b.t
  rotate_left
  · simp -implicitDefEqProofs [s_BanOk_b, u1, u2, u3, eq_false g1]
  by_cases g2 : b.t ≤ 1000000
  rotate_left
  · simp -implicitDefEqProofs [s_BanOk_b, u1, u2, u3, eq_true g1, eq_false g2]
  by_cases h1 : b.kind = 1 
  · by_cases h2 : pathOk b.a = true <;> simp -implicitDefEqProofs [s_BanOk_b, u1, u2, u3, eq_true g1, eq_true g2, h1, h2] 
  by_cases h2 : b.kind = 2 
  · by_cases h3 : pathOk b.a = true <;> simp -implicitDefEqProofs [s_BanOk_b, u1, u2, u3, eq_true g1, eq_true g2, h2, h3] 
  by_cases h3 : b.kind = 3 
  · by_cases h4 : tokenOk b.a = true <;> simp -implicitDefEqProofs [s_BanOk_b, u1, u2, u3, eq_true g1, eq_true g2, h3, h4]
  simp -implicitDefEqProofs [s_BanOk_b, u1, u2, u3, eq_true g1, eq_true g2, h1, h2, h3]
  all_goals (repeat' split) <;> first | rfl | omega | (simp_all; done) | (simp_all; omega) | skip
theorem c_i_BanOk (b : Bn) (hb : wBn b ≤ 1073741824) : ev LI TT 75 [.agg (eBn b)] = some (.bool ((banOk b)), [.dead]) := by
  rw [ev_run (b := i_BanOk_b) (rs := [.t 2]) (n := 1) rfl rfl]
  have hw : wBn b = b.a.length + b.b.length := rfl 
  unfold banOk
  have u1 := c_i_pathOk  b.a (by omega)
  try simp at u1
  have u2 := c_i_TokenOk  b.a (by omega)
  try simp at u2
  have u3 := c_i_ValueOk  b.b (by omega)
  try simp at u3
  by_cases g1 : 0 ≤ b.t
  rotate_left
  · simp -implicitDefEqProofs [i_BanOk_b, u1, u2, u3, eq_false g1]
  by_cases g2 : b.t ≤ 1000000
  rotate_left
  · simp -implicitDefEqProofs [i_BanOk_b, u1, u2, u3, eq_true g1, eq_false g2]
  by_cases h1 : b.kind = 1 
  · by_cases h2 : pathOk b.a = true <;> simp -implicitDefEqProofs [i_BanOk_b, u1, u2, u3, eq_true g1, eq_true g2, h1, h2] 
  by_cases h2 : b.kind = 2 
  · by_cases h3 : pathOk b.a = true <;> simp -implicitDefEqProofs [i_BanOk_b, u1, u2, u3, eq_true g1, eq_true g2, h2, h3] 
  by_cases h3 : b.kind = 3 
  · by_cases h4 : tokenOk b.a = true <;> simp -implicitDefEqProofs [i_BanOk_b, u1, u2, u3, eq_true g1, eq_true g2, h3, h4]
  simp -implicitDefEqProofs [i_BanOk_b, u1, u2, u3, eq_true g1, eq_true g2, h1, h2, h3]
  all_goals (repeat' split) <;> first | rfl | omega | (simp_all; done) | (simp_all; omega) | skip
@[simp] theorem c_i_isCell (t : Int) : ev LI TT 119 [.int .i64 t] = some (.bool ((decide (0 ≤ t ∧ t ≤ 19))), [.dead]) := by
  rw [ev_run (b := i_isCell_b) (rs := [.t 2]) (n := 1) rfl rfl]
  simp -implicitDefEqProofs [i_isCell_b]
  all_goals (repeat' split) <;> first | rfl | omega | (simp_all; done) | (simp_all; omega) | skip
@[simp] theorem c_i_isPlace (t : Int) : ev LI TT 76 [.int .i64 t] = some (.bool ((decide (5 ≤ t ∧ t ≤ 19))), [.dead]) := by
  rw [ev_run (b := i_isPlace_b) (rs := [.t 2]) (n := 1) rfl rfl]
  simp -implicitDefEqProofs [i_isPlace_b]
  all_goals (repeat' split) <;> first | rfl | omega | (simp_all; done) | (simp_all; omega) | skip
theorem L_s_DiskOk (d : Dsk) (hb : d.pending.length ≤ 9223372036854775807) : loopW (evA (ev LI TT) (okT TT) s_DiskOk_L0) [(1, .ptr .own (eDsk .bor d)), (3, .int .i64 0)] = if allB okW (d.pending) = true then some (.exit 0, [(1, .ptr .own (eDsk .bor d)), (3, .int .i64 (d.pending).length), (8, .bool false)]) else some (.ret, [(2, .bool false)]) := by
  refine loop_all (f := evA (ev LI TT) (okT TT) s_DiskOk_L0) (d.pending) (fun i => [(1, .ptr .own (eDsk .bor d)), (3, .int .i64 i)]) okW _ _ (fun i b hi hl => ?_) ?_
  · have hw := wrap_succ i (by first | omega | (simp at hl; omega))
    obtain ⟨_, rfl⟩ := List.getElem?_eq_some_iff.1 hi
    simp -implicitDefEqProofs [s_DiskOk_L0, s_DiskOk_L0b, hl, hw, okW]
    all_goals (repeat' split) <;> first | rfl | omega | (simp_all; done) | (simp_all; omega) | skip
  · simp -implicitDefEqProofs [s_DiskOk_L0, s_DiskOk_L0b]
theorem c_s_DiskOk (d : Dsk) (hb : d.pending.length ≤ 9223372036854775807) : ev LI TT 69 [.agg (eDsk .bor d)] = some (.bool ((okD d)), [.dead]) := by
  rw [ev_run (b := s_DiskOk_b) (rs := [.t 2]) (n := 1) rfl rfl]
  unfold okD
  have u1 := L_s_DiskOk  d hb
  try simp at u1
  simp -implicitDefEqProofs [s_DiskOk_b, u1]
  all_goals (repeat' split) <;> first | rfl | omega | (simp_all; done) | (simp_all; omega) | skip
theorem L_i_DiskOk (d : Dsk) (hb : d.pending.length ≤ 9223372036854775807) : loopW (evA (ev LI TT) (okT TT) i_DiskOk_L0) [(1, .ptr .own (eDsk .bor d)), (5, .adr 1 [] 0 1), (6, .row .bor 2 (d.pending.map eW)), (7, .int .i64 d.pending.length), (8, .int .i64 0)] = if allB okW (d.pending) = true then some (.exit 0, [(1, .ptr .own (eDsk .bor d)), (5, .adr 1 [] 0 1), (6, .row .bor 2 (d.pending.map eW)), (7, .int .i64 d.pending.length), (8, .int .i64 (d.pending).length), (9, .bool false)]) else some (.ret, [(2, .bool false)]) := by
  refine loop_all (f := evA (ev LI TT) (okT TT) i_DiskOk_L0) (d.pending) (fun i => [(1, .ptr .own (eDsk .bor d)), (5, .adr 1 [] 0 1), (6, .row .bor 2 (d.pending.map eW)), (7, .int .i64 d.pending.length), (8, .int .i64 i)]) okW _ _ (fun i b hi hl => ?_) ?_
  · have hw := wrap_succ i (by first | omega | (simp at hl; omega))
    obtain ⟨_, rfl⟩ := List.getElem?_eq_some_iff.1 hi
    simp -implicitDefEqProofs [i_DiskOk_L0, i_DiskOk_L0b, hl, hw, okW]
    all_goals (repeat' split) <;> first | rfl | omega | (simp_all; done) | (simp_all; omega) | skip
  · simp -implicitDefEqProofs [i_DiskOk_L0, i_DiskOk_L0b]
theorem c_i_DiskOk (d : Dsk) (hb : d.pending.length ≤ 9223372036854775807) : ev LI TT 78 [.agg (eDsk .bor d)] = some (.bool ((okD d)), [.dead]) := by
  rw [ev_run (b := i_DiskOk_b) (rs := [.t 2]) (n := 1) rfl rfl]
  unfold okD
  have u1 := L_i_DiskOk  d hb
  try simp at u1
  simp -implicitDefEqProofs [i_DiskOk_b, u1]
  all_goals (repeat' split) <;> first | rfl | omega | (simp_all; done) | (simp_all; omega) | skip
end M
set_option linter.unusedVariables false
set_option linter.unusedSimpArgs false
namespace M
open Go
theorem L_s_ShelfOk (s : Sh) (hb : wSh s ≤ 1073741824) : loopW (evA (ev LI TT) (okT TT) s_ShelfOk_L0) [(1, .ptr .own (eSh .bor s)), (3, .int .i64 0)] = if allB banOk (s.bans) = true then some (.exit 0, [(1, .ptr .own (eSh .bor s)), (3, .int .i64 (s.bans).length), (33, .bool false)]) else some (.ret, [(2, .bool false)]) := by
  refine loop_all (f := evA (ev LI TT) (okT TT) s_ShelfOk_L0) (s.bans) (fun i => [(1, .ptr .own (eSh .bor s)), (3, .int .i64 i)]) banOk _ _ (fun i b hi hl => ?_) ?_
  · have hw := wrap_succ i (by have hws : wSh s = wDsk s.disk + wL wKp s.objs + wL wBn s.bans := rfl; have := wL_len (w := wBn) s.bans; omega)
    obtain ⟨_, rfl⟩ := List.getElem?_eq_some_iff.1 hi
    have hws : wSh s = wDsk s.disk + wL wKp s.objs + wL wBn s.bans := rfl 
    have hm := wBn_mem (List.getElem_mem hl)
    have u1 := c_s_BanOk  s.bans[i] (by omega)
    try simp at u1
    simp -implicitDefEqProofs [s_ShelfOk_L0, s_ShelfOk_L0b, hl, hw, u1]
    all_goals (repeat' split) <;> first | rfl | omega | (simp_all; done) | (simp_all; omega) | skip
  · simp -implicitDefEqProofs [s_ShelfOk_L0, s_ShelfOk_L0b]
theorem L_s_ShelfOk_L1 (s : Sh) (n : Nat) (k : Kp) (hn : n ≤ s.objs.length) (hb : s.objs.length ≤ 1073741824) : loopW (evA (ev LI TT) (okT TT) s_ShelfOk_L1) [(1, .ptr .own (eSh .bor s)), (4, .int .i64 n), (5, .ptr .own (eKp .bor k)), (6, .int .i64 0)] = if allB (fun y => decide ¬ y.at_ = k.at_) (s.objs.take n) = true then some (.exit 4, [(1, .ptr .own (eSh .bor s)), (4, .int .i64 n), (5, .ptr .own (eKp .bor k)), (6, .int .i64 (s.objs.take n).length), (92, .bool false)]) else some (.ret, [(2, .bool false)]) := by
  refine loop_all (f := evA (ev LI TT) (okT TT) s_ShelfOk_L1) (s.objs.take n) (fun i => [(1, .ptr .own (eSh .bor s)), (4, .int .i64 n), (5, .ptr .own (eKp .bor k)), (6, .int .i64 i)]) (fun y => decide ¬ y.at_ = k.at_) _ _ (fun i b hi hl => ?_) ?_
  · have hw := wrap_succ i (by first | omega | (simp at hl; omega))
    obtain ⟨_, rfl⟩ := List.getElem?_eq_some_iff.1 hi
    have h1 : i < n := by simp at hl; omega 
    have h2 : i < s.objs.length := by omega
    simp -implicitDefEqProofs [s_ShelfOk_L1, s_ShelfOk_L1b, hl, hw, h1, h2]
    all_goals (repeat' split) <;> first | rfl | omega | (simp_all; done) | (simp_all; omega) | skip
  · have hmin : min n s.objs.length = n := by omega 
    simp -implicitDefEqProofs [s_ShelfOk_L1, s_ShelfOk_L1b, hmin]
theorem L_s_ShelfOk_L2 (s : Sh) (hb : wSh s ≤ 1073741824) (hs : 1 ≤ s.seq ∧ s.seq ≤ 100000) : loopW (evA (ev LI TT) (okT TT) s_ShelfOk_L2) [(1, .ptr .own (eSh .bor s)), (4, .int .i64 0)] = if allB (kpS s.seq s.objs) (s.objs.zipIdx) = true then some (.exit 2, [(1, .ptr .own (eSh .bor s)), (4, .int .i64 (s.objs.zipIdx).length), (47, .bool false)]) else some (.ret, [(2, .bool false)]) := by
  refine loop_all (f := evA (ev LI TT) (okT TT) s_ShelfOk_L2) (s.objs.zipIdx) (fun i => [(1, .ptr .own (eSh .bor s)), (4, .int .i64 i)]) (kpS s.seq s.objs) _ _ (fun i b hi hl => ?_) ?_
  · have hw := wrap_succ i (by have hws : wSh s = wDsk s.disk + wL wKp s.objs + wL wBn s.bans := rfl; have := wL_len (w := wKp) s.objs; simp at hl; omega)
    obtain ⟨_, rfl⟩ := List.getElem?_eq_some_iff.1 hi
    simp only [List.length_zipIdx] at hl 
    have hws : wSh s = wDsk s.disk + wL wKp s.objs + wL wBn s.bans := rfl 
    have hlen := wL_len (w := wKp) s.objs 
    have hz : s.objs.zipIdx[i]'(by simpa using hl) = (s.objs[i], i) := by simp 
    have hm := wKp_mem (List.getElem_mem hl) 
    have hS : IntKind.i64.wrap (s.seq - 1) = s.seq - 1 := wrap_id (by omega) (by omega) 
    rw [hz] 
    have hmin : min i s.objs.length = i := by omega
    have u1 := c_s_ObjOk  s.objs[i].obj (by omega)
    try simp at u1
    have u2 := L_s_ShelfOk_L1  s i s.objs[i] (by omega) (by omega)
    try simp at u2
    by_cases g1 : objOk (s.objs[i]).obj = true
    rotate_left
    · simp -implicitDefEqProofs [s_ShelfOk_L2, s_ShelfOk_L2b, hl, hw, u1, u2, kpS, hS, hmin, g1]
    by_cases g2 : 5 ≤ (s.objs[i]).at_
    rotate_left
    · simp -implicitDefEqProofs [s_ShelfOk_L2, s_ShelfOk_L2b, hl, hw, u1, u2, kpS, hS, hmin, g1, eq_false g2]
    by_cases g3 : (s.objs[i]).at_ ≤ 19
    rotate_left
    · simp -implicitDefEqProofs [s_ShelfOk_L2, s_ShelfOk_L2b, hl, hw, u1, u2, kpS, hS, hmin, g1, eq_true g2, eq_false g3]
    by_cases g4 : 1 ≤ (s.objs[i]).seq
    rotate_left
    · simp -implicitDefEqProofs [s_ShelfOk_L2, s_ShelfOk_L2b, hl, hw, u1, u2, kpS, hS, hmin, g1, eq_true g2, eq_true g3, eq_false g4]
    by_cases g5 : (s.objs[i]).seq ≤ s.seq - 1
    rotate_left
    · simp -implicitDefEqProofs [s_ShelfOk_L2, s_ShelfOk_L2b, hl, hw, u1, u2, kpS, hS, hmin, g1, eq_true g2, eq_true g3, eq_true g4, eq_false g5]
    by_cases g6 : i = 0 
    · subst g6 
      try simp at u2 hw 
      simp -implicitDefEqProofs [s_ShelfOk_L2, s_ShelfOk_L2b, hl, hw, u1, u2, kpS, hS, hmin, g1, eq_true g2, eq_true g3, eq_true g4, eq_true g5] 
    obtain ⟨j, rfl⟩ : ∃ j, i = j + 1 := ⟨i - 1, by omega⟩ 
    have hj : j < s.objs.length := by omega 
    have hJ : IntKind.i64.wrap (j : Int) = j := wrap_id (by omega) (by omega) 
    have hp := prevSeq_succ s.objs j hj 
    try simp at u2 hw hS 
    have hpos : (0 : Int) < (j : Int) + 1 := by omega 
    have hlc : (j : Int) + 1 < s.objs.length := by omega 
    have hnn : (0 : Int) ≤ (j : Int) + 1 := by omega 
    by_cases g7 : (s.objs[j]).seq < (s.objs[j + 1]).seq 
    rotate_left 
    · have g7' : (s.objs[j + 1]).seq ≤ (s.objs[j]).seq := by omega 
      simp -implicitDefEqProofs [s_ShelfOk_L2, s_ShelfOk_L2b, hl, hw, u1, u2, kpS, hS, hmin, g1, eq_true g2, eq_true g3, eq_true g4, eq_true g5, hj, hJ, hp, hpos, hlc, hnn, eq_false g7, eq_true g7'] 
    have g7' : ¬ (s.objs[j + 1]).seq ≤ (s.objs[j]).seq := by omega
    simp -implicitDefEqProofs [s_ShelfOk_L2, s_ShelfOk_L2b, hl, hw, u1, u2, kpS, hS, hmin, g1, eq_true g2, eq_true g3, eq_true g4, eq_true g5, hj, hJ, hp, hpos, hlc, hnn, eq_true g7, eq_false g7']
    all_goals (repeat' split) <;> first | rfl | omega | (simp_all; done) | (simp_all; omega) | skip
  · simp -implicitDefEqProofs [s_ShelfOk_L2, s_ShelfOk_L2b]
theorem c_s_ShelfOk (s : Sh) (hb : wSh s ≤ 1073741824) : ev LI TT 32 [.agg (eSh .bor s)] = some (.bool ((shelfOk s)), [.dead]) := by
  rw [ev_run (b := s_ShelfOk_b) (rs := [.t 2]) (n := 1) rfl rfl]
  have hws : wSh s = wDsk s.disk + wL wKp s.objs + wL wBn s.bans := rfl 
  have hws2 : wDsk s.disk = wL wS s.disk.cells + wL wWr s.disk.pending := rfl 
  have hlen := wL_len (w := wWr) s.disk.pending 
  unfold shelfOk
  have u1 := c_s_DiskOk  s.disk (by omega)
  try simp at u1
  have u2 := L_s_ShelfOk  s hb
  try simp at u2
  by_cases g1 : okD s.disk = true
  rotate_left
  · simp -implicitDefEqProofs [s_ShelfOk_b, u1, u2, g1]
  by_cases g2 : (s.bans.length : Int) ≤ 5
  rotate_left
  · simp -implicitDefEqProofs [s_ShelfOk_b, u1, u2, g1, eq_false g2]
  by_cases g3 : 5 ≤ s.next
  rotate_left
  · simp -implicitDefEqProofs [s_ShelfOk_b, u1, u2, g1, eq_true g2, eq_false g3]
  by_cases g4 : s.next ≤ 19
  rotate_left
  · simp -implicitDefEqProofs [s_ShelfOk_b, u1, u2, g1, eq_true g2, eq_true g3, eq_false g4]
  by_cases g5 : 1 ≤ s.seq
  rotate_left
  · simp -implicitDefEqProofs [s_ShelfOk_b, u1, u2, g1, eq_true g2, eq_true g3, eq_true g4, eq_false g5]
  by_cases g6 : s.seq ≤ 100000
  rotate_left
  · simp -implicitDefEqProofs [s_ShelfOk_b, u1, u2, g1, eq_true g2, eq_true g3, eq_true g4, eq_true g5, eq_false g6]
  have u3 := L_s_ShelfOk_L2 s hb ⟨by omega, by omega⟩ 
  rw [kpS_eq] at u3 
  simp at u3 
  have g2' : ¬ 5 < (s.bans.length : Int) := by omega
  simp -implicitDefEqProofs [s_ShelfOk_b, u1, u2, g1, eq_true g2, eq_true g3, eq_true g4, eq_true g5, eq_true g6, u3, g2']
  all_goals (repeat' split) <;> first | rfl | omega | (simp_all; done) | (simp_all; omega) | skip
end M
set_option linter.unusedVariables false
set_option linter.unusedSimpArgs false
namespace M
open Go
theorem c_i_Shelf_objsOk_1 (x k : Kp) : ev LI TT 121 [.agg (eKp .bor x), .ptr .bor (eKp .bor k)] = some (.bool (decide (x.at_ = k.at_)), [.dead, .dead]) := by
  rw [ev_run (b := i_Shelf_objsOk_1_b) (rs := [.t 3]) (n := 2) rfl rfl]
  simp -implicitDefEqProofs [i_Shelf_objsOk_1_b]
  all_goals (repeat' split) <;> first | rfl | omega | (simp_all; done) | (simp_all; omega) | skip
theorem L_x_slices_IndexFunc_impl_Kept_impl_Kept (l : List Kp) (k : Kp) (gf : Nat) (p : Kp → Bool) (ho : okT TT gf = true) (hf : ∀ x ∈ l, ev LI TT gf [.agg (eKp .bor x), .ptr .bor (eKp .bor k)] = some (.bool (p x), [.dead, .dead])) (hb : l.length ≤ 9223372036854775807) : loopW (evA (ev LI TT) (okT TT) x_slices_IndexFunc_impl_Kept_impl_Kept_L0) [(0, .row .bor 9 (l.map (eKp .bor))), (1, .fn gf [.ptr .bor (eKp .bor k)]), (7, .int .i64 l.length), (8, .int .i64 0)] = (firstI p 0 (l)).elim (some (.exit 0, [(0, .row .bor 9 (l.map (eKp .bor))), (1, .fn gf [.ptr .bor (eKp .bor k)]), (7, .int .i64 l.length), (8, .int .i64 (l).length), (9, .bool false)])) fun x => some (.ret, (fun (i : Nat) b => [(4, .int .i64 i)]) x.1 x.2) := by
  refine loop_first (f := evA (ev LI TT) (okT TT) x_slices_IndexFunc_impl_Kept_impl_Kept_L0) (l) (fun i => [(0, .row .bor 9 (l.map (eKp .bor))), (1, .fn gf [.ptr .bor (eKp .bor k)]), (7, .int .i64 l.length), (8, .int .i64 i)]) p (fun (i : Nat) b => [(4, .int .i64 i)]) _ (fun i b hi hl => ?_) ?_
  · have hw := wrap_succ i (by first | omega | (simp at hl; omega))
    obtain ⟨_, rfl⟩ := List.getElem?_eq_some_iff.1 hi
    have u1 := hf l[i] (List.getElem_mem hl)
    try simp at u1
    simp -implicitDefEqProofs [x_slices_IndexFunc_impl_Kept_impl_Kept_L0, x_slices_IndexFunc_impl_Kept_impl_Kept_L0b, hl, hw, u1, ho, isFn]
    all_goals (repeat' split) <;> first | rfl | omega | (simp_all; done) | (simp_all; omega) | skip
  · simp -implicitDefEqProofs [x_slices_IndexFunc_impl_Kept_impl_Kept_L0, x_slices_IndexFunc_impl_Kept_impl_Kept_L0b]
theorem c_x_slices_IndexFunc_impl_Kept_impl_Kept (l : List Kp) (k : Kp) (gf : Nat) (p : Kp → Bool) (ho : okT TT gf = true) (hf : ∀ x ∈ l, ev LI TT gf [.agg (eKp .bor x), .ptr .bor (eKp .bor k)] = some (.bool (p x), [.dead, .dead])) (hb : l.length ≤ 9223372036854775807) : ev LI TT 145 [.row .bor 9 (l.map (eKp .bor)), .fn gf [.ptr .bor (eKp .bor k)]] = some (.int .i64 ((firstI p 0 l).elim (-1) fun x => (x.1 : Int)), [.dead, .dead]) := by
  rw [ev_run (b := x_slices_IndexFunc_impl_Kept_impl_Kept_b) (rs := [.t 4]) (n := 2) rfl rfl]
  have u1 := L_x_slices_IndexFunc_impl_Kept_impl_Kept  l k gf p ho hf hb
  try simp at u1
  cases g : firstI p 0 l with 
  | none => rw [g] at u1; simp at u1; simp -implicitDefEqProofs [x_slices_IndexFunc_impl_Kept_impl_Kept_b, u1] 
  | some x => 
  rw [g] at u1 
  simp at u1
  simp -implicitDefEqProofs [x_slices_IndexFunc_impl_Kept_impl_Kept_b, u1]
  all_goals (repeat' split) <;> first | rfl | omega | (simp_all; done) | (simp_all; omega) | skip
theorem c_x_slices_ContainsFunc_impl_Kept_impl_Kept (l : List Kp) (k : Kp) (gf : Nat) (p : Kp → Bool) (ho : okT TT gf = true) (hf : ∀ x ∈ l, ev LI TT gf [.agg (eKp .bor x), .ptr .bor (eKp .bor k)] = some (.bool (p x), [.dead, .dead])) (hb : l.length ≤ 9223372036854775807) : ev LI TT 120 [.row .bor 9 (l.map (eKp .bor)), .fn gf [.ptr .bor (eKp .bor k)]] = some (.bool (!allB (fun x => !p x) l), [.dead, .dead]) := by
  rw [ev_run (b := x_slices_ContainsFunc_impl_Kept_impl_Kept_b) (rs := [.t 4]) (n := 2) rfl rfl]
  have u1 := c_x_slices_IndexFunc_impl_Kept_impl_Kept  l k gf p ho hf hb
  try simp at u1
  rw [← firstI_all p l 0] 
  cases g : firstI p 0 l with 
  | none => rw [g] at u1; simp at u1; simp -implicitDefEqProofs [x_slices_ContainsFunc_impl_Kept_impl_Kept_b, u1] 
  | some x => 
  rw [g] at u1 
  simp at u1
  simp -implicitDefEqProofs [x_slices_ContainsFunc_impl_Kept_impl_Kept_b, u1]
  all_goals (repeat' split) <;> first | rfl | omega | (simp_all; done) | (simp_all; omega) | skip
theorem L_i_objsOk (s : Sh) (hb : wSh s ≤ 1073741824) : ∃ sl, loopW (evA (ev LI TT) (okT TT) i_Shelf_objsOk_L0) [(0, .ptr .bor (eSh .bor s)), (3, .int .i64 0), (7, .ptr .bor (eSh .bor s)), (8, .ptr .bor (eSh .bor s)), (9, .ptr .bor ((eSh .bor s).drop 2)), (10, .row .bor 9 (s.objs.map (eKp .bor))), (11, .int .i64 s.objs.length), (12, .int .i64 0)] = if objsOk s.seq s.objs = true then some (.exit 0, sl) else some (.ret, [(2, .bool false)]) := by
  have hws : wSh s = wDsk s.disk + wL wKp s.objs + wL wBn s.bans := rfl
  have hlen := wL_len (w := wKp) s.objs
  refine ⟨_, loop_all (f := evA (ev LI TT) (okT TT) i_Shelf_objsOk_L0) s.objs.zipIdx (fun i => [(0, .ptr .bor (eSh .bor s)), (3, .int .i64 (prevSeq s.objs i)), (7, .ptr .bor (eSh .bor s)), (8, .ptr .bor (eSh .bor s)), (9, .ptr .bor ((eSh .bor s).drop 2)), (10, .row .bor 9 (s.objs.map (eKp .bor))), (11, .int .i64 s.objs.length), (12, .int .i64 i)]) (kpP s.seq s.objs) [(2, .bool false)] [(0, .ptr .bor (eSh .bor s)), (3, .int .i64 (prevSeq s.objs s.objs.length)), (7, .ptr .bor (eSh .bor s)), (8, .ptr .bor (eSh .bor s)), (9, .ptr .bor ((eSh .bor s).drop 2)), (10, .row .bor 9 (s.objs.map (eKp .bor))), (11, .int .i64 s.objs.length), (12, .int .i64 s.objs.length), (13, .bool false)] (fun i b hi hl => ?_) ?_⟩
  · simp only [List.length_zipIdx] at hl
    have hw := wrap_succ i (by omega)
    obtain ⟨_, rfl⟩ := List.getElem?_eq_some_iff.1 hi
    have hz : s.objs.zipIdx[i]'(by simpa using hl) = (s.objs[i], i) := by simp
    have hm := wKp_mem (List.getElem_mem hl)
    have hp := prevSeq_succ s.objs i hl
    rw [hz]
    have hs : scalarsB [] = true := rfl
    have u1 := c_i_ObjOk s.objs[i].obj (by omega)
    have u2 := c_x_slices_ContainsFunc_impl_Kept_impl_Kept (s.objs.take i) s.objs[i] 121 (fun x => decide (x.at_ = (s.objs[i]).at_)) rfl (fun x _ => c_i_Shelf_objsOk_1 x s.objs[i]) (by simp; omega)
    have hle : (i : Int) ≤ s.objs.length := by omega
    have hle2 : i ≤ s.objs.length := by omega
    simp at u1 u2
    unfold kpP
    by_cases g1 : objOk (s.objs[i]).obj = true
    rotate_left
    · simp -implicitDefEqProofs [i_Shelf_objsOk_L0, i_Shelf_objsOk_L0b, hl, hw, hle, hle2, resAL, resA, resF, u1, u2, g1]
    by_cases g2 : 5 ≤ (s.objs[i]).at_
    rotate_left
    · simp -implicitDefEqProofs [i_Shelf_objsOk_L0, i_Shelf_objsOk_L0b, hl, hw, hle, hle2, resAL, resA, resF, u1, u2, g1, eq_false g2]
    by_cases g3 : (s.objs[i]).at_ ≤ 19
    rotate_left
    · simp -implicitDefEqProofs [i_Shelf_objsOk_L0, i_Shelf_objsOk_L0b, hl, hw, hle, hle2, resAL, resA, resF, u1, u2, g1, eq_true g2, eq_false g3]
    by_cases g4 : allB (fun y : Kp => !decide (y.at_ = (s.objs[i]).at_)) (s.objs.take i) = true
    rotate_left
    · simp -implicitDefEqProofs [i_Shelf_objsOk_L0, i_Shelf_objsOk_L0b, hl, hw, hle, hle2, resAL, resA, resF, u1, u2, g1, eq_true g2, eq_true g3, g4]
    by_cases g5 : prevSeq s.objs i < (s.objs[i]).seq
    rotate_left
    · have g5' : (s.objs[i]).seq ≤ prevSeq s.objs i := by omega
      simp -implicitDefEqProofs [i_Shelf_objsOk_L0, i_Shelf_objsOk_L0b, hl, hw, hle, hle2, resAL, resA, resF, u1, u2, g1, eq_true g2, eq_true g3, g4, eq_false g5, eq_true g5']
    have g5' : ¬ (s.objs[i]).seq ≤ prevSeq s.objs i := by omega
    by_cases g6 : (s.objs[i]).seq < s.seq
    rotate_left
    · have g6' : s.seq ≤ (s.objs[i]).seq := by omega
      simp -implicitDefEqProofs [i_Shelf_objsOk_L0, i_Shelf_objsOk_L0b, hl, hw, hle, hle2, resAL, resA, resF, u1, u2, g1, eq_true g2, eq_true g3, g4, eq_true g5, eq_false g5', eq_false g6, eq_true g6']
    have g6' : ¬ s.seq ≤ (s.objs[i]).seq := by omega
    simp -implicitDefEqProofs [i_Shelf_objsOk_L0, i_Shelf_objsOk_L0b, hl, hw, hle, hle2, resAL, resA, resF, u1, u2, g1, eq_true g2, eq_true g3, g4, eq_true g5, eq_false g5', eq_true g6, eq_false g6', hp]
  · simp -implicitDefEqProofs [i_Shelf_objsOk_L0, i_Shelf_objsOk_L0b]
theorem c_i_Shelf_objsOk (s : Sh) (hb : wSh s ≤ 1073741824) : ev LI TT 79 [.ptr .bor (eSh .bor s)] = some (.bool (objsOk s.seq s.objs), [.dead]) := by
  rw [ev_run (b := i_Shelf_objsOk_b) (rs := [.t 2]) (n := 1) rfl rfl]
  obtain ⟨sl, u1⟩ := L_i_objsOk s hb 
  simp at u1
  simp -implicitDefEqProofs [i_Shelf_objsOk_b, u1]
  all_goals (repeat' split) <;> first | rfl | omega | (simp_all; done) | (simp_all; omega) | skip
theorem L_i_ShelfOk (s : Sh) (hb : wSh s ≤ 1073741824) : loopW (evA (ev LI TT) (okT TT) i_ShelfOk_L0) [(1, .ptr .own (eSh .bor s)), (5, .adr 1 [] 0 3), (6, .row .bor 4 (s.bans.map eBn)), (7, .int .i64 s.bans.length), (8, .int .i64 0)] = if allB banOk (s.bans) = true then some (.exit 0, [(1, .ptr .own (eSh .bor s)), (5, .adr 1 [] 0 3), (6, .row .bor 4 (s.bans.map eBn)), (7, .int .i64 s.bans.length), (8, .int .i64 (s.bans).length), (9, .bool false)]) else some (.ret, [(2, .bool false)]) := by
  refine loop_all (f := evA (ev LI TT) (okT TT) i_ShelfOk_L0) (s.bans) (fun i => [(1, .ptr .own (eSh .bor s)), (5, .adr 1 [] 0 3), (6, .row .bor 4 (s.bans.map eBn)), (7, .int .i64 s.bans.length), (8, .int .i64 i)]) banOk _ _ (fun i b hi hl => ?_) ?_
  · have hw := wrap_succ i (by have hws : wSh s = wDsk s.disk + wL wKp s.objs + wL wBn s.bans := rfl; have := wL_len (w := wBn) s.bans; omega)
    obtain ⟨_, rfl⟩ := List.getElem?_eq_some_iff.1 hi
    have hws : wSh s = wDsk s.disk + wL wKp s.objs + wL wBn s.bans := rfl 
    have hm := wBn_mem (List.getElem_mem hl)
    have u1 := c_i_BanOk  s.bans[i] (by omega)
    try simp at u1
    simp -implicitDefEqProofs [i_ShelfOk_L0, i_ShelfOk_L0b, hl, hw, u1]
    all_goals (repeat' split) <;> first | rfl | omega | (simp_all; done) | (simp_all; omega) | skip
  · simp -implicitDefEqProofs [i_ShelfOk_L0, i_ShelfOk_L0b]
theorem c_i_ShelfOk (s : Sh) (hb : wSh s ≤ 1073741824) : ev LI TT 37 [.agg (eSh .bor s)] = some (.bool ((shelfOk s)), [.dead]) := by
  rw [ev_run (b := i_ShelfOk_b) (rs := [.t 2]) (n := 1) rfl rfl]
  have hws : wSh s = wDsk s.disk + wL wKp s.objs + wL wBn s.bans := rfl 
  have hws2 : wDsk s.disk = wL wS s.disk.cells + wL wWr s.disk.pending := rfl 
  have hlen := wL_len (w := wWr) s.disk.pending 
  unfold shelfOk
  have u1 := c_i_DiskOk  s.disk (by omega)
  try simp at u1
  have u2 := L_i_ShelfOk  s hb
  try simp at u2
  have u3 := c_i_Shelf_objsOk  s hb
  try simp at u3
  by_cases g1 : allB banOk s.bans = true
  rotate_left
  · simp -implicitDefEqProofs [i_ShelfOk_b, u1, u2, u3, g1]
  by_cases g2 : (s.bans.length : Int) ≤ 5
  rotate_left
  · simp -implicitDefEqProofs [i_ShelfOk_b, u1, u2, u3, g1, eq_false g2]
  by_cases g3 : 5 ≤ s.next
  rotate_left
  · simp -implicitDefEqProofs [i_ShelfOk_b, u1, u2, u3, g1, eq_true g2, eq_false g3]
  by_cases g4 : s.next ≤ 19
  rotate_left
  · simp -implicitDefEqProofs [i_ShelfOk_b, u1, u2, u3, g1, eq_true g2, eq_true g3, eq_false g4]
  by_cases g5 : 1 ≤ s.seq
  rotate_left
  · simp -implicitDefEqProofs [i_ShelfOk_b, u1, u2, u3, g1, eq_true g2, eq_true g3, eq_true g4, eq_false g5]
  by_cases g6 : s.seq ≤ 100000
  rotate_left
  · simp -implicitDefEqProofs [i_ShelfOk_b, u1, u2, u3, g1, eq_true g2, eq_true g3, eq_true g4, eq_true g5, eq_false g6]
  by_cases g7 : okD s.disk = true
  rotate_left
  · simp -implicitDefEqProofs [i_ShelfOk_b, u1, u2, u3, g1, eq_true g2, eq_true g3, eq_true g4, eq_true g5, eq_true g6, g7]
  simp -implicitDefEqProofs [i_ShelfOk_b, u1, u2, u3, g1, eq_true g2, eq_true g3, eq_true g4, eq_true g5, eq_true g6, g7]
  all_goals (repeat' split) <;> first | rfl | omega | (simp_all; done) | (simp_all; omega) | skip
end M
set_option linter.unusedVariables false
set_option linter.unusedSimpArgs false
set_option maxHeartbeats 4000000
namespace M
open Go
def showW (k : Kp) : Str := k.obj.path ++ 64 :: numText k.obj.t
def showG (i : Nat) (g : Str) (k : Kp) : Str := (if i = 0 then g else g ++ [32]) ++ showW k
theorem showG_tail : ∀ (l : List Kp) (i : Nat) (g : Str), i ≠ 0 → foldI showG i l g = g ++ Lib.joinTail [32] (l.map showW)
  | [], i, g, _ => by simp [foldI, Lib.joinTail]
  | k :: l, i, g, h => by
    rw [foldI, showG_tail l (i + 1) _ (by omega)]
    simp [showG, h, Lib.joinTail]
theorem showG_join (l : List Kp) : foldI showG 0 l [] = Lib.join (l.map showW) [32] := by
  cases l with
  | nil => rfl
  | cons k l =>
    rw [foldI, showG_tail l 1 _ (by omega), List.map_cons, Lib.join_cons]
    simp [showG]
theorem showW_len {l : List Kp} {k : Kp} (h : k ∈ l) : (showW k).length ≤ wL wKp l + 8 := by
  have h1 := wKp_mem h
  have h2 : wOb k.obj = k.obj.path.length + wL wS k.obj.names + wL wS k.obj.values + wRsp k.obj.resp := rfl
  have h3 := numText_len k.obj.t
  unfold showW
  simp
  omega
def shelfText (s : Sh) : Str := if shelfOk s = true then (if s.objs = [] then [45] else Lib.join (s.objs.map showW) [32]) ++ (if s.bans = [] then [] else [32, 33] ++ numText (s.bans.length : Int)) else []
theorem sh_bans (s : Sh) : s.bans.length ≤ wSh s := by
  have h1 := wL_len (w := wBn) s.bans
  have h2 : wL wBn s.bans ≤ wSh s := by unfold wSh; omega
  omega
theorem sh_objs (s : Sh) : wL wKp s.objs ≤ wSh s := by unfold wSh; omega
theorem L_s_ShelfText (s : Sh) (hb : wSh s ≤ 1048576) (g : Str) (hinv : g.length ≤ 0 * 2097152) : loopW (evA (ev LI TT) (okT TT) s_ShelfText_L0) [(1, .ptr .own (eSh .bor s)), (3, .str ⟨(g).toArray⟩), (4, .int .i64 0)] = some (.exit 0, [(1, .ptr .own (eSh .bor s)), (3, .str ⟨((foldI (showG) 0 (s.objs) g)).toArray⟩), (4, .int .i64 (s.objs).length), (12, .bool false)]) := by
  refine loop_foldI (f := evA (ev LI TT) (okT TT) s_ShelfText_L0) (s.objs) (fun i (g : Str) => [(1, .ptr .own (eSh .bor s)), (3, .str ⟨(g).toArray⟩), (4, .int .i64 i)]) (showG) (fun g => [(1, .ptr .own (eSh .bor s)), (3, .str ⟨(g).toArray⟩), (4, .int .i64 (s.objs).length), (12, .bool false)]) (fun i (g : Str) => g.length ≤ i * 2097152) g hinv (fun i b g hi hl hinv => ?_) (fun i b g hi hinv => ?_) (fun g hinv => ?_)
  · have hw := wrap_succ i (by have := wL_len (w := wKp) s.objs; have := sh_objs s; omega)
    obtain ⟨_, rfl⟩ := List.getElem?_eq_some_iff.1 hi
    have h1 := showW_len (List.getElem_mem hl) 
    have h2 := sh_objs s 
    have h3 := wL_len (w := wKp) s.objs 
    have u1 := c_s_NumText (s.objs[i]).obj.t 
    have h4 : (showW s.objs[i]).length = (s.objs[i]).obj.path.length + (numText (s.objs[i]).obj.t).length + 1 := by unfold showW; simp; omega 
    have h64 : (⟨#[64]⟩ : ByteArray) = ⟨([64] : Str).toArray⟩ := rfl 
    have h32 : (⟨#[32]⟩ : ByteArray) = ⟨([32] : Str).toArray⟩ := rfl 
    have hp : g.length ≤ 2199023255552 := by omega 
    have hs1 : g.length ≤ 9223372036854775806 := by omega 
    have hs2 : g.length + 1 ≤ 9223372036854775807 := by omega 
    have hs3 : g.length + (s.objs[i]).obj.path.length ≤ 9223372036854775806 := by omega 
    have hs3' : g.length + (s.objs[i]).obj.path.length ≤ 9223372036854775807 := by omega 
    have hs4 : g.length + ((s.objs[i]).obj.path.length + 1) ≤ 9223372036854775807 := by omega 
    by_cases g0 : i = 0 
    · subst g0 
      have hg : g = [] := by cases g with | nil => rfl | cons a b => simp at hinv 
      subst hg 
      have hq1 : (s.objs[0]).obj.path.length ≤ 9223372036854775806 := by omega 
      have hq2 : (s.objs[0]).obj.path.length + 1 + (numText (s.objs[0]).obj.t).length ≤ 9223372036854775807 := by omega 
      have hq3 : (s.objs[0]).obj.path.length ≤ 9223372036854775807 := by omega 
      simp at hw 
      simp -implicitDefEqProofs [s_ShelfText_L0, s_ShelfText_L0b, hl, hw, u1, showG, showW, h64, str_append, hq1, hq2, hq3] 
    have gp : 0 < i := by omega 
    have gpi : (0 : Int) < i := by omega 
    have hq4 : g.length + 1 + (s.objs[i]).obj.path.length ≤ 9223372036854775807 := by omega 
    have hq5 : g.length + ((s.objs[i]).obj.path.length + 1) ≤ 9223372036854775806 := by omega 
    have hq6 : g.length + ((s.objs[i]).obj.path.length + 1 + 1) + (numText (s.objs[i]).obj.t).length ≤ 9223372036854775807 := by omega
    simp -implicitDefEqProofs [s_ShelfText_L0, s_ShelfText_L0b, hl, hw, u1, showG, showW, h64, h32, str_append, g0, gp, gpi, hs1, hs2, hs3, hs3', hs4, hq4, hq5, hq6]
    all_goals try omega
  · have h1 := showW_len (List.mem_of_getElem? hi) 
    have h2 := sh_objs s 
    have h3 : (showG i g b).length ≤ g.length + 1 + (showW b).length := by unfold showG; split <;> simp <;> omega 
    try simp only at hinv 
    try simp only 
    omega
  · simp -implicitDefEqProofs [s_ShelfText_L0, s_ShelfText_L0b]
theorem joinW_len : ∀ (l : List Kp) (n : Nat), (∀ k ∈ l, (showW k).length ≤ n) → (Lib.joinTail [32] (l.map showW)).length ≤ l.length * (n + 1)
  | [], n, _ => by simp [Lib.joinTail]
  | k :: l, n, h => by
    have ih := joinW_len l n fun x hx => h x (List.mem_cons_of_mem _ hx)
    have h1 := h k (List.mem_cons_self ..)
    simp only [Lib.joinTail, List.map_cons, List.flatten_cons, List.length_append, List.length_cons, List.length_nil] at ih ⊢
    rw [Nat.add_mul]
    omega
theorem join_len (s : Sh) (hb : wSh s ≤ 1048576) : (Lib.join (s.objs.map showW) [32]).length ≤ 2199023255552 ∧ (s.objs ≠ [] → Lib.join (s.objs.map showW) [32] ≠ []) := by
  have h2 := sh_objs s
  have h3 := wL_len (w := wKp) s.objs
  have hk : ∀ k ∈ s.objs, (showW k).length ≤ 1048584 := fun k hk => by have := showW_len hk; omega
  cases hs : s.objs with
  | nil => simp [Lib.join_nil]
  | cons k l =>
    rw [hs] at hk h3 h2
    have h4 := joinW_len l 1048584 fun x hx => hk x (List.mem_cons_of_mem _ hx)
    have h5 := hk k (List.mem_cons_self ..)
    have h6 : l.length ≤ 1048576 := by simp at h3; omega
    have h7 : l.length * (1048584 + 1) ≤ 1048576 * 1048585 := Nat.mul_le_mul h6 (Nat.le_refl _)
    rw [List.map_cons, Lib.join_cons]
    refine ⟨by simp only [List.length_append]; omega, fun _ h => ?_⟩
    have := congrArg List.length h
    simp [showW] at this
theorem c_s_ShelfText (s : Sh) (hb : wSh s ≤ 1048576) : ev LI TT 12 [.agg (eSh .bor s)] = some (.str ⟨(shelfText s).toArray⟩, [.dead]) := by
  rw [ev_run (b := s_ShelfText_b) (rs := [.t 2]) (n := 1) rfl rfl]
  have hj := join_len s hb 
  have hbn : s.bans.length ≤ 1048576 := by have := sh_bans s; omega 
  unfold shelfText 
  have h2 := numText_len (s.bans.length : Int) 
  have hsh : (⟨#[32, 33]⟩ : ByteArray) = ⟨([32, 33] : Str).toArray⟩ := rfl 
  have hds : (⟨#[45]⟩ : ByteArray) = ⟨([45] : Str).toArray⟩ := rfl
  have u1 := c_s_ShelfOk  s (by omega)
  try simp at u1
  have u2 := L_s_ShelfText  s hb [] (by simp)
  try simp at u2
  have u3 := c_s_NumText  (s.bans.length : Int)
  try simp at u3
  rw [showG_join] at u2 
  generalize shelfOk s = b1 at u1 
  cases b1 
  · simp -implicitDefEqProofs [s_ShelfText_b, u1] 
  generalize hJ : Lib.join (s.objs.map showW) [32] = J at u2 hj 
  try simp at u2 
  have hjl : J.length ≤ 9223372036854775805 := by omega 
  have hjl2 : J.length + 2 + (numText (s.bans.length : Int)).length ≤ 9223372036854775807 := by omega 
  by_cases g1 : s.objs = [] 
  · have hJe : J = [] := by rw [← hJ, g1]; rfl 
    subst hJe 
    by_cases g2 : s.bans = [] 
    · have hb0 : ¬ 0 < s.bans.length := by rw [g2]; simp 
      have hb0' : ¬ (0 : Int) < s.bans.length := by omega 
      simp -implicitDefEqProofs [s_ShelfText_b, u1, u2, u3, eq_true g1, eq_true g2, hb0, hb0'] 
    · have g3 : 0 < s.bans.length := List.length_pos_iff.2 g2 
      have g4 : (0 : Int) < s.bans.length := by omega 
      have g5 : 1 + 2 + (numText (s.bans.length : Int)).length ≤ 9223372036854775807 := by omega 
      simp -implicitDefEqProofs [s_ShelfText_b, u1, u2, u3, eq_true g1, eq_false g2, g3, g4, g5, hsh, hds, str_append] 
      try omega 
  have hJn := hj.2 g1 
  by_cases g2 : s.bans = [] 
  · have hb0 : ¬ 0 < s.bans.length := by rw [g2]; simp 
    have hb0' : ¬ (0 : Int) < s.bans.length := by omega 
    simp -implicitDefEqProofs [s_ShelfText_b, u1, u2, u3, eq_false g1, eq_true g2, eq_false hJn, hb0, hb0'] 
  have g3 : 0 < s.bans.length := List.length_pos_iff.2 g2 
  have g4 : (0 : Int) < s.bans.length := by omega
  simp -implicitDefEqProofs [s_ShelfText_b, u1, u2, u3, eq_false g1, eq_false g2, g3, g4, eq_false hJn, hsh, str_append, hjl, hjl2]
  all_goals try omega
theorem L_i_ShelfText (s : Sh) (hb : wSh s ≤ 1048576) : loopW (evA (ev LI TT) (okT TT) i_ShelfText_L0) [(1, .ptr .own (eSh .bor s)), (3, .row .own 1 (([]).map eS)), (10, .adr 1 [] 0 2), (11, .row .bor 9 (s.objs.map (eKp .bor))), (12, .int .i64 s.objs.length), (13, .int .i64 0)] = some (.exit 0, [(1, .ptr .own (eSh .bor s)), (3, .row .own 1 ((((s.objs).flatMap (fun k => [showW k]))).map eS)), (10, .adr 1 [] 0 2), (11, .row .bor 9 (s.objs.map (eKp .bor))), (12, .int .i64 s.objs.length), (13, .int .i64 (s.objs).length), (14, .bool false)]) := by
  refine loop_flat (f := evA (ev LI TT) (okT TT) i_ShelfText_L0) (s.objs) (fun k => [showW k]) (fun i out => [(1, .ptr .own (eSh .bor s)), (3, .row .own 1 ((out).map eS)), (10, .adr 1 [] 0 2), (11, .row .bor 9 (s.objs.map (eKp .bor))), (12, .int .i64 s.objs.length), (13, .int .i64 i)]) (fun out => [(1, .ptr .own (eSh .bor s)), (3, .row .own 1 ((out).map eS)), (10, .adr 1 [] 0 2), (11, .row .bor 9 (s.objs.map (eKp .bor))), (12, .int .i64 s.objs.length), (13, .int .i64 (s.objs).length), (14, .bool false)]) (fun i b out hi hl hout => ?_) (fun out hout => ?_)
  · have hw := wrap_succ i (by have := wL_len (w := wKp) s.objs; have := sh_objs s; omega)
    obtain ⟨_, rfl⟩ := List.getElem?_eq_some_iff.1 hi
    have hx := showW_len (List.getElem_mem hl) 
    have h2 := sh_objs s 
    have h3 := wL_len (w := wKp) s.objs 
    have hlo : out.length = i := by rw [hout]; exact flat_one_len _ _ _ (by omega) 
    have hlz : (i + 1) * 16 ≤ 140737488355328 := by omega 
    have h4 : (showW s.objs[i]).length = (s.objs[i]).obj.path.length + (numText (s.objs[i]).obj.t).length + 1 := by unfold showW; simp; omega 
    have h64 : (⟨#[64]⟩ : ByteArray) = ⟨([64] : Str).toArray⟩ := rfl 
    have hq1 : (s.objs[i]).obj.path.length ≤ 9223372036854775806 := by omega 
    have hq2 : (s.objs[i]).obj.path.length + 1 + (numText (s.objs[i]).obj.t).length ≤ 9223372036854775807 := by omega
    have u1 := c_i_NumText  (s.objs[i]).obj.t
    try simp at u1
    simp -implicitDefEqProofs [i_ShelfText_L0, i_ShelfText_L0b, hl, hw, u1, hlo, hlz, takeE, showW, h64, str_append, hq1, hq2]
  · simp -implicitDefEqProofs [i_ShelfText_L0, i_ShelfText_L0b]
theorem c_i_ShelfText (s : Sh) (hb : wSh s ≤ 1048576) : ev LI TT 14 [.agg (eSh .bor s)] = some (.str ⟨(shelfText s).toArray⟩, [.dead]) := by
  rw [ev_run (b := i_ShelfText_b) (rs := [.t 2]) (n := 1) rfl rfl]
  have hj := join_len s hb 
  have hol : s.objs.length ≤ 1048576 := by have := wL_len (w := wKp) s.objs; have := sh_objs s; omega 
  have hbn : s.bans.length ≤ 1048576 := by have := sh_bans s; omega 
  unfold shelfText 
  have h2 := numText_len (s.bans.length : Int) 
  have hsh : (⟨#[32, 33]⟩ : ByteArray) = ⟨([32, 33] : Str).toArray⟩ := rfl 
  have hds : (⟨#[45]⟩ : ByteArray) = ⟨([45] : Str).toArray⟩ := rfl
  have u1 := c_i_ShelfOk  s (by omega)
  try simp at u1
  have u2 := L_i_ShelfText  s hb
  try simp at u2
  have u3 := c_i_NumText  (s.bans.length : Int)
  try simp at u3
  rw [flatMap_one] at u2 
  have u4 := c_x_strings_Join (s.objs.map showW) [32] (by omega) (by simp; omega) 
  generalize shelfOk s = b1 at u1 
  cases b1 
  · simp -implicitDefEqProofs [i_ShelfText_b, u1] 
  generalize hJ : Lib.join (s.objs.map showW) [32] = J at u4 hj 
  have gW : s.objs.map showW = [] ↔ s.objs = [] := by simp 
  generalize s.objs.map showW = W at u2 u4 gW hJ 
  try simp at u2 
  try simp at u4 
  have hjl : J.length ≤ 9223372036854775805 := by omega 
  have hjl2 : J.length + (2 + (numText (s.bans.length : Int)).length) ≤ 9223372036854775807 := by omega 
  have hjl3 : 2 + (numText (s.bans.length : Int)).length ≤ 9223372036854775807 := by omega 
  by_cases g1 : s.objs = [] 
  · have g1W := gW.2 g1 
    have hJe : J = [] := by rw [← hJ, g1W]; rfl 
    subst hJe 
    by_cases g2 : s.bans = [] 
    · have hb0 : ¬ 0 < s.bans.length := by rw [g2]; simp 
      have hb0' : ¬ (0 : Int) < s.bans.length := by omega 
      simp -implicitDefEqProofs [i_ShelfText_b, u1, u2, u3, u4, eq_true g1, eq_true g1W, eq_true g2, hb0, hb0'] 
    · have g3 : 0 < s.bans.length := List.length_pos_iff.2 g2 
      have g4 : (0 : Int) < s.bans.length := by omega 
      simp -implicitDefEqProofs [i_ShelfText_b, u1, u2, u3, u4, eq_true g1, eq_true g1W, eq_false g2, g3, g4, hjl3, hsh, hds, str_append] 
      try omega 
  have g1W := mt gW.1 g1 
  by_cases g2 : s.bans = [] 
  · have hb0 : ¬ 0 < s.bans.length := by rw [g2]; simp 
    have hb0' : ¬ (0 : Int) < s.bans.length := by omega 
    simp -implicitDefEqProofs [i_ShelfText_b, u1, u2, u3, u4, eq_false g1, eq_false g1W, eq_true g2, hb0, hb0'] 
  have g3 : 0 < s.bans.length := List.length_pos_iff.2 g2 
  have g4 : (0 : Int) < s.bans.length := by omega
  simp -implicitDefEqProofs [i_ShelfText_b, u1, u2, u3, u4, eq_false g1, eq_false g1W, eq_false g2, g3, g4, hsh, str_append, hjl, hjl2, hjl3]
  all_goals try omega
end M
set_option linter.unusedVariables false
set_option linter.unusedSimpArgs false
set_option maxHeartbeats 4000000
namespace M
open Go
theorem law_FnExactShelfText (a0 : Sh) (k0 : bSh a0) : ∃ ps, ev LI TT 4 [.agg (eSh .sl a0)] = some (.bool true, ps) := by
  rw [ev_run (b := l_FnExactShelfText_b) (rs := [.t 2]) (n := 1) rfl rfl]
  have s0 := c_l_szShelf a0 1048576 k0 (by omega) (by omega)
  have w0 := subW_or 1048576 (wSh a0)
  obtain ⟨m0, e0⟩ : ∃ m, m = subW 1048576 (wSh a0) := ⟨_, rfl⟩
  rw [← e0] at s0 w0
  try simp at s0
  by_cases z0 : m0 < 0
  · simp -implicitDefEqProofs [l_FnExactShelfText_b, s0, z0]
  have t0 := c_l_toShelf a0 (by omega)
  try simp at t0
  have q0 := c_l_eqShelf a0 a0 (by omega)
  try simp at q0
  have hS := c_s_ShelfText a0 (by omega)
  have hI := c_i_ShelfText a0 (by omega)
  try simp at hS
  try simp at hI
  simp -implicitDefEqProofs [l_FnExactShelfText_b, s0, z0, t0, q0, hS, hI]
end M
