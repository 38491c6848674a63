/- What the functions come to in the machine; no conditions. -/
import Derived.Test.YtcldaglhkhfhaaaGreatDoorTab
import Derived.Test.YtcldaglhkhfhaaaGreatDoorMd
set_option linter.unusedSectionVars false
set_option linter.unusedVariables false
set_option linter.unusedSimpArgs false
namespace M
open Go
theorem L_l_szStringS (l : List Str) (hlen : l.length ≤ 9223372036854775807) (hb : bL bS l) (n : Int) (hn : 0 ≤ n) (hm : n ≤ 9223372036854775807) : loopW (evA (ev LI TT) (okT TT) l_szStringS_L0) [(0, .row .bor 1 (l.map (eS))), (1, .int .i64 n), (5, .int .i64 0)] = if szL (fun b n => subW n (wS b)) (l) n < 0 then some (.ret, [(4, .int .i64 (-1))]) else some (.exit 0, [(0, .row .bor 1 (l.map (eS))), (1, .int .i64 (szL (fun b n => subW n (wS b)) (l) n)), (5, .int .i64 (l).length), (15, .bool false)]) := by
  refine loop_sz (f := evA (ev LI TT) (okT TT) l_szStringS_L0) (l) (fun i n => [(0, .row .bor 1 (l.map (eS))), (1, .int .i64 n), (5, .int .i64 i)]) (fun b n => subW n (wS b)) _ (fun n => [(0, .row .bor 1 (l.map (eS))), (1, .int .i64 n), (5, .int .i64 (l).length), (15, .bool false)]) n hn hm (fun b n => subW_le _ n) (fun i b n hi hl hn hm => ?_) (fun n => ?_)
  · have hw := wrap_succ i (by first | omega | (simp at hl; omega))
    obtain ⟨_, rfl⟩ := List.getElem?_eq_some_iff.1 hi
    have h1 : (l[i]).length ≤ 9223372036854775807 := hb.2 _ (List.getElem_mem hl) 
    have h3 := subW_or n (wS l[i]) 
    have h4 : wS l[i] = (l[i]).length := rfl 
    obtain ⟨m, e1⟩ : ∃ m, m = n - ((l[i]).length : Int) := ⟨_, rfl⟩ 
    have h2 : IntKind.i64.wrap (n - ((l[i]).length : Int)) = m := by rw [e1]; exact wrap_id (by omega) (by omega) 
    by_cases h5 : m < 0 
    · have ef : subW n (wS l[i]) = -1 := by omega 
      simp -implicitDefEqProofs [l_szStringS_L0, l_szStringS_L0b, hl, hw, h2, h5, ef] 
    have ef : subW n (wS l[i]) = m := by omega
    simp -implicitDefEqProofs [l_szStringS_L0, l_szStringS_L0b, hl, hw, h2, h5, ef]
  · simp -implicitDefEqProofs [l_szStringS_L0, l_szStringS_L0b]
theorem c_l_szStringS (l : List Str) (n : Int) (hb : bL bS l) (hn : 0 ≤ n) (hm : n ≤ 9223372036854775807) : ev LI TT 68 [.row .bor 1 (l.map (eS)), .int .i64 n] = some (.int .i64 (subW n (wL wS l)), [.dead, .dead]) := by
  rw [ev_run (b := l_szStringS_b) (rs := [.t 4]) (n := 2) rfl rfl]
  have hl := hb.1 
  have hw : wL wS l = l.length + (l.map wS).sum := rfl 
  have ht := subW_or n (wL wS l) 
  obtain ⟨m, e1⟩ : ∃ m, m = n - (l.length : Int) := ⟨_, rfl⟩ 
  have h2 : IntKind.i64.wrap (n - (l.length : Int)) = m := by rw [e1]; exact wrap_id (by omega) (by omega) 
  by_cases h : m < 0 
  · have ef : subW n (wL wS l) = -1 := by omega 
    simp -implicitDefEqProofs [l_szStringS_b, h2, h, ef] 
  have h3 := L_l_szStringS  l hb.1 hb m (by omega) (by omega) 
  rw [szL_subW _ _ _ (by omega)] at h3 
  have hs := subW_or m (l.map wS).sum 
  obtain ⟨q, e2⟩ : ∃ q, q = subW m (l.map wS).sum := ⟨_, rfl⟩ 
  rw [← e2] at h3 hs 
  try simp at h3 
  by_cases h4 : q < 0 
  · have ef : subW n (wL wS l) = -1 := by omega 
    simp only [h4, if_true] at h3 
    simp -implicitDefEqProofs [l_szStringS_b, h2, h, h3, ef] 
  have ef : subW n (wL wS l) = q := by omega 
  simp only [h4, if_false] at h3
  simp -implicitDefEqProofs [l_szStringS_b, h2, h, h3, ef]
  all_goals (repeat' split) <;> first | rfl | omega | (simp_all; done) | (simp_all; omega) | skip
theorem L_l_toStringS (l : List Str) (hlen : l.length ≤ 1048576) (hb : wL wS l ≤ 1048576) : loopW (evA (ev LI TT) (okT TT) l_toStringS_L0) [(0, .row .bor 1 (l.map eS)), (3, .row .own 1 (fillN (l.map eS) 0 [.str ⟨#[]⟩])), (4, .int .i64 0), (6, .int .i64 l.length)] = some (.exit 0, [(0, .row .bor 1 (l.map eS)), (3, .row .own 1 (l.map eS)), (4, .int .i64 (l).length), (6, .int .i64 l.length), (11, .bool false)]) := by
  refine loop_count (f := evA (ev LI TT) (okT TT) l_toStringS_L0) (l) (fun i => [(0, .row .bor 1 (l.map eS)), (3, .row .own 1 (fillN (l.map eS) i [.str ⟨#[]⟩])), (4, .int .i64 i), (6, .int .i64 l.length)]) _ (fun i b hi hl => ?_) ?_
  · have hw := wrap_succ i (by first | omega | (simp at hl; omega))
    obtain ⟨_, rfl⟩ := List.getElem?_eq_some_iff.1 hi
    skip
    simp -implicitDefEqProofs [l_toStringS_L0, l_toStringS_L0b, hl, hw]
    first | done | (rw [fillN_set _ _ _ _ (by simpa using hl) (by simp)]; done) | (simp only [modify_two]; rw [fillN_set _ _ _ _ (by simpa using hl) (by simp)])
  · simp -implicitDefEqProofs [l_toStringS_L0, l_toStringS_L0b]
theorem c_l_toStringS (l : List Str) (hb : wL wS l ≤ 1048576) : ev LI TT 77 [.row .bor 1 (l.map eS)] = some (.row .own 1 (l.map eS), [.dead]) := by
  rw [ev_run (b := l_toStringS_b) (rs := [.t 2]) (n := 1) rfl rfl]
  have hlen := wL_len (w := wS) l 
  have h := L_l_toStringS  l (by omega) hb 
  try simp at h
  simp -implicitDefEqProofs [l_toStringS_b, h, (by omega : (l.length : Int) * 16 ≤ 140737488355328)]
  all_goals (repeat' split) <;> first | rfl | omega | (simp_all; done) | (simp_all; omega) | skip
theorem L_l_eqStringS (ps : List (Str × Str)) (hb : ps.length ≤ 9223372036854775807) (hb1 : ∀ x ∈ ps, wS x.1 ≤ 1073741824) : loopW (evA (ev LI TT) (okT TT) l_eqStringS_L0) [(0, .row .bor 1 (ps.map (fun x : Str × Str => eS x.1))), (1, .row .bor 1 (ps.map (fun x : Str × Str => eS x.2))), (5, .int .i64 0)] = if allB eqB (ps) = true then some (.exit 0, [(0, .row .bor 1 (ps.map (fun x : Str × Str => eS x.1))), (1, .row .bor 1 (ps.map (fun x : Str × Str => eS x.2))), (5, .int .i64 ps.length), (14, .bool false)]) else some (.ret, [(4, .bool false)]) := by
  refine loop_all (f := evA (ev LI TT) (okT TT) l_eqStringS_L0) (ps) (fun i => [(0, .row .bor 1 (ps.map (fun x : Str × Str => eS x.1))), (1, .row .bor 1 (ps.map (fun x : Str × Str => eS x.2))), (5, .int .i64 i)]) eqB _ _ (fun i b hi hl => ?_) ?_
  · have hw := wrap_succ i (by first | omega | (simp at hl; omega))
    obtain ⟨_, rfl⟩ := List.getElem?_eq_some_iff.1 hi
    simp -implicitDefEqProofs [l_eqStringS_L0, l_eqStringS_L0b, hl, hw, eqB]
    first | done | (split <;> simp_all)
  · simp -implicitDefEqProofs [l_eqStringS_L0, l_eqStringS_L0b]
theorem c_l_eqStringS (a b : List Str) (hb : wL wS a ≤ 1073741824) : ev LI TT 86 [.row .bor 1 (a.map eS), .row .bor 1 (b.map eS)] = some (.bool (decide (a = b)), [.dead, .dead]) := by
  rw [ev_run (b := l_eqStringS_b) (rs := [.t 4]) (n := 2) rfl rfl]
  simp -implicitDefEqProofs [l_eqStringS_b]
  have hlen := wL_len (w := wS) a 
  by_cases h : a.length = b.length 
  · obtain ⟨ps, rfl, rfl⟩ := zip_ex h 
    have h1 := L_l_eqStringS  ps (by simp at hlen; omega) (fun x hx => Nat.le_trans (wL_mem (List.mem_map_of_mem hx)) hb) 
    have h2 := allB_eq ps 
    simp at h1 
    cases h3 : allB eqB ps <;> rw [h3] at h1 h2 <;> simp [h1, Function.comp_def, ← h2] 
  · have : ¬ a = b := fun e => h (by rw [e]) 
    simp [this] 
    omega
theorem c_l_szField (a : Fld) (n : Int) (hb : bFld a) (hn : 0 ≤ n) (hm : n ≤ 9223372036854775807) : ev LI TT 118 [.agg (eFld a), .int .i64 n] = some (.int .i64 (subW n (wFld a)), [.dead, .dead]) := by
  rw [ev_run (b := l_szField_b) (rs := [.t 4]) (n := 2) rfl rfl]
  have hw : wFld a = a.name.length + a.value.length := rfl 
  have ht := subW_or n (wFld a) 
  have hl1 : a.name.length ≤ 9223372036854775807 := hb.k_name 
  obtain ⟨m1, e1⟩ : ∃ m, m = n - (a.name.length : Int) := ⟨_, rfl⟩ 
  have c1 : IntKind.i64.wrap (n - (a.name.length : Int)) = m1 := by rw [e1]; exact wrap_id (by omega) (by omega) 
  by_cases h1 : m1 < 0 
  · have ef : subW n (wFld a) = -1 := by omega 
    simp -implicitDefEqProofs [l_szField_b, c1, h1, ef] 
  have hl2 : a.value.length ≤ 9223372036854775807 := hb.k_value 
  obtain ⟨m2, e2⟩ : ∃ m, m = m1 - (a.value.length : Int) := ⟨_, rfl⟩ 
  have c2 : IntKind.i64.wrap (m1 - (a.value.length : Int)) = m2 := by rw [e2]; exact wrap_id (by omega) (by omega) 
  by_cases h2 : m2 < 0 
  · have ef : subW n (wFld a) = -1 := by omega 
    simp -implicitDefEqProofs [l_szField_b, c1, h1, c2, h2, ef] 
  have ef : subW n (wFld a) = m2 := by omega
  simp -implicitDefEqProofs [l_szField_b, c1, h1, c2, h2, ef]
  all_goals (repeat' split) <;> first | rfl | omega | (simp_all; done) | (simp_all; omega) | skip
theorem c_l_toField (a : Fld) (hb : wFld a ≤ 1048576) : ev LI TT 125 [.agg (eFld a)] = some (.agg (eFld a), [.dead]) := by
  rw [ev_run (b := l_toField_b) (rs := [.c 2 2 true 161]) (n := 1) rfl rfl]
  have hw : wFld a = a.name.length + a.value.length := rfl
  simp -implicitDefEqProofs [l_toField_b, hw]
  all_goals (repeat' split) <;> first | rfl | omega | (simp_all; done) | (simp_all; omega) | skip
theorem c_l_eqField (a b : Fld) (hb : wFld a ≤ 1073741824) : ev LI TT 132 [.agg (eFld a), .agg (eFld b)] = some (.bool (decide (a = b)), [.dead, .dead]) := by
  rw [ev_run (b := l_eqField_b) (rs := [.t 4]) (n := 2) rfl rfl]
  have hw : wFld a = a.name.length + a.value.length := rfl 
  rw [dec_Fld] 
  by_cases g1 : a.name = b.name 
  rotate_left 
  · simp -implicitDefEqProofs [l_eqField_b, eq_false g1] 
  by_cases g2 : a.value = b.value 
  rotate_left 
  · simp -implicitDefEqProofs [l_eqField_b, eq_true g1, eq_false g2]
  simp -implicitDefEqProofs [l_eqField_b, eq_true g1, eq_true g2]
  all_goals (repeat' split) <;> first | rfl | omega | (simp_all; done) | (simp_all; omega) | skip
theorem L_l_szFieldS (l : List Fld) (hlen : l.length ≤ 9223372036854775807) (hb : bL bFld l) (n : Int) (hn : 0 ≤ n) (hm : n ≤ 9223372036854775807) : loopW (evA (ev LI TT) (okT TT) l_szFieldS_L0) [(0, .row .bor 2 (l.map (eFld))), (1, .int .i64 n), (5, .int .i64 0)] = if szL (fun b n => subW n (wFld b)) (l) n < 0 then some (.ret, [(4, .int .i64 (-1))]) else some (.exit 0, [(0, .row .bor 2 (l.map (eFld))), (1, .int .i64 (szL (fun b n => subW n (wFld b)) (l) n)), (5, .int .i64 (l).length), (15, .bool false)]) := by
  refine loop_sz (f := evA (ev LI TT) (okT TT) l_szFieldS_L0) (l) (fun i n => [(0, .row .bor 2 (l.map (eFld))), (1, .int .i64 n), (5, .int .i64 i)]) (fun b n => subW n (wFld b)) _ (fun n => [(0, .row .bor 2 (l.map (eFld))), (1, .int .i64 n), (5, .int .i64 (l).length), (15, .bool false)]) n hn hm (fun b n => subW_le _ n) (fun i b n hi hl hn hm => ?_) (fun n => ?_)
  · have hw := wrap_succ i (by first | omega | (simp at hl; omega))
    obtain ⟨_, rfl⟩ := List.getElem?_eq_some_iff.1 hi
    have h2 := c_l_szField  l[i] n (hb.2 _ (List.getElem_mem hl)) hn hm 
    obtain ⟨m, e1⟩ : ∃ m, m = subW n (wFld l[i]) := ⟨_, rfl⟩ 
    rw [← e1] at h2 ⊢ 
    try simp at h2
    simp -implicitDefEqProofs [l_szFieldS_L0, l_szFieldS_L0b, hl, hw, h2]
  · simp -implicitDefEqProofs [l_szFieldS_L0, l_szFieldS_L0b]
theorem c_l_szFieldS (l : List Fld) (n : Int) (hb : bL bFld l) (hn : 0 ≤ n) (hm : n ≤ 9223372036854775807) : ev LI TT 67 [.row .bor 2 (l.map (eFld)), .int .i64 n] = some (.int .i64 (subW n (wL wFld l)), [.dead, .dead]) := by
  rw [ev_run (b := l_szFieldS_b) (rs := [.t 4]) (n := 2) rfl rfl]
  have hl := hb.1 
  have hw : wL wFld l = l.length + (l.map wFld).sum := rfl 
  have ht := subW_or n (wL wFld l) 
  obtain ⟨m, e1⟩ : ∃ m, m = n - (l.length : Int) := ⟨_, rfl⟩ 
  have h2 : IntKind.i64.wrap (n - (l.length : Int)) = m := by rw [e1]; exact wrap_id (by omega) (by omega) 
  by_cases h : m < 0 
  · have ef : subW n (wL wFld l) = -1 := by omega 
    simp -implicitDefEqProofs [l_szFieldS_b, h2, h, ef] 
  have h3 := L_l_szFieldS  l hb.1 hb m (by omega) (by omega) 
  rw [szL_subW _ _ _ (by omega)] at h3 
  have hs := subW_or m (l.map wFld).sum 
  obtain ⟨q, e2⟩ : ∃ q, q = subW m (l.map wFld).sum := ⟨_, rfl⟩ 
  rw [← e2] at h3 hs 
  try simp at h3 
  by_cases h4 : q < 0 
  · have ef : subW n (wL wFld l) = -1 := by omega 
    simp only [h4, if_true] at h3 
    simp -implicitDefEqProofs [l_szFieldS_b, h2, h, h3, ef] 
  have ef : subW n (wL wFld l) = q := by omega 
  simp only [h4, if_false] at h3
  simp -implicitDefEqProofs [l_szFieldS_b, h2, h, h3, ef]
  all_goals (repeat' split) <;> first | rfl | omega | (simp_all; done) | (simp_all; omega) | skip
theorem L_l_toFieldS (l : List Fld) (hlen : l.length ≤ 1048576) (hb : wL wFld l ≤ 1048576) : loopW (evA (ev LI TT) (okT TT) l_toFieldS_L0) [(0, .row .bor 2 (l.map eFld)), (3, .row .own 2 (fillN (l.map eFld) 0 [.str ⟨#[]⟩, .str ⟨#[]⟩])), (4, .int .i64 0), (6, .int .i64 l.length)] = some (.exit 0, [(0, .row .bor 2 (l.map eFld)), (3, .row .own 2 (l.map eFld)), (4, .int .i64 (l).length), (6, .int .i64 l.length), (11, .bool false)]) := by
  refine loop_count (f := evA (ev LI TT) (okT TT) l_toFieldS_L0) (l) (fun i => [(0, .row .bor 2 (l.map eFld)), (3, .row .own 2 (fillN (l.map eFld) i [.str ⟨#[]⟩, .str ⟨#[]⟩])), (4, .int .i64 i), (6, .int .i64 l.length)]) _ (fun i b hi hl => ?_) ?_
  · have hw := wrap_succ i (by first | omega | (simp at hl; omega))
    obtain ⟨_, rfl⟩ := List.getElem?_eq_some_iff.1 hi
    have h := c_l_toField  l[i] (Nat.le_trans (wL_mem (List.getElem_mem hl)) hb) 
    try simp at h
    simp -implicitDefEqProofs [l_toFieldS_L0, l_toFieldS_L0b, hl, hw, h]
    first | done | (rw [fillN_set _ _ _ _ (by simpa using hl) (by simp)]; done) | (simp only [modify_two]; rw [fillN_set _ _ _ _ (by simpa using hl) (by simp)])
  · simp -implicitDefEqProofs [l_toFieldS_L0, l_toFieldS_L0b]
theorem c_l_toFieldS (l : List Fld) (hb : wL wFld l ≤ 1048576) : ev LI TT 76 [.row .bor 2 (l.map eFld)] = some (.row .own 2 (l.map eFld), [.dead]) := by
  rw [ev_run (b := l_toFieldS_b) (rs := [.t 2]) (n := 1) rfl rfl]
  have hlen := wL_len (w := wFld) l 
  have h := L_l_toFieldS  l (by omega) hb 
  try simp at h
  simp -implicitDefEqProofs [l_toFieldS_b, h, (by omega : (l.length : Int) * 32 ≤ 140737488355328)]
  all_goals (repeat' split) <;> first | rfl | omega | (simp_all; done) | (simp_all; omega) | skip
theorem L_l_eqFieldS (ps : List (Fld × Fld)) (hb : ps.length ≤ 9223372036854775807) (hb1 : ∀ x ∈ ps, wFld x.1 ≤ 1073741824) : loopW (evA (ev LI TT) (okT TT) l_eqFieldS_L0) [(0, .row .bor 2 (ps.map (fun x : Fld × Fld => eFld x.1))), (1, .row .bor 2 (ps.map (fun x : Fld × Fld => eFld x.2))), (5, .int .i64 0)] = if allB eqB (ps) = true then some (.exit 0, [(0, .row .bor 2 (ps.map (fun x : Fld × Fld => eFld x.1))), (1, .row .bor 2 (ps.map (fun x : Fld × Fld => eFld x.2))), (5, .int .i64 ps.length), (14, .bool false)]) else some (.ret, [(4, .bool false)]) := by
  refine loop_all (f := evA (ev LI TT) (okT TT) l_eqFieldS_L0) (ps) (fun i => [(0, .row .bor 2 (ps.map (fun x : Fld × Fld => eFld x.1))), (1, .row .bor 2 (ps.map (fun x : Fld × Fld => eFld x.2))), (5, .int .i64 i)]) eqB _ _ (fun i b hi hl => ?_) ?_
  · have hw := wrap_succ i (by first | omega | (simp at hl; omega))
    obtain ⟨_, rfl⟩ := List.getElem?_eq_some_iff.1 hi
    have h := c_l_eqField  (ps[i]).1 (ps[i]).2 (hb1 _ (List.getElem_mem hl)); try simp at h
    simp -implicitDefEqProofs [l_eqFieldS_L0, l_eqFieldS_L0b, hl, hw, eqB, h]
  · simp -implicitDefEqProofs [l_eqFieldS_L0, l_eqFieldS_L0b]
theorem c_l_eqFieldS (a b : List Fld) (hb : wL wFld a ≤ 1073741824) : ev LI TT 85 [.row .bor 2 (a.map eFld), .row .bor 2 (b.map eFld)] = some (.bool (decide (a = b)), [.dead, .dead]) := by
  rw [ev_run (b := l_eqFieldS_b) (rs := [.t 4]) (n := 2) rfl rfl]
  simp -implicitDefEqProofs [l_eqFieldS_b]
  have hlen := wL_len (w := wFld) a 
  by_cases h : a.length = b.length 
  · obtain ⟨ps, rfl, rfl⟩ := zip_ex h 
    have h1 := L_l_eqFieldS  ps (by simp at hlen; omega) (fun x hx => Nat.le_trans (wL_mem (List.mem_map_of_mem hx)) hb) 
    have h2 := allB_eq ps 
    simp at h1 
    cases h3 : allB eqB ps <;> rw [h3] at h1 h2 <;> simp [h1, Function.comp_def, ← h2] 
  · have : ¬ a = b := fun e => h (by rw [e]) 
    simp [this] 
    omega
theorem c_l_szResp (a : Rsp) (n : Int) (hb : bRsp a) (hn : 0 ≤ n) (hm : n ≤ 9223372036854775807) : ev LI TT 69 [.agg ((eRsp .bor) a), .int .i64 n] = some (.int .i64 (subW n (wRsp a)), [.dead, .dead]) := by
  rw [ev_run (b := l_szResp_b) (rs := [.t 4]) (n := 2) rfl rfl]
  have hw : wRsp a = wL wFld a.fields + a.body.length := rfl 
  have ht := subW_or n (wRsp a) 
  have c1 := c_l_szFieldS  a.fields n hb.k_fields (by omega) (by omega) 
  have s1 := subW_or n (wL wFld a.fields) 
  obtain ⟨m1, e1⟩ : ∃ m, m = subW n (wL wFld a.fields) := ⟨_, rfl⟩ 
  rw [← e1] at c1 s1 
  try simp at c1 
  by_cases h1 : m1 < 0 
  · have ef : subW n (wRsp a) = -1 := by omega 
    simp -implicitDefEqProofs [l_szResp_b, c1, h1, ef] 
  have hl2 : a.body.length ≤ 9223372036854775807 := hb.k_body 
  obtain ⟨m2, e2⟩ : ∃ m, m = m1 - (a.body.length : Int) := ⟨_, rfl⟩ 
  have c2 : IntKind.i64.wrap (m1 - (a.body.length : Int)) = m2 := by rw [e2]; exact wrap_id (by omega) (by omega) 
  by_cases h2 : m2 < 0 
  · have ef : subW n (wRsp a) = -1 := by omega 
    simp -implicitDefEqProofs [l_szResp_b, c1, h1, c2, h2, ef] 
  have ef : subW n (wRsp a) = m2 := by omega
  simp -implicitDefEqProofs [l_szResp_b, c1, h1, c2, h2, ef]
  all_goals (repeat' split) <;> first | rfl | omega | (simp_all; done) | (simp_all; omega) | skip
theorem c_l_toResp (a : Rsp) (hb : wRsp a ≤ 1048576) : ev LI TT 78 [.agg ((eRsp .bor) a)] = some (.agg ((eRsp .own) a), [.dead]) := by
  rw [ev_run (b := l_toResp_b) (rs := [.c 2 3 true 63]) (n := 1) rfl rfl]
  have hw : wRsp a = wL wFld a.fields + a.body.length := rfl 
  have h1 := c_l_toFieldS  a.fields (by omega) 
  try simp at h1
  simp -implicitDefEqProofs [l_toResp_b, h1, hw]
  all_goals (repeat' split) <;> first | rfl | omega | (simp_all; done) | (simp_all; omega) | skip
theorem c_l_eqResp (a b : Rsp) (hb : wRsp a ≤ 1073741824) : ev LI TT 25 [.agg ((eRsp .bor) a), .agg ((eRsp .bor) b)] = some (.bool (decide (a = b)), [.dead, .dead]) := by
  rw [ev_run (b := l_eqResp_b) (rs := [.t 4]) (n := 2) rfl rfl]
  have hw : wRsp a = wL wFld a.fields + a.body.length := rfl 
  rw [dec_Rsp] 
  by_cases g1 : a.status = b.status 
  rotate_left 
  · simp -implicitDefEqProofs [l_eqResp_b, eq_false g1] 
  have c2 := c_l_eqFieldS  a.fields b.fields (by omega) 
  cases g2 : decide (a.fields = b.fields) 
  · rw [g2] at c2 
    try simp at c2 
    simp -implicitDefEqProofs [l_eqResp_b, eq_true g1, c2] 
  rw [g2] at c2 
  try simp at c2 
  by_cases g3 : a.body = b.body 
  rotate_left 
  · simp -implicitDefEqProofs [l_eqResp_b, eq_true g1, c2, eq_false g3]
  simp -implicitDefEqProofs [l_eqResp_b, eq_true g1, c2, eq_true g3]
  all_goals (repeat' split) <;> first | rfl | omega | (simp_all; done) | (simp_all; omega) | skip
theorem c_l_szObj (a : Ob) (n : Int) (hb : bOb a) (hn : 0 ≤ n) (hm : n ≤ 9223372036854775807) : ev LI TT 20 [.agg ((eOb .bor) a), .int .i64 n] = some (.int .i64 (subW n (wOb a)), [.dead, .dead]) := by
  rw [ev_run (b := l_szObj_b) (rs := [.t 4]) (n := 2) rfl rfl]
  have hw : wOb a = a.path.length + wL wS a.names + wL wS a.values + wRsp a.resp := rfl 
  have ht := subW_or n (wOb a) 
  have hl1 : a.path.length ≤ 9223372036854775807 := hb.k_path 
  obtain ⟨m1, e1⟩ : ∃ m, m = n - (a.path.length : Int) := ⟨_, rfl⟩ 
  have c1 : IntKind.i64.wrap (n - (a.path.length : Int)) = m1 := by rw [e1]; exact wrap_id (by omega) (by omega) 
  by_cases h1 : m1 < 0 
  · have ef : subW n (wOb a) = -1 := by omega 
    simp -implicitDefEqProofs [l_szObj_b, c1, h1, ef] 
  have c2 := c_l_szStringS  a.names m1 hb.k_names (by omega) (by omega) 
  have s2 := subW_or m1 (wL wS a.names) 
  obtain ⟨m2, e2⟩ : ∃ m, m = subW m1 (wL wS a.names) := ⟨_, rfl⟩ 
  rw [← e2] at c2 s2 
  try simp at c2 
  by_cases h2 : m2 < 0 
  · have ef : subW n (wOb a) = -1 := by omega 
    simp -implicitDefEqProofs [l_szObj_b, c1, h1, c2, h2, ef] 
  have c3 := c_l_szStringS  a.values m2 hb.k_values (by omega) (by omega) 
  have s3 := subW_or m2 (wL wS a.values) 
  obtain ⟨m3, e3⟩ : ∃ m, m = subW m2 (wL wS a.values) := ⟨_, rfl⟩ 
  rw [← e3] at c3 s3 
  try simp at c3 
  by_cases h3 : m3 < 0 
  · have ef : subW n (wOb a) = -1 := by omega 
    simp -implicitDefEqProofs [l_szObj_b, c1, h1, c2, h2, c3, h3, ef] 
  have c4 := c_l_szResp  a.resp m3 hb.k_resp (by omega) (by omega) 
  have s4 := subW_or m3 (wRsp a.resp) 
  obtain ⟨m4, e4⟩ : ∃ m, m = subW m3 (wRsp a.resp) := ⟨_, rfl⟩ 
  rw [← e4] at c4 s4 
  try simp at c4 
  by_cases h4 : m4 < 0 
  · have ef : subW n (wOb a) = -1 := by omega 
    simp -implicitDefEqProofs [l_szObj_b, c1, h1, c2, h2, c3, h3, c4, h4, ef] 
  have ef : subW n (wOb a) = m4 := by omega
  simp -implicitDefEqProofs [l_szObj_b, c1, h1, c2, h2, c3, h3, c4, h4, ef]
  all_goals (repeat' split) <;> first | rfl | omega | (simp_all; done) | (simp_all; omega) | skip
theorem c_l_toObj (a : Ob) (hb : wOb a ≤ 1048576) : ev LI TT 23 [.agg ((eOb .bor) a)] = some (.agg ((eOb .own) a), [.dead]) := by
  rw [ev_run (b := l_toObj_b) (rs := [.c 2 7 true 69]) (n := 1) rfl rfl]
  have hw : wOb a = a.path.length + wL wS a.names + wL wS a.values + wRsp a.resp := rfl 
  have h1 := c_l_toStringS  a.names (by omega) 
  try simp at h1 
  have h2 := c_l_toStringS  a.values (by omega) 
  try simp at h2 
  have h3 := c_l_toResp  a.resp (by omega) 
  try simp at h3
  simp -implicitDefEqProofs [l_toObj_b, h1, h2, h3, hw]
  all_goals (repeat' split) <;> first | rfl | omega | (simp_all; done) | (simp_all; omega) | skip
theorem c_l_eqObj (a b : Ob) (hb : wOb a ≤ 1073741824) : ev LI TT 27 [.agg ((eOb .bor) a), .agg ((eOb .bor) b)] = some (.bool (decide (a = b)), [.dead, .dead]) := by
  rw [ev_run (b := l_eqObj_b) (rs := [.t 4]) (n := 2) rfl rfl]
  have hw : wOb a = a.path.length + wL wS a.names + wL wS a.values + wRsp a.resp := rfl 
  rw [dec_Ob] 
  by_cases g1 : a.path = b.path 
  rotate_left 
  · simp -implicitDefEqProofs [l_eqObj_b, eq_false g1] 
  have c2 := c_l_eqStringS  a.names b.names (by omega) 
  cases g2 : decide (a.names = b.names) 
  · rw [g2] at c2 
    try simp at c2 
    simp -implicitDefEqProofs [l_eqObj_b, eq_true g1, c2] 
  rw [g2] at c2 
  try simp at c2 
  have c3 := c_l_eqStringS  a.values b.values (by omega) 
  cases g3 : decide (a.values = b.values) 
  · rw [g3] at c3 
    try simp at c3 
    simp -implicitDefEqProofs [l_eqObj_b, eq_true g1, c2, c3] 
  rw [g3] at c3 
  try simp at c3 
  have c4 := c_l_eqResp  a.resp b.resp (by omega) 
  cases g4 : decide (a.resp = b.resp) 
  · rw [g4] at c4 
    try simp at c4 
    simp -implicitDefEqProofs [l_eqObj_b, eq_true g1, c2, c3, c4] 
  rw [g4] at c4 
  try simp at c4 
  by_cases g5 : a.t = b.t 
  rotate_left 
  · simp -implicitDefEqProofs [l_eqObj_b, eq_true g1, c2, c3, c4, eq_false g5]
  simp -implicitDefEqProofs [l_eqObj_b, eq_true g1, c2, c3, c4, eq_true g5]
  all_goals (repeat' split) <;> first | rfl | omega | (simp_all; done) | (simp_all; omega) | skip
theorem c_l_szReq (a : Rq) (n : Int) (hb : bRq a) (hn : 0 ≤ n) (hm : n ≤ 9223372036854775807) : ev LI TT 19 [.agg ((eRq .bor) a), .int .i64 n] = some (.int .i64 (subW n (wRq a)), [.dead, .dead]) := by
  rw [ev_run (b := l_szReq_b) (rs := [.t 4]) (n := 2) rfl rfl]
  have hw : wRq a = a.path.length + wL wFld a.fields + a.body.length := rfl 
  have ht := subW_or n (wRq a) 
  have hl1 : a.path.length ≤ 9223372036854775807 := hb.k_path 
  obtain ⟨m1, e1⟩ : ∃ m, m = n - (a.path.length : Int) := ⟨_, rfl⟩ 
  have c1 : IntKind.i64.wrap (n - (a.path.length : Int)) = m1 := by rw [e1]; exact wrap_id (by omega) (by omega) 
  by_cases h1 : m1 < 0 
  · have ef : subW n (wRq a) = -1 := by omega 
    simp -implicitDefEqProofs [l_szReq_b, c1, h1, ef] 
  have c2 := c_l_szFieldS  a.fields m1 hb.k_fields (by omega) (by omega) 
  have s2 := subW_or m1 (wL wFld a.fields) 
  obtain ⟨m2, e2⟩ : ∃ m, m = subW m1 (wL wFld a.fields) := ⟨_, rfl⟩ 
  rw [← e2] at c2 s2 
  try simp at c2 
  by_cases h2 : m2 < 0 
  · have ef : subW n (wRq a) = -1 := by omega 
    simp -implicitDefEqProofs [l_szReq_b, c1, h1, c2, h2, ef] 
  have hl3 : a.body.length ≤ 9223372036854775807 := hb.k_body 
  obtain ⟨m3, e3⟩ : ∃ m, m = m2 - (a.body.length : Int) := ⟨_, rfl⟩ 
  have c3 : IntKind.i64.wrap (m2 - (a.body.length : Int)) = m3 := by rw [e3]; exact wrap_id (by omega) (by omega) 
  by_cases h3 : m3 < 0 
  · have ef : subW n (wRq a) = -1 := by omega 
    simp -implicitDefEqProofs [l_szReq_b, c1, h1, c2, h2, c3, h3, ef] 
  have ef : subW n (wRq a) = m3 := by omega
  simp -implicitDefEqProofs [l_szReq_b, c1, h1, c2, h2, c3, h3, ef]
  all_goals (repeat' split) <;> first | rfl | omega | (simp_all; done) | (simp_all; omega) | skip
theorem c_l_toReq (a : Rq) (hb : wRq a ≤ 1048576) : ev LI TT 22 [.agg ((eRq .bor) a)] = some (.agg ((eRq .own) a), [.dead]) := by
  rw [ev_run (b := l_toReq_b) (rs := [.c 2 4 true 66]) (n := 1) rfl rfl]
  have hw : wRq a = a.path.length + wL wFld a.fields + a.body.length := rfl 
  have h1 := c_l_toFieldS  a.fields (by omega) 
  try simp at h1
  simp -implicitDefEqProofs [l_toReq_b, h1, hw]
  all_goals (repeat' split) <;> first | rfl | omega | (simp_all; done) | (simp_all; omega) | skip
theorem c_l_eqReq (a b : Rq) (hb : wRq a ≤ 1073741824) : ev LI TT 26 [.agg ((eRq .bor) a), .agg ((eRq .bor) b)] = some (.bool (decide (a = b)), [.dead, .dead]) := by
  rw [ev_run (b := l_eqReq_b) (rs := [.t 4]) (n := 2) rfl rfl]
  have hw : wRq a = a.path.length + wL wFld a.fields + a.body.length := rfl 
  rw [dec_Rq] 
  by_cases g1 : a.method = b.method 
  rotate_left 
  · simp -implicitDefEqProofs [l_eqReq_b, eq_false g1] 
  by_cases g2 : a.path = b.path 
  rotate_left 
  · simp -implicitDefEqProofs [l_eqReq_b, eq_true g1, eq_false g2] 
  have c3 := c_l_eqFieldS  a.fields b.fields (by omega) 
  cases g3 : decide (a.fields = b.fields) 
  · rw [g3] at c3 
    try simp at c3 
    simp -implicitDefEqProofs [l_eqReq_b, eq_true g1, eq_true g2, c3] 
  rw [g3] at c3 
  try simp at c3 
  by_cases g4 : a.body = b.body 
  rotate_left 
  · simp -implicitDefEqProofs [l_eqReq_b, eq_true g1, eq_true g2, c3, eq_false g4]
  simp -implicitDefEqProofs [l_eqReq_b, eq_true g1, eq_true g2, c3, eq_true g4]
  all_goals (repeat' split) <;> first | rfl | omega | (simp_all; done) | (simp_all; omega) | skip
end M
set_option linter.unusedVariables false
set_option linter.unusedSimpArgs false
set_option maxHeartbeats 4000000
namespace M
open Go
theorem L_l_markText (n : Nat) (out : Str) (hn : out.length + n ≤ 9223372036854775807) : loopW (evA (ev LI TT) (okT TT) l_markText_L0) [(0, .int .i64 n), (3, .str ⟨out.toArray⟩)] = some (.exit 0, [(0, .int .i64 0), (3, .str ⟨(markD n out).toArray⟩), (7, .bool false)]) := by
  have hs : ∀ s, evA (ev LI TT) (okT TT) l_markText_L0 s = evA (ev LI TT) (okT TT) l_markText_L0b s := fun _ => rfl
  induction n using Nat.strongRecOn generalizing out with
  | ind n ih =>
    rw [loopW_eq, hs]
    unfold markD
    by_cases h : n = 0
    · subst h
      simp -implicitDefEqProofs [l_markText_L0b]
    · have hp : 0 < n := by omega
      have := ih (n / 10) (by omega) (UInt8.ofNat (48 + n % 10) :: out) (by rw [List.length_cons]; omega)
      have e1 : ((n : Int)).tmod 10 = ((n % 10 : Nat) : Int) := by rw [Int.tmod_eq_emod_of_nonneg (by omega)]; omega
      have e4 : ((n : Int)).tdiv 10 = ((n / 10 : Nat) : Int) := by rw [Int.tdiv_eq_ediv_of_nonneg (by omega)]; omega
      have e2 : IntKind.i64.wrap (48 + ((n % 10 : Nat) : Int)) = ((48 + n % 10 : Nat) : Int) := by rw [wrap_id (by omega) (by omega)]; omega
      have e3 : IntKind.u8.wrap ((48 + n % 10 : Nat) : Int) = ((48 + n % 10 : Nat) : Int) := wrap8_id' (by omega) (by omega)
      have e5 := u8s_one' (48 + n % 10) (by omega)
      have e6 : IntKind.i64.wrap ((n / 10 : Nat) : Int) = ((n / 10 : Nat) : Int) := wrap_id (by omega) (by omega)
      simp only [h, dite_false]
      rw [← this]
      simp -implicitDefEqProofs [l_markText_L0b, hp, litB, e1, e2, e3, e4, e5, e6, -Int.natCast_emod, -Int.natCast_ediv, -Int.natCast_add, -UInt8.ofNat_add, str_append, (by omega : 1 + out.length ≤ 9223372036854775807)]
theorem markD_len : ∀ (n : Nat) (out : Str), (markD n out).length ≤ out.length + n := by
  intro n
  induction n using Nat.strongRecOn with
  | ind n ih =>
    intro out
    unfold markD
    by_cases h : n = 0
    · simp [h]
    · simp only [h, dite_false]
      have := ih (n / 10) (by omega) (UInt8.ofNat (48 + n % 10) :: out)
      rw [List.length_cons] at this
      omega
theorem c_l_markText (k : Int) (hk : k ≤ 9223372036854775800) : ev LI TT 133 [.int .i64 k] = some (.str ⟨(markT k).toArray⟩, [.dead]) := by
  rw [ev_run (b := l_markText_b) (rs := [.t 2]) (n := 1) rfl rfl]
  unfold markT 
  by_cases h : k ≤ 0 
  · simp -implicitDefEqProofs [l_markText_b, h] 
  obtain ⟨n, rfl⟩ : ∃ n : Nat, k = n := ⟨k.toNat, by omega⟩ 
  have h1 := L_l_markText  n [] (by simp; omega) 
  have h2 := markD_len n [] 
  simp at h2
  simp -implicitDefEqProofs [l_markText_b, h, h1, str_append, (by omega : 1 + (markD n []).length ≤ 9223372036854775807)]
  have h3 : ¬ n = 0 := by omega 
  simp [h3]
theorem L_l_markFieldS (l : List Fld) (k : Int) (hk : 0 ≤ k) (hn : k + (nL cn_Fld l : Nat) ≤ 1000000000000000) : loopW (evA (ev LI TT) (okT TT) l_markFieldS_L0) [(0, .ref 100000 []), (1, .int .i64 (k + ((nL cn_Fld (l.take 0) : Nat) : Int))), (5, .int .i64 0), (100000, .row .own 2 (fillM ((mkL mk_Fld cn_Fld l k).map eFld) (l.map eFld) 0))] = some (.exit 0, [(0, .ref 100000 []), (1, .int .i64 (k + ((nL cn_Fld l : Nat) : Int))), (5, .int .i64 l.length), (9, .bool false), (100000, .row .own 2 ((mkL mk_Fld cn_Fld l k).map eFld))]) := by
  refine loop_count (f := evA (ev LI TT) (okT TT) l_markFieldS_L0) (l) (fun i => [(0, .ref 100000 []), (1, .int .i64 (k + ((nL cn_Fld (l.take i) : Nat) : Int))), (5, .int .i64 i), (100000, .row .own 2 (fillM ((mkL mk_Fld cn_Fld l k).map eFld) (l.map eFld) i))]) _ (fun i b hi hl => ?_) ?_
  · have hw := wrap_succ i (by have := nL_ge cn_Fld cn_Fld_1 l; omega)
    obtain ⟨_, rfl⟩ := List.getElem?_eq_some_iff.1 hi
    have hnt := nL_take_le cn_Fld l i hl 
    have hns := nL_take cn_Fld l i hl 
    have hg := mkL_get mk_Fld cn_Fld l k i hl (by simpa using hl) 
    obtain ⟨k0, hk0⟩ : ∃ k0, k + ((nL cn_Fld (l.take i) : Nat) : Int) = k0 := ⟨_, rfl⟩ 
    rw [hk0] at hg 
    have hce : cn_Fld l[i] = 2 := rfl 
    have m0 := c_l_markText k0 (by omega) 
    obtain ⟨k1, hk1⟩ : ∃ x, k0 + 1 = x := ⟨_, rfl⟩ 
    have e0 : IntKind.i64.wrap (k0 + 1) = k1 := by rw [← hk1]; exact wrap_id (by omega) (by omega) 
    have m1 := c_l_markText k1 (by omega) 
    obtain ⟨k2, hk2⟩ : ∃ x, k1 + 1 = x := ⟨_, rfl⟩ 
    have e1 : IntKind.i64.wrap (k1 + 1) = k2 := by rw [← hk2]; exact wrap_id (by omega) (by omega)
    simp -implicitDefEqProofs [l_markFieldS_L0, l_markFieldS_L0b, hl, hw, hk0, m0, e0, m1, e1]
    refine ⟨?_, ?_⟩ 
    · omega 
    · (try simp only [modify_two]) 
      refine fillM_set _ _ _ _ (by simp) (by simpa using hl) ?_ 
      simp [hg, mk_Fld, mk_i, mk_s, mk_b, hk1, hk2]
  · rw [List.take_length] 
    simp -implicitDefEqProofs [l_markFieldS_L0, l_markFieldS_L0b]
theorem c_l_markFieldS (l : List Fld) (k : Int) (hk : 0 ≤ k) (hn : k + (nL cn_Fld l : Nat) ≤ 1000000000000000) : ev LI TT 87 [.row .own 2 (l.map eFld), .int .i64 k] = some (.int .i64 (k + ((nL cn_Fld l : Nat) : Int)), [.row .own 2 ((mkL mk_Fld cn_Fld l k).map eFld), .dead]) := by
  rw [ev_run (b := l_markFieldS_b) (rs := [.t 4]) (n := 2) rfl rfl]
  have u1 := L_l_markFieldS l k hk hn 
  simp [nL] at u1
  simp -implicitDefEqProofs [l_markFieldS_b, u1, nL]
  all_goals (repeat' split) <;> first | rfl | omega | (simp_all; done) | (simp_all; omega) | skip
theorem L_l_heldFieldS (l : List Fld) (k : Int) (hk : 0 ≤ k) (hn : k + (nL cn_Fld l : Nat) ≤ 1000000000000000) : loopW (evA (ev LI TT) (okT TT) l_heldFieldS_L0) [(0, .row .bor 2 ((mkL mk_Fld cn_Fld l k).map eFld)), (1, .int .i64 (k + ((nL cn_Fld (l.take 0) : Nat) : Int))), (5, .int .i64 0)] = some (.exit 0, [(0, .row .bor 2 ((mkL mk_Fld cn_Fld l k).map eFld)), (1, .int .i64 (k + ((nL cn_Fld l : Nat) : Int))), (5, .int .i64 l.length), (9, .bool false)]) := by
  refine loop_count (f := evA (ev LI TT) (okT TT) l_heldFieldS_L0) (l) (fun i => [(0, .row .bor 2 ((mkL mk_Fld cn_Fld l k).map eFld)), (1, .int .i64 (k + ((nL cn_Fld (l.take i) : Nat) : Int))), (5, .int .i64 i)]) _ (fun i b hi hl => ?_) ?_
  · have hw := wrap_succ i (by have := nL_ge cn_Fld cn_Fld_1 l; omega)
    obtain ⟨_, rfl⟩ := List.getElem?_eq_some_iff.1 hi
    have hnt := nL_take_le cn_Fld l i hl 
    have hns := nL_take cn_Fld l i hl 
    have hg := mkL_get mk_Fld cn_Fld l k i hl (by simpa using hl) 
    obtain ⟨k0, hk0⟩ : ∃ k0, k + ((nL cn_Fld (l.take i) : Nat) : Int) = k0 := ⟨_, rfl⟩ 
    rw [hk0] at hg 
    have hce : cn_Fld l[i] = 2 := rfl 
    have m0 := c_l_markText k0 (by omega) 
    obtain ⟨k1, hk1⟩ : ∃ x, k0 + 1 = x := ⟨_, rfl⟩ 
    have e0 : IntKind.i64.wrap (k0 + 1) = k1 := by rw [← hk1]; exact wrap_id (by omega) (by omega) 
    have f0 : IntKind.i64.wrap k1 = k1 := wrap_id (by omega) (by omega) 
    have m1 := c_l_markText k1 (by omega) 
    obtain ⟨k2, hk2⟩ : ∃ x, k1 + 1 = x := ⟨_, rfl⟩ 
    have e1 : IntKind.i64.wrap (k1 + 1) = k2 := by rw [← hk2]; exact wrap_id (by omega) (by omega) 
    have f1 : IntKind.i64.wrap k2 = k2 := wrap_id (by omega) (by omega)
    simp -implicitDefEqProofs [l_heldFieldS_L0, l_heldFieldS_L0b, hl, hw, hk0, hg, mk_Fld, mk_i, mk_s, mk_b, hk1, hk2, m0, e0, f0, m1, e1, f1]
    omega
  · rw [List.take_length] 
    simp -implicitDefEqProofs [l_heldFieldS_L0, l_heldFieldS_L0b]
theorem c_l_heldFieldS (l : List Fld) (k : Int) (hk : 0 ≤ k) (hn : k + (nL cn_Fld l : Nat) ≤ 1000000000000000) : ev LI TT 89 [.row .bor 2 ((mkL mk_Fld cn_Fld l k).map eFld), .int .i64 k] = some (.int .i64 (k + ((nL cn_Fld l : Nat) : Int)), [.dead, .dead]) := by
  rw [ev_run (b := l_heldFieldS_b) (rs := [.t 4]) (n := 2) rfl rfl]
  have u1 := L_l_heldFieldS l k hk hn 
  simp [nL] at u1
  simp -implicitDefEqProofs [l_heldFieldS_b, u1, nL]
  all_goals (repeat' split) <;> first | rfl | omega | (simp_all; done) | (simp_all; omega) | skip
theorem L_l_markStringS (l : List Str) (k : Int) (hk : 0 ≤ k) (hn : k + (nL cn_1 l : Nat) ≤ 1000000000000000) : loopW (evA (ev LI TT) (okT TT) l_markStringS_L0) [(0, .ref 100000 []), (1, .int .i64 (k + ((nL cn_1 (l.take 0) : Nat) : Int))), (5, .int .i64 0), (100000, .row .own 1 (fillM ((mkL mk_s cn_1 l k).map eS) (l.map eS) 0))] = some (.exit 0, [(0, .ref 100000 []), (1, .int .i64 (k + ((nL cn_1 l : Nat) : Int))), (5, .int .i64 l.length), (9, .bool false), (100000, .row .own 1 ((mkL mk_s cn_1 l k).map eS))]) := by
  refine loop_count (f := evA (ev LI TT) (okT TT) l_markStringS_L0) (l) (fun i => [(0, .ref 100000 []), (1, .int .i64 (k + ((nL cn_1 (l.take i) : Nat) : Int))), (5, .int .i64 i), (100000, .row .own 1 (fillM ((mkL mk_s cn_1 l k).map eS) (l.map eS) i))]) _ (fun i b hi hl => ?_) ?_
  · have hw := wrap_succ i (by have := nL_ge cn_1 (fun _ => Nat.le_refl 1) l; omega)
    obtain ⟨_, rfl⟩ := List.getElem?_eq_some_iff.1 hi
    have hnt := nL_take_le cn_1 l i hl 
    have hns := nL_take cn_1 l i hl 
    have hg := mkL_get mk_s cn_1 l k i hl (by simpa using hl) 
    obtain ⟨k0, hk0⟩ : ∃ k0, k + ((nL cn_1 (l.take i) : Nat) : Int) = k0 := ⟨_, rfl⟩ 
    rw [hk0] at hg 
    have hce : cn_1 l[i] = 1 := rfl 
    have m0 := c_l_markText k0 (by omega) 
    obtain ⟨k1, hk1⟩ : ∃ x, k0 + 1 = x := ⟨_, rfl⟩ 
    have e0 : IntKind.i64.wrap (k0 + 1) = k1 := by rw [← hk1]; exact wrap_id (by omega) (by omega)
    simp -implicitDefEqProofs [l_markStringS_L0, l_markStringS_L0b, hl, hw, hk0, m0, e0]
    refine ⟨?_, ?_⟩ 
    · omega 
    · (try simp only [modify_two]) 
      refine fillM_set _ _ _ _ (by simp) (by simpa using hl) ?_ 
      simp [hg, mk_i, mk_s, mk_b, hk1]
  · rw [List.take_length] 
    simp -implicitDefEqProofs [l_markStringS_L0, l_markStringS_L0b]
theorem c_l_markStringS (l : List Str) (k : Int) (hk : 0 ≤ k) (hn : k + (nL cn_1 l : Nat) ≤ 1000000000000000) : ev LI TT 88 [.row .own 1 (l.map eS), .int .i64 k] = some (.int .i64 (k + ((nL cn_1 l : Nat) : Int)), [.row .own 1 ((mkL mk_s cn_1 l k).map eS), .dead]) := by
  rw [ev_run (b := l_markStringS_b) (rs := [.t 4]) (n := 2) rfl rfl]
  have u1 := L_l_markStringS l k hk hn 
  simp [nL] at u1
  simp -implicitDefEqProofs [l_markStringS_b, u1, nL]
  all_goals (repeat' split) <;> first | rfl | omega | (simp_all; done) | (simp_all; omega) | skip
theorem c_l_markResp (a : Rsp) (k : Int) (hk : 0 ≤ k) (hn : k + (tn_Rsp a : Nat) ≤ 1000000000000000) : ev LI TT 30 [.agg (eRsp .own a), .int .i64 k] = some (.int .i64 (k + ((tn_Rsp a : Nat) : Int)), [.agg (eRsp .own (tm_Rsp a k)), .dead]) := by
  rw [ev_run (b := l_markResp_b) (rs := [.t 4]) (n := 2) rfl rfl]
  unfold tn_Rsp at hn 
  unfold tn_Rsp tm_Rsp 
  have u1 := c_l_markFieldS a.fields k (by omega) (by omega) 
  obtain ⟨k1, hk1⟩ : ∃ x, k + ((nL cn_Fld a.fields : Nat) : Int) = x := ⟨_, rfl⟩ 
  rw [hk1] at u1 
  try simp at u1 
  have hT : k + ((nL cn_Fld a.fields : Nat) : Int) = k1 := by omega 
  rw [hT]
  simp -implicitDefEqProofs [l_markResp_b, u1, hk1, callM, mutE, putM, mutPost, setB, putA, backL, giveOk, otherR]
  all_goals (repeat' split) <;> first | rfl | omega | (simp_all; done) | (simp_all; omega) | skip
theorem c_l_heldResp (a : Rsp) (k : Int) (hk : 0 ≤ k) (hn : k + (tn_Rsp a : Nat) ≤ 1000000000000000) : ev LI TT 31 [.agg (eRsp .bor (tm_Rsp a k)), .int .i64 k] = some (.int .i64 (k + ((tn_Rsp a : Nat) : Int)), [.dead, .dead]) := by
  rw [ev_run (b := l_heldResp_b) (rs := [.t 4]) (n := 2) rfl rfl]
  unfold tn_Rsp at hn 
  unfold tn_Rsp tm_Rsp 
  have u1 := c_l_heldFieldS a.fields k (by omega) (by omega) 
  obtain ⟨k1, hk1⟩ : ∃ x, k + ((nL cn_Fld a.fields : Nat) : Int) = x := ⟨_, rfl⟩ 
  rw [hk1] at u1 
  try simp at u1 
  have n1 : ¬ k1 < 0 := by omega 
  have hT : k + ((nL cn_Fld a.fields : Nat) : Int) = k1 := by omega 
  rw [hT]
  simp -implicitDefEqProofs [l_heldResp_b, u1, hk1, n1]
  all_goals (repeat' split) <;> first | rfl | omega | (simp_all; done) | (simp_all; omega) | skip
theorem c_l_markReq (a : Rq) (k : Int) (hk : 0 ≤ k) (hn : k + (tn_Rq a : Nat) ≤ 1000000000000000) : ev LI TT 28 [.agg (eRq .own a), .int .i64 k] = some (.int .i64 (k + ((tn_Rq a : Nat) : Int)), [.agg (eRq .own (tm_Rq a k)), .dead]) := by
  rw [ev_run (b := l_markReq_b) (rs := [.t 4]) (n := 2) rfl rfl]
  unfold tn_Rq at hn 
  unfold tn_Rq tm_Rq 
  have u1 := c_l_markFieldS a.fields k (by omega) (by omega) 
  obtain ⟨k1, hk1⟩ : ∃ x, k + ((nL cn_Fld a.fields : Nat) : Int) = x := ⟨_, rfl⟩ 
  rw [hk1] at u1 
  try simp at u1 
  have hT : k + ((nL cn_Fld a.fields : Nat) : Int) = k1 := by omega 
  rw [hT]
  simp -implicitDefEqProofs [l_markReq_b, u1, hk1, callM, mutE, putM, mutPost, setB, putA, backL, giveOk, otherR]
  all_goals (repeat' split) <;> first | rfl | omega | (simp_all; done) | (simp_all; omega) | skip
theorem c_l_markObj (a : Ob) (k : Int) (hk : 0 ≤ k) (hn : k + (tn_Ob a : Nat) ≤ 1000000000000000) : ev LI TT 29 [.agg (eOb .own a), .int .i64 k] = some (.int .i64 (k + ((tn_Ob a : Nat) : Int)), [.agg (eOb .own (tm_Ob a k)), .dead]) := by
  rw [ev_run (b := l_markObj_b) (rs := [.t 4]) (n := 2) rfl rfl]
  unfold tn_Ob at hn 
  unfold tn_Ob tm_Ob 
  have u1 := c_l_markStringS a.names k (by omega) (by omega) 
  obtain ⟨k1, hk1⟩ : ∃ x, k + ((nL cn_1 a.names : Nat) : Int) = x := ⟨_, rfl⟩ 
  rw [hk1] at u1 
  try simp at u1 
  have u2 := c_l_markStringS a.values k1 (by omega) (by omega) 
  obtain ⟨k2, hk2⟩ : ∃ x, k1 + ((nL cn_1 a.values : Nat) : Int) = x := ⟨_, rfl⟩ 
  rw [hk2] at u2 
  try simp at u2 
  have u3 := c_l_markResp a.resp k2 (by omega) (by omega) 
  obtain ⟨k3, hk3⟩ : ∃ x, k2 + ((tn_Rsp a.resp : Nat) : Int) = x := ⟨_, rfl⟩ 
  rw [hk3] at u3 
  try simp at u3 
  have hT : k + ((nL cn_1 a.names + nL cn_1 a.values + tn_Rsp a.resp : Nat) : Int) = k3 := by omega 
  rw [hT]
  simp -implicitDefEqProofs [l_markObj_b, u1, hk1, u2, hk2, u3, hk3, callM, mutE, putM, mutPost, setB, putA, backL, giveOk, otherR, tm_Rsp]
  all_goals (repeat' split) <;> first | rfl | omega | (simp_all; done) | (simp_all; omega) | skip
end M
set_option linter.unusedVariables false
set_option linter.unusedSimpArgs false
namespace M
open Go
@[simp] theorem c_s_l1In (x : Int) (lo : Int) (hi : Int) : ev LI TT 36 [.int .i64 x, .int .i64 lo, .int .i64 hi] = some (.bool ((decide (lo ≤ x ∧ x ≤ hi))), [.dead, .dead, .dead]) := by
  rw [ev_run (b := s_l1In_b) (rs := [.t 6]) (n := 3) rfl rfl]
  simp -implicitDefEqProofs [s_l1In_b]
  try (by_cases h1 : lo ≤ x <;> by_cases h2 : x ≤ hi <;> simp [h1, h2])
@[simp] theorem c_i_inRange (x : Int) (lo : Int) (hi : Int) : ev LI TT 43 [.int .i64 x, .int .i64 lo, .int .i64 hi] = some (.bool ((decide (lo ≤ x ∧ x ≤ hi))), [.dead, .dead, .dead]) := by
  rw [ev_run (b := i_inRange_b) (rs := [.t 6]) (n := 3) rfl rfl]
  simp -implicitDefEqProofs [i_inRange_b]
  try (by_cases h1 : lo ≤ x <;> by_cases h2 : x ≤ hi <;> simp [h1, h2])
theorem L_s_TokenOk (s : Str) (hb : s.length ≤ 9223372036854775807) : loopW (evA (ev LI TT) (okT TT) s_TokenOk_L0) [(0, .str ⟨s.toArray⟩), (3, .int .i64 0)] = if allB tokB (s) = true then some (.exit 0, [(0, .str ⟨s.toArray⟩), (3, .int .i64 (s).length), (8, .bool false)]) else some (.ret, [(2, .bool false)]) := by
  refine loop_all (f := evA (ev LI TT) (okT TT) s_TokenOk_L0) (s) (fun i => [(0, .str ⟨s.toArray⟩), (3, .int .i64 i)]) tokB _ _ (fun i b hi hl => ?_) ?_
  · have hw := wrap_succ i (by first | omega | (simp at hl; omega))
    obtain ⟨_, rfl⟩ := List.getElem?_eq_some_iff.1 hi
    unfold tokB
    simp -implicitDefEqProofs [s_TokenOk_L0, s_TokenOk_L0b, hl, hw]
    all_goals (repeat' split) <;> first | rfl | omega | (simp_all; done) | (simp_all; omega) | skip
  · simp -implicitDefEqProofs [s_TokenOk_L0, s_TokenOk_L0b]
theorem c_s_TokenOk (s : Str) (hb : s.length ≤ 9223372036854775807) : ev LI TT 94 [.str ⟨s.toArray⟩] = some (.bool ((tokenOk s)), [.dead]) := by
  rw [ev_run (b := s_TokenOk_b) (rs := [.t 2]) (n := 1) rfl rfl]
  unfold tokenOk
  have u1 := L_s_TokenOk  s hb
  try simp at u1
  simp -implicitDefEqProofs [s_TokenOk_b, u1]
  all_goals (repeat' split) <;> first | rfl | omega | (simp_all; done) | (simp_all; omega) | skip
theorem L_i_TokenOk (s : Str) (hb : s.length ≤ 9223372036854775807) : loopW (evA (ev LI TT) (okT TT) i_TokenOk_L0) [(0, .str ⟨s.toArray⟩), (3, .int .i64 0)] = if allB tokB (s) = true then some (.exit 0, [(0, .str ⟨s.toArray⟩), (3, .int .i64 (s).length), (7, .bool false)]) else some (.ret, [(2, .bool false)]) := by
  refine loop_all (f := evA (ev LI TT) (okT TT) i_TokenOk_L0) (s) (fun i => [(0, .str ⟨s.toArray⟩), (3, .int .i64 i)]) tokB _ _ (fun i b hi hl => ?_) ?_
  · have hw := wrap_succ i (by first | omega | (simp at hl; omega))
    obtain ⟨_, rfl⟩ := List.getElem?_eq_some_iff.1 hi
    unfold tokB
    simp -implicitDefEqProofs [i_TokenOk_L0, i_TokenOk_L0b, hl, hw]
    all_goals (repeat' split) <;> first | rfl | omega | (simp_all; done) | (simp_all; omega) | skip
  · simp -implicitDefEqProofs [i_TokenOk_L0, i_TokenOk_L0b]
theorem c_i_TokenOk (s : Str) (hb : s.length ≤ 9223372036854775807) : ev LI TT 56 [.str ⟨s.toArray⟩] = some (.bool ((tokenOk s)), [.dead]) := by
  rw [ev_run (b := i_TokenOk_b) (rs := [.t 2]) (n := 1) rfl rfl]
  unfold tokenOk
  have u1 := L_i_TokenOk  s hb
  try simp at u1
  simp -implicitDefEqProofs [i_TokenOk_b, u1]
  all_goals (repeat' split) <;> first | rfl | omega | (simp_all; done) | (simp_all; omega) | skip
theorem L_i_areFrom (s : Str) (lo : UInt8) (hb : s.length ≤ 9223372036854775807) : loopW (evA (ev LI TT) (okT TT) i_areFrom_L0) [(0, .str ⟨s.toArray⟩), (1, .int .u8 (lo.toNat : Int)), (5, .int .i64 0)] = if allB (visB lo.toNat) (s) = true then some (.exit 0, [(0, .str ⟨s.toArray⟩), (1, .int .u8 (lo.toNat : Int)), (5, .int .i64 (s).length), (9, .bool false)]) else some (.ret, [(4, .bool false)]) := by
  refine loop_all (f := evA (ev LI TT) (okT TT) i_areFrom_L0) (s) (fun i => [(0, .str ⟨s.toArray⟩), (1, .int .u8 (lo.toNat : Int)), (5, .int .i64 i)]) (visB lo.toNat) _ _ (fun i b hi hl => ?_) ?_
  · have hw := wrap_succ i (by first | omega | (simp at hl; omega))
    obtain ⟨_, rfl⟩ := List.getElem?_eq_some_iff.1 hi
    unfold visB
    simp -implicitDefEqProofs [i_areFrom_L0, i_areFrom_L0b, hl, hw]
    all_goals (repeat' split) <;> first | rfl | omega | (simp_all; done) | (simp_all; omega) | skip
  · simp -implicitDefEqProofs [i_areFrom_L0, i_areFrom_L0b]
theorem c_i_areFrom (s : Str) (lo : UInt8) (hb : s.length ≤ 9223372036854775807) : ev LI TT 112 [.str ⟨s.toArray⟩, .int .u8 (lo.toNat : Int)] = some (.bool ((allB (visB lo.toNat) s)), [.dead, .dead]) := by
  rw [ev_run (b := i_areFrom_b) (rs := [.t 4]) (n := 2) rfl rfl]
  have u1 := L_i_areFrom  s lo hb
  try simp at u1
  simp -implicitDefEqProofs [i_areFrom_b, u1]
  all_goals (repeat' split) <;> first | rfl | omega | (simp_all; done) | (simp_all; omega) | skip
end M
set_option linter.unusedVariables false
set_option linter.unusedSimpArgs false
namespace M
open Go
def nsp (b : UInt8) : Bool := decide ¬ (b.toNat : Int) = 32
theorem L_s_Trim (s : Str) (hb : s.length ≤ 9223372036854775807) : loopW (evA (ev LI TT) (okT TT) s_Trim_L0) [(0, .str ⟨s.toArray⟩), (3, .int .i64 0), (4, .int .i64 s.length)] = some (.exit 0, (fun (i : Nat) => [(0, .str ⟨s.toArray⟩), (3, .int .i64 i), (4, .int .i64 s.length), (15, .bool false)]) (untilI nsp (s))) := by
  refine loop_until (f := evA (ev LI TT) (okT TT) s_Trim_L0) (s) (fun i => [(0, .str ⟨s.toArray⟩), (3, .int .i64 i), (4, .int .i64 s.length)]) nsp (fun (i : Nat) => [(0, .str ⟨s.toArray⟩), (3, .int .i64 i), (4, .int .i64 s.length), (15, .bool false)]) (fun i b hi hl => ?_) ?_
  · have hw := wrap_succ i (by first | omega | (simp at hl; omega))
    obtain ⟨_, rfl⟩ := List.getElem?_eq_some_iff.1 hi
    simp -implicitDefEqProofs [s_Trim_L0, s_Trim_L0b, hl, hw, nsp]
    all_goals (repeat' split) <;> first | rfl | omega | (simp_all; done) | (simp_all; omega) | skip
  · simp -implicitDefEqProofs [s_Trim_L0, s_Trim_L0b]
theorem L_s_Trim_L1 (s : Str) (k : Nat) (hk : k ≤ s.length) (hb : s.length ≤ 9223372036854775807) : loopW (evA (ev LI TT) (okT TT) s_Trim_L1) [(0, .str ⟨s.toArray⟩), (3, .int .i64 k), (4, .int .i64 ((s.length - 0 : Nat) : Int))] = some (.exit 2, (fun (i : Nat) => [(0, .str ⟨s.toArray⟩), (3, .int .i64 k), (4, .int .i64 ((s.length - i : Nat) : Int)), (27, .bool false)]) (untilI nsp ((s.drop k).reverse))) := by
  refine loop_until (f := evA (ev LI TT) (okT TT) s_Trim_L1) ((s.drop k).reverse) (fun i => [(0, .str ⟨s.toArray⟩), (3, .int .i64 k), (4, .int .i64 ((s.length - i : Nat) : Int))]) nsp (fun (i : Nat) => [(0, .str ⟨s.toArray⟩), (3, .int .i64 k), (4, .int .i64 ((s.length - i : Nat) : Int)), (27, .bool false)]) (fun i b hi hl => ?_) ?_
  · have hw := wrap_succ i (by first | omega | (simp at hl; omega))
    obtain ⟨_, rfl⟩ := List.getElem?_eq_some_iff.1 hi
    simp at hl 
    obtain ⟨m, hm⟩ : ∃ m, s.length - i = m + 1 := ⟨s.length - i - 1, by omega⟩ 
    have e1 : s.length - (i + 1) = m := by omega 
    have e2 : IntKind.i64.wrap (m : Int) = m := wrap_id (by omega) (by omega) 
    have e3 : m < s.length := by omega 
    have e4 : ((s.drop k).reverse)[i] = s[m] := by simp; congr 1; omega 
    have e5 : (k : Int) < (m : Int) + 1 := by omega 
    rw [e4, hm, e1]
    simp -implicitDefEqProofs [s_Trim_L1, s_Trim_L1b, hl, hw, nsp, e2, e3, e5]
    try (rw [List.getElem?_eq_getElem e3]; simp [e2]) 
    all_goals (repeat' split) <;> first | rfl | omega | (simp_all; done) | (simp_all; omega) | skip
  · simp only [List.length_reverse, List.length_drop, show s.length - (s.length - k) = k by omega] 
    simp -implicitDefEqProofs [s_Trim_L1, s_Trim_L1b]
end M
set_option linter.unusedVariables false
set_option linter.unusedSimpArgs false
namespace M
open Go
theorem nsp_iff (b : UInt8) : nsp b = true ↔ b ≠ 32 := by
  unfold nsp
  have : ((b.toNat : Int) = 32) ↔ b = 32 := by
    constructor
    · intro h; exact UInt8.toNat_inj.1 (by have e : (32 : UInt8).toNat = 32 := rfl; omega)
    · rintro rfl; rfl
  simp [this]
theorem trimL_until (s : Str) : Lib.trimLeftB s 32 = s.drop (untilI nsp s) := by
  refine Lib.trimLeftB_drop s 32 _ (untilI_le _ _) (fun j b hj hb => ?_) fun b hb => (nsp_iff b).1 (untilI_at _ _ _ hb)
  have := untilI_before _ _ _ _ hj hb
  by_cases h : b = 32
  · exact h
  · rw [(nsp_iff b).2 h] at this; cases this
theorem trimR_until (s : Str) : Lib.trimRightB s 32 = s.take (s.length - untilI nsp s.reverse) := by
  have h := trimL_until s.reverse
  unfold Lib.trimLeftB at h
  unfold Lib.trimRightB
  rw [h, List.drop_reverse, List.reverse_reverse]
theorem trimS_cut (s : Str) : (s.drop (untilI nsp s)).take (s.length - untilI nsp (s.drop (untilI nsp s)).reverse - untilI nsp s) = trimS s := by
  rw [trimS_left, trimL_until, trimR_until, List.length_drop]
  congr 1
  omega
theorem c_s_Trim (s : Str) (hb : s.length ≤ 9223372036854775807) : ev LI TT 135 [.str ⟨s.toArray⟩] = some (.str ⟨(trimS s).toArray⟩, [.dead]) := by
  rw [ev_run (b := s_Trim_b) (rs := [.t 2]) (n := 1) rfl rfl]
  have h1 := untilI_le nsp s 
  have h2 := untilI_le nsp (s.drop (untilI nsp s)).reverse 
  simp only [List.length_reverse, List.length_drop] at h2 
  have h3 := trimS_cut s
  have u1 := L_s_Trim  s hb
  try simp at u1
  have u2 := L_s_Trim_L1  s (untilI nsp s) (untilI_le _ _) hb
  try simp at u2
  simp -implicitDefEqProofs [s_Trim_b, u1, u2, (by omega : (untilI nsp s : Int) ≤ ((s.length - untilI nsp (s.drop (untilI nsp s)).reverse : Nat) : Int)), (by omega : ((s.length - untilI nsp (s.drop (untilI nsp s)).reverse : Nat) : Int) ≤ s.length), Lib.extract_mk, h3]
  all_goals (repeat' split) <;> first | rfl | omega | (simp_all; done) | (simp_all; omega) | skip
theorem c_i_Trim (s : Str) (hb : s.length ≤ 9223372036854775807) : ev LI TT 113 [.str ⟨s.toArray⟩] = some (.str ⟨(trimS s).toArray⟩, [.dead]) := by
  rw [ev_run (b := i_Trim_b) (rs := [.t 2]) (n := 1) rfl rfl]
  have u1 := c_x_strings_Trim  s hb
  try simp at u1
  simp -implicitDefEqProofs [i_Trim_b, u1]
  all_goals (repeat' split) <;> first | rfl | omega | (simp_all; done) | (simp_all; omega) | skip
theorem L_s_ValueOk (s : Str) (hb : s.length ≤ 9223372036854775807) : loopW (evA (ev LI TT) (okT TT) s_ValueOk_L0) [(0, .str ⟨s.toArray⟩), (3, .int .i64 0)] = if allB (visB 32) (s) = true then some (.exit 0, [(0, .str ⟨s.toArray⟩), (3, .int .i64 (s).length), (7, .bool false)]) else some (.ret, [(2, .bool false)]) := by
  refine loop_all (f := evA (ev LI TT) (okT TT) s_ValueOk_L0) (s) (fun i => [(0, .str ⟨s.toArray⟩), (3, .int .i64 i)]) (visB 32) _ _ (fun i b hi hl => ?_) ?_
  · have hw := wrap_succ i (by first | omega | (simp at hl; omega))
    obtain ⟨_, rfl⟩ := List.getElem?_eq_some_iff.1 hi
    unfold visB
    simp -implicitDefEqProofs [s_ValueOk_L0, s_ValueOk_L0b, hl, hw]
    all_goals (repeat' split) <;> first | rfl | omega | (simp_all; done) | (simp_all; omega) | skip
  · simp -implicitDefEqProofs [s_ValueOk_L0, s_ValueOk_L0b]
theorem c_s_ValueOk (s : Str) (hb : s.length ≤ 9223372036854775807) : ev LI TT 95 [.str ⟨s.toArray⟩] = some (.bool ((valueOk s)), [.dead]) := by
  rw [ev_run (b := s_ValueOk_b) (rs := [.t 2]) (n := 1) rfl rfl]
  unfold valueOk
  have u1 := L_s_ValueOk  s hb
  try simp at u1
  have u2 := c_s_Trim  s hb
  try simp at u2
  by_cases g1 : allB (visB 32) s = true
  rotate_left
  · simp -implicitDefEqProofs [s_ValueOk_b, u1, u2, g1]
  by_cases g2 : 1 ≤ (s.length : Int)
  rotate_left
  · simp -implicitDefEqProofs [s_ValueOk_b, u1, u2, g1, eq_false g2]
  by_cases g3 : (s.length : Int) ≤ 60
  rotate_left
  · simp -implicitDefEqProofs [s_ValueOk_b, u1, u2, g1, eq_true g2, eq_false g3]
  simp -implicitDefEqProofs [s_ValueOk_b, u1, u2, g1, eq_true g2, eq_true g3]
  all_goals (repeat' split) <;> first | rfl | omega | (simp_all; done) | (simp_all; omega) | skip
theorem c_i_ValueOk (s : Str) (hb : s.length ≤ 9223372036854775807) : ev LI TT 57 [.str ⟨s.toArray⟩] = some (.bool ((valueOk s)), [.dead]) := by
  rw [ev_run (b := i_ValueOk_b) (rs := [.t 2]) (n := 1) rfl rfl]
  unfold valueOk 
  have e32 : (32 : UInt8).toNat = 32 := rfl
  have u1 := c_i_areFrom  s 32 hb
  try simp at u1
  have u2 := c_i_Trim  s hb
  try simp at u2
  by_cases g1 : 1 ≤ (s.length : Int)
  rotate_left
  · simp -implicitDefEqProofs [i_ValueOk_b, u1, u2, eq_false g1]
  by_cases g2 : (s.length : Int) ≤ 60
  rotate_left
  · simp -implicitDefEqProofs [i_ValueOk_b, u1, u2, eq_true g1, eq_false g2]
  by_cases g3 : allB (visB 32) s = true
  rotate_left
  · simp -implicitDefEqProofs [i_ValueOk_b, u1, u2, eq_true g1, eq_true g2, g3]
  simp -implicitDefEqProofs [i_ValueOk_b, u1, u2, eq_true g1, eq_true g2, g3]
  all_goals (repeat' split) <;> first | rfl | omega | (simp_all; done) | (simp_all; omega) | skip
theorem c_i_NumText (n : Int) : ev LI TT 52 [.int .i64 n] = some (.str ⟨(numText n).toArray⟩, [.dead]) := by
  rw [ev_run (b := i_NumText_b) (rs := [.t 2]) (n := 1) rfl rfl]
  unfold numText 
  by_cases hn : 0 ≤ n ∧ n ≤ 1000000 
  rotate_left 
  · have hf : (decide (0 ≤ n) && decide (n ≤ 1000000)) = false := by simp; omega 
    simp -implicitDefEqProofs [i_NumText_b, hn, hf] 
  obtain ⟨k, rfl⟩ : ∃ k : Nat, n = k := ⟨n.toNat, by omega⟩
  have u1 := c_x_strconv_Itoa  k (by omega)
  try simp at u1
  simp -implicitDefEqProofs [i_NumText_b, u1, hn]
  all_goals (repeat' split) <;> first | rfl | omega | (simp_all; done) | (simp_all; omega) | skip
end M
set_option linter.unusedVariables false
set_option linter.unusedSimpArgs false
namespace M
open Go
def lowOut (s : Str) : Str := lowS s
theorem set_low (s : Str) (i : Nat) (h : i < s.length) (x : UInt8) (hx : x = lowB s[i]) : (lowS (s.take i) ++ s.drop i).set i x = lowS (s.take (i + 1)) ++ s.drop (i + 1) := by
  subst hx
  rw [List.set_append_right _ _ (by simp [lowS]; omega), List.drop_eq_getElem_cons h]
  have : i - (lowS (s.take i)).length = 0 := by simp [lowS]; omega
  rw [this, List.take_succ_eq_append_getElem h]
  simp only [List.set_cons_zero, lowS, List.map_append, List.map_cons, List.map_nil, List.append_assoc, List.cons_append, List.nil_append]
theorem set_same_low (s : Str) (i : Nat) (h : i < s.length) (hx : lowB s[i] = s[i]) : lowS (s.take i) ++ s.drop i = lowS (s.take (i + 1)) ++ s.drop (i + 1) := by
  rw [List.take_succ_eq_append_getElem h, List.drop_eq_getElem_cons h]
  simp only [lowS, hx, List.map_append, List.map_cons, List.map_nil, List.append_assoc, List.cons_append, List.nil_append]
theorem eU_set (l : Str) (i : Nat) (x : Int) (b : UInt8) (hx : x = (b.toNat : Int)) : (l.map eU).modify i (fun e => e.set 0 (X.int .u8 x)) = (l.set i b).map eU := by
  subst hx
  apply List.ext_getElem?
  intro j
  rw [List.getElem?_modify, List.getElem?_map, List.getElem?_map, List.getElem?_set]
  by_cases h : i = j
  · subst h
    by_cases h2 : i < l.length
    · simp [h2]
    · simp [h2, List.getElem?_eq_none (Nat.le_of_not_lt h2)]
  · simp only [h, if_false]
    cases l[j]? <;> rfl
@[simp] theorem c_s_l1Min (x : Int) (y : Int) : ev LI TT 154 [.int .i64 x, .int .i64 y] = some (.int .i64 ((if x < y then x else y)), [.dead, .dead]) := by
  rw [ev_run (b := s_l1Min_b) (rs := [.t 4]) (n := 2) rfl rfl]
  simp -implicitDefEqProofs [s_l1Min_b]
  all_goals (repeat' split) <;> first | rfl | omega | (simp_all; done) | (simp_all; omega) | skip
@[simp] theorem c_s_l1Max (x : Int) (y : Int) : ev LI TT 155 [.int .i64 x, .int .i64 y] = some (.int .i64 ((if y < x then x else y)), [.dead, .dead]) := by
  rw [ev_run (b := s_l1Max_b) (rs := [.t 4]) (n := 2) rfl rfl]
  simp -implicitDefEqProofs [s_l1Max_b]
  all_goals (repeat' split) <;> first | rfl | omega | (simp_all; done) | (simp_all; omega) | skip
@[simp] theorem c_i_within (n : Int) : ev LI TT 158 [.int .i64 n] = some (.int .i64 ((max 0 (min n 1000000))), [.dead]) := by
  rw [ev_run (b := i_within_b) (rs := [.t 2]) (n := 1) rfl rfl]
  simp -implicitDefEqProofs [i_within_b]
  (repeat' split) <;> omega
end M
set_option linter.unusedVariables false
set_option linter.unusedSimpArgs false
namespace M
open Go
theorem L_s_NumText (n : Nat) (out : Str) (hn : out.length + n ≤ 9223372036854775807) : loopW (evA (ev LI TT) (okT TT) s_NumText_L0) [(0, .int .i64 n), (3, .str ⟨out.toArray⟩)] = some (.exit 0, [(0, .int .i64 0), (3, .str ⟨(markD n out).toArray⟩), (10, .bool false)]) := by
  have hs : ∀ s, evA (ev LI TT) (okT TT) s_NumText_L0 s = evA (ev LI TT) (okT TT) s_NumText_L0b s := fun _ => rfl
  induction n using Nat.strongRecOn generalizing out with
  | ind n ih =>
    rw [loopW_eq, hs]
    unfold markD
    by_cases h : n = 0
    · subst h
      simp -implicitDefEqProofs [s_NumText_L0b]
    · have hp : 0 < n := by omega
      have := ih (n / 10) (by omega) (UInt8.ofNat (48 + n % 10) :: out) (by rw [List.length_cons]; omega)
      have e1 : ((n : Int)).tmod 10 = ((n % 10 : Nat) : Int) := by rw [Int.tmod_eq_emod_of_nonneg (by omega)]; omega
      have e4 : ((n : Int)).tdiv 10 = ((n / 10 : Nat) : Int) := by rw [Int.tdiv_eq_ediv_of_nonneg (by omega)]; omega
      have e2 : IntKind.i64.wrap (48 + ((n % 10 : Nat) : Int)) = ((48 + n % 10 : Nat) : Int) := by rw [wrap_id (by omega) (by omega)]; omega
      have e3 : IntKind.u8.wrap ((48 + n % 10 : Nat) : Int) = ((48 + n % 10 : Nat) : Int) := wrap8_id' (by omega) (by omega)
      have e5 := u8s_one' (48 + n % 10) (by omega)
      have e6 : IntKind.i64.wrap ((n / 10 : Nat) : Int) = ((n / 10 : Nat) : Int) := wrap_id (by omega) (by omega)
      simp only [h, dite_false]
      rw [← this]
      simp -implicitDefEqProofs [s_NumText_L0b, hp, litB, e1, e2, e3, e4, e5, e6, -Int.natCast_emod, -Int.natCast_ediv, -Int.natCast_add, -UInt8.ofNat_add, str_append, (by omega : 1 + out.length ≤ 9223372036854775807)]
theorem c_s_NumText (n : Int) : ev LI TT 53 [.int .i64 n] = some (.str ⟨(numText n).toArray⟩, [.dead]) := by
  rw [ev_run (b := s_NumText_b) (rs := [.t 2]) (n := 1) rfl rfl]
  unfold numText 
  by_cases hn : 0 ≤ n ∧ n ≤ 1000000 
  rotate_left 
  · have hf : (decide (0 ≤ n) && decide (n ≤ 1000000)) = false := by simp; omega 
    simp -implicitDefEqProofs [s_NumText_b, hn, hf] 
  obtain ⟨k, rfl⟩ : ∃ k : Nat, n = k := ⟨n.toNat, by omega⟩ 
  by_cases h : k = 0 
  · subst h; simp -implicitDefEqProofs [s_NumText_b, digS_zero] 
  have h1 := L_s_NumText k [] (by simp; omega) 
  rw [markD_dig k [] h, List.append_nil] at h1
  simp -implicitDefEqProofs [s_NumText_b, hn, h, h1]
  all_goals (repeat' split) <;> first | rfl | omega | (simp_all; done) | (simp_all; omega) | skip
theorem numText_len (n : Int) : (numText n).length ≤ 7 := by
  unfold numText
  split
  · exact digS_len7 _ (by omega)
  · simp
theorem L_s_NumRead0 (s : Str) (hb : s.length ≤ 7) (hd : allB digB s = true) (g : Nat) (hinv : g < 10 ^ 0) : loopW (evA (ev LI TT) (okT TT) s_NumRead_L0) [(0, .str ⟨s.toArray⟩), (4, .int .i64 (g : Nat)), (5, .int .i64 0)] = some (.exit 0, [(0, .str ⟨s.toArray⟩), (4, .int .i64 ((foldI (fun _ g b => 10 * g + b.toNat - 48) 0 (s) g) : Nat)), (5, .int .i64 (s).length), (16, .bool false)]) := by
  refine loop_foldI (f := evA (ev LI TT) (okT TT) s_NumRead_L0) (s) (fun i (g : Nat) => [(0, .str ⟨s.toArray⟩), (4, .int .i64 (g : Nat)), (5, .int .i64 i)]) (fun _ g b => 10 * g + b.toNat - 48) (fun g => [(0, .str ⟨s.toArray⟩), (4, .int .i64 (g : Nat)), (5, .int .i64 (s).length), (16, .bool false)]) (fun i (g : Nat) => g < 10 ^ i) g hinv (fun i b g hi hl hinv => ?_) (fun i b g hi hinv => ?_) (fun g hinv => ?_)
  · have hw := wrap_succ i (by first | omega | (simp at hl; omega))
    obtain ⟨_, rfl⟩ := List.getElem?_eq_some_iff.1 hi
    have hx := allB_iff.1 hd s[i] (List.getElem_mem hl) 
    simp only [digB, decide_eq_true_eq] at hx 
    have hp : 10 ^ i ≤ 10 ^ 6 := Nat.pow_le_pow_right (by omega) (by omega) 
    have h1 : ¬ ((s[i]).toNat : Int) < 48 := by omega 
    have h2 : ¬ 57 < ((s[i]).toNat : Int) := by omega 
    have e1 : IntKind.i64.wrap (10 * (g : Int)) = 10 * g := wrap_id (by omega) (by omega) 
    have e0 : IntKind.i64.wrap ((s[i]).toNat : Int) = (s[i]).toNat := wrap_id (by omega) (by omega) 
    have e2 : IntKind.i64.wrap (10 * (g : Int) + (s[i]).toNat) = 10 * g + (s[i]).toNat := wrap_id (by omega) (by omega) 
    have e3 : IntKind.i64.wrap (10 * (g : Int) + (s[i]).toNat - 48) = ((10 * g + (s[i]).toNat - 48 : Nat) : Int) := by rw [wrap_id (by omega) (by omega)]; omega
    simp -implicitDefEqProofs [s_NumRead_L0, s_NumRead_L0b, hl, hw, h1, h2, e0, e1, e2, e3]
  · obtain ⟨hl, rfl⟩ := List.getElem?_eq_some_iff.1 hi 
    have hx := allB_iff.1 hd s[i] (List.getElem_mem hl) 
    simp only [digB, decide_eq_true_eq] at hx 
    rw [Nat.pow_succ]; omega
  · simp -implicitDefEqProofs [s_NumRead_L0, s_NumRead_L0b]
theorem L_s_NumRead1 (s : Str) (hb : s.length ≤ 7) (hd : ¬ allB digB s = true) : loopW (evA (ev LI TT) (okT TT) s_NumRead_L0) [(0, .str ⟨s.toArray⟩), (4, .int .i64 0), (5, .int .i64 0)] = some (.ret, [(2, .int .i64 0), (3, .bool false)]) := by
  have key := loop_list (xt := 0) (f := evA (ev LI TT) (okT TT) s_NumRead_L0) s (fun i (g : Nat) => [(0, .str ⟨s.toArray⟩), (4, .int .i64 (g : Int)), (5, .int .i64 i)]) (fun b g => if digB b = true then .inl (10 * g + b.toNat - 48) else .inr (.ret, [(2, .int .i64 0), (3, .bool false)])) (fun g => [(0, .str ⟨s.toArray⟩), (4, .int .i64 (g : Int)), (5, .int .i64 s.length), (16, .bool false)]) (fun i g => g < 10 ^ i) 0 (by decide) (fun i b g hi hl hinv => ?_) (fun i b g g' hi hinv hg => ?_) (fun g hg => ?_)
  · have hr : ∀ (r : Str) (g : Nat), ¬ allB digB r = true → runL (fun (b : UInt8) (g : Nat) => if digB b = true then (.inl (10 * g + b.toNat - 48) : Nat ⊕ (Ex × Slots)) else .inr (.ret, [(2, .int .i64 0), (3, .bool false)])) r g = .inr (.ret, [(2, .int .i64 0), (3, .bool false)]) := by
      intro r
      induction r with
      | nil => intro g h; exact absurd rfl h
      | cons b r ih =>
        intro g h
        simp only [runL]
        by_cases hb : digB b = true
        · simp only [hb, if_true]
          exact ih _ fun h' => h (by rw [allB_iff] at h' ⊢; intro x hx; rcases List.mem_cons.1 hx with rfl | hx; exact hb; exact h' x hx)
        · simp [hb]
    rw [hr s 0 hd] at key
    simpa [lv] using key
  · have hw := wrap_succ i (by omega)
    obtain ⟨_, rfl⟩ := List.getElem?_eq_some_iff.1 hi
    by_cases h : digB s[i] = true
    · have hx := h
      simp only [digB, decide_eq_true_eq] at hx
      have hp : 10 ^ i ≤ 10 ^ 6 := Nat.pow_le_pow_right (by omega) (by omega)
      have h1 : ¬ ((s[i]).toNat : Int) < 48 := by omega
      have h2 : ¬ 57 < ((s[i]).toNat : Int) := by omega
      have e1 : IntKind.i64.wrap (10 * (g : Int)) = 10 * g := wrap_id (by omega) (by omega)
      have e0 : IntKind.i64.wrap ((s[i]).toNat : Int) = (s[i]).toNat := wrap_id (by omega) (by omega)
      have e2 : IntKind.i64.wrap (10 * (g : Int) + (s[i]).toNat) = 10 * g + (s[i]).toNat := wrap_id (by omega) (by omega)
      have e3 : IntKind.i64.wrap (10 * (g : Int) + (s[i]).toNat - 48) = ((10 * g + (s[i]).toNat - 48 : Nat) : Int) := by rw [wrap_id (by omega) (by omega)]; omega
      simp -implicitDefEqProofs [s_NumRead_L0, s_NumRead_L0b, hl, hw, h, h1, h2, e0, e1, e2, e3]
    · have hx := h
      simp only [digB, decide_eq_true_eq] at hx
      by_cases h1 : ((s[i]).toNat : Int) < 48
      · simp -implicitDefEqProofs [s_NumRead_L0, s_NumRead_L0b, hl, hw, h, h1, lv]
      · have h2 : 57 < ((s[i]).toNat : Int) := by omega
        simp -implicitDefEqProofs [s_NumRead_L0, s_NumRead_L0b, hl, hw, h, h1, h2, lv]
  · obtain ⟨hl, rfl⟩ := List.getElem?_eq_some_iff.1 hi
    split at hg
    · rename_i hx
      simp only [digB, decide_eq_true_eq] at hx
      injection hg with hg
      rw [Nat.pow_succ]; omega
    · cases hg
  · simp -implicitDefEqProofs [s_NumRead_L0, s_NumRead_L0b]
theorem foldI_foldl {β γ : Type} (go : γ → β → γ) : ∀ (l : List β) (i : Nat) (g : γ), foldI (fun _ g b => go g b) i l g = l.foldl go g
  | [], _, _ => rfl
  | b :: l, i, g => by rw [foldI, foldI_foldl go l, List.foldl_cons]
theorem c_s_NumRead (s : Str) (hb : s.length ≤ 9223372036854775807) : ev LI TT 66 [.str ⟨s.toArray⟩] = some (.tup [.int .i64 ((((numRead s).getD 0 : Nat) : Int)), .bool ((numRead s).isSome)], [.dead]) := by
  rw [ev_run (b := s_NumRead_b) (rs := [.t 2, .t 3]) (n := 1) rfl rfl]
  by_cases h7 : 7 < s.length 
  · have h7' : 7 < (s.length : Int) := by omega 
    have hn : ¬ s = [] := by rintro rfl; simp at h7 
    simp -implicitDefEqProofs [s_NumRead_b, numRead_long s h7, h7', hn] 
  have h7' : ¬ 7 < (s.length : Int) := by omega 
  rw [numRead_eq s (by omega)] 
  by_cases h0 : s = [] 
  · subst h0; simp -implicitDefEqProofs [s_NumRead_b] 
  by_cases hd : allB digB s = true 
  rotate_left 
  · have u1 := L_s_NumRead1 s (by omega) hd 
    simp -implicitDefEqProofs [s_NumRead_b, h7', h0, hd, u1] 
  have u1 := L_s_NumRead0 s (by omega) hd 0 (by decide) 
  rw [show foldI (fun _ (g : Nat) (b : UInt8) => 10 * g + b.toNat - 48) 0 s 0 = valS s from foldI_foldl _ s 0 0] at u1 
  simp only [Int.ofNat_zero] at u1 
  have u2 := c_s_NumText (valS s) 
  by_cases ht : numText (valS s) = s 
  rotate_left 
  · simp -implicitDefEqProofs [s_NumRead_b, h7', h0, hd, u1, u2, eq_false ht]
  simp -implicitDefEqProofs [s_NumRead_b, h7', h0, hd, u1, u2, eq_true ht]
  all_goals (repeat' split) <;> first | rfl | omega | (simp_all; done) | (simp_all; omega) | skip
end M
set_option linter.unusedVariables false
set_option linter.unusedSimpArgs false
namespace M
open Go
def spF (w : Str) : List Str := if trimS w ≠ [] then [trimS w] else []
theorem opt_cases (s : Str) (i : Nat) (h : i < (s.map some ++ [none]).length) : (∃ hi : i < s.length, (s.map some ++ [none])[i] = some s[i]) ∨ (i = s.length ∧ (s.map some ++ [none])[i] = none) := by
  by_cases hi : i < s.length
  · refine .inl ⟨hi, ?_⟩
    rw [List.getElem_append_left (by simpa using hi)]
    simp
  · simp at h
    obtain rfl : i = s.length := by omega
    refine .inr ⟨rfl, ?_⟩
    rw [List.getElem_append_right (by simp)]
    simp
theorem spF_len (w : Str) : (spF w).length ≤ 1 := by unfold spF; split <;> simp
theorem goW_inv (c : UInt8) (f : Str → List Str) (hf : ∀ w, (f w).length ≤ 1) (s : Str) (i : Nat) (g : List Str × Nat) (b : Option UInt8) (h : g.2 ≤ i ∧ g.1.length ≤ i) : (goW c f s i g b).2 ≤ i + 1 ∧ (goW c f s i g b).1.length ≤ i + 1 := by
  unfold goW
  have := hf ((s.take i).drop g.2)
  split
  · split
    · simp; omega
    · omega
  · simp; omega
end M
set_option linter.unusedVariables false
set_option linter.unusedSimpArgs false
namespace M
open Go
theorem L_s_l2At (fs : List Fld) (n : Str) (hb : fs.length ≤ 9223372036854775807) : loopW (evA (ev LI TT) (okT TT) s_l2At_L0) [(0, .row .bor 2 (fs.map eFld)), (1, .str ⟨n.toArray⟩), (5, .int .i64 0)] = (firstI (fun f => decide (f.name = n)) 0 (fs)).elim (some (.exit 0, [(0, .row .bor 2 (fs.map eFld)), (1, .str ⟨n.toArray⟩), (5, .int .i64 (fs).length), (9, .bool false)])) fun x => some (.ret, (fun (i : Nat) b => [(4, .int .i64 i)]) x.1 x.2) := by
  refine loop_first (f := evA (ev LI TT) (okT TT) s_l2At_L0) (fs) (fun i => [(0, .row .bor 2 (fs.map eFld)), (1, .str ⟨n.toArray⟩), (5, .int .i64 i)]) (fun f => decide (f.name = n)) (fun (i : Nat) b => [(4, .int .i64 i)]) _ (fun i b hi hl => ?_) ?_
  · have hw := wrap_succ i (by first | omega | (simp at hl; omega))
    obtain ⟨_, rfl⟩ := List.getElem?_eq_some_iff.1 hi
    simp -implicitDefEqProofs [s_l2At_L0, s_l2At_L0b, hl, hw]
  · simp -implicitDefEqProofs [s_l2At_L0, s_l2At_L0b]
theorem c_s_l2At (fs : List Fld) (n : Str) (hb : fs.length ≤ 9223372036854775807) : ev LI TT 121 [.row .bor 2 (fs.map eFld), .str ⟨n.toArray⟩] = some (.int .i64 (atI (atF fs n)), [.dead, .dead]) := by
  rw [ev_run (b := s_l2At_b) (rs := [.t 4]) (n := 2) rfl rfl]
  have h := L_s_l2At  fs n hb 
  rw [show firstI (fun f => decide (f.name = n)) 0 fs = atF fs n from rfl] at h 
  simp at h 
  cases g : atF fs n with 
  | none => rw [g] at h; simp at h; simp -implicitDefEqProofs [s_l2At_b, h, atI] 
  | some x => 
  rw [g] at h 
  simp at h
  simp -implicitDefEqProofs [s_l2At_b, h, atI]
  all_goals (repeat' split) <;> first | rfl | omega | (simp_all; done) | (simp_all; omega) | skip
theorem c_s_Get (fs : List Fld) (n : Str) (hb : fs.length ≤ 9223372036854775807) : ev LI TT 120 [.row .bor 2 (fs.map eFld), .str ⟨n.toArray⟩] = some (.tup [.str ⟨((gtF fs n).getD []).toArray⟩, .bool (gtF fs n).isSome], [.dead, .dead]) := by
  rw [ev_run (b := s_Get_b) (rs := [.t 4, .t 5]) (n := 2) rfl rfl]
  have h := c_s_l2At  fs n hb 
  unfold gtF 
  cases g : atF fs n with 
  | none => rw [g] at h; simp [atI] at h; simp -implicitDefEqProofs [s_Get_b, h] 
  | some x => 
  obtain ⟨i, b⟩ := x 
  rw [g] at h 
  obtain ⟨h1, h2, h3⟩ := firstI_some g 
  simp at h2 
  simp [atI] at h 
  have hi : i < fs.length := (List.getElem?_eq_some_iff.1 h2).1 
  obtain ⟨_, rfl⟩ := List.getElem?_eq_some_iff.1 h2
  simp -implicitDefEqProofs [s_Get_b, h, hi]
  all_goals (repeat' split) <;> first | rfl | omega | (simp_all; done) | (simp_all; omega) | skip
theorem c_i_fieldAt_1 (f : Fld) (n : Str) : ev LI TT 157 [.agg (eFld f), .ptr .bor [.str ⟨n.toArray⟩]] = some (.bool (decide (f.name = n)), [.dead, .dead]) := by
  rw [ev_run (b := i_fieldAt_1_b) (rs := [.t 3]) (n := 2) rfl rfl]
  simp -implicitDefEqProofs [i_fieldAt_1_b]
  all_goals (repeat' split) <;> first | rfl | omega | (simp_all; done) | (simp_all; omega) | skip
theorem L_x_slices_IndexFunc_impl_Field_impl_Field (fs : List Fld) (n : Str) (hb : fs.length ≤ 9223372036854775807) : loopW (evA (ev LI TT) (okT TT) x_slices_IndexFunc_impl_Field_impl_Field_L0) [(0, .row .bor 2 (fs.map eFld)), (1, .fn 157 [.ptr .bor [.str ⟨n.toArray⟩]]), (7, .int .i64 fs.length), (8, .int .i64 0)] = (firstI (fun f => decide (f.name = n)) 0 (fs)).elim (some (.exit 0, [(0, .row .bor 2 (fs.map eFld)), (1, .fn 157 [.ptr .bor [.str ⟨n.toArray⟩]]), (7, .int .i64 fs.length), (8, .int .i64 (fs).length), (9, .bool false)])) fun x => some (.ret, (fun (i : Nat) b => [(4, .int .i64 i)]) x.1 x.2) := by
  refine loop_first (f := evA (ev LI TT) (okT TT) x_slices_IndexFunc_impl_Field_impl_Field_L0) (fs) (fun i => [(0, .row .bor 2 (fs.map eFld)), (1, .fn 157 [.ptr .bor [.str ⟨n.toArray⟩]]), (7, .int .i64 fs.length), (8, .int .i64 i)]) (fun f => decide (f.name = n)) (fun (i : Nat) b => [(4, .int .i64 i)]) _ (fun i b hi hl => ?_) ?_
  · have hw := wrap_succ i (by first | omega | (simp at hl; omega))
    obtain ⟨_, rfl⟩ := List.getElem?_eq_some_iff.1 hi
    have ho : okT TT 157 = true := rfl 
    have hf := c_i_fieldAt_1  fs[i] n 
    simp at hf
    simp -implicitDefEqProofs [x_slices_IndexFunc_impl_Field_impl_Field_L0, x_slices_IndexFunc_impl_Field_impl_Field_L0b, hl, hw, ho, isFn, hf]
  · simp -implicitDefEqProofs [x_slices_IndexFunc_impl_Field_impl_Field_L0, x_slices_IndexFunc_impl_Field_impl_Field_L0b]
theorem c_x_slices_IndexFunc_impl_Field_impl_Field (fs : List Fld) (n : Str) (hb : fs.length ≤ 9223372036854775807) : ev LI TT 156 [.row .bor 2 (fs.map eFld), .fn 157 [.ptr .bor [.str ⟨n.toArray⟩]]] = some (.int .i64 (atI (atF fs n)), [.dead, .dead]) := by
  rw [ev_run (b := x_slices_IndexFunc_impl_Field_impl_Field_b) (rs := [.t 4]) (n := 2) rfl rfl]
  have h := L_x_slices_IndexFunc_impl_Field_impl_Field  fs n hb 
  rw [show firstI (fun f => decide (f.name = n)) 0 fs = atF fs n from rfl] at h 
  simp at h 
  cases g : atF fs n with 
  | none => rw [g] at h; simp at h; simp -implicitDefEqProofs [x_slices_IndexFunc_impl_Field_impl_Field_b, h, atI] 
  | some x => 
  rw [g] at h 
  simp at h
  simp -implicitDefEqProofs [x_slices_IndexFunc_impl_Field_impl_Field_b, h, atI]
  all_goals (repeat' split) <;> first | rfl | omega | (simp_all; done) | (simp_all; omega) | skip
theorem c_i_fieldAt (fs : List Fld) (n : Str) (hb : fs.length ≤ 9223372036854775807) : ev LI TT 128 [.row .bor 2 (fs.map eFld), .str ⟨n.toArray⟩] = some (.int .i64 (atI (atF fs n)), [.dead, .dead]) := by
  rw [ev_run (b := i_fieldAt_b) (rs := [.t 4]) (n := 2) rfl rfl]
  have h := c_x_slices_IndexFunc_impl_Field_impl_Field  fs n hb
  simp -implicitDefEqProofs [i_fieldAt_b, h, resAL, resA]
  all_goals (repeat' split) <;> first | rfl | omega | (simp_all; done) | (simp_all; omega) | skip
theorem c_i_Get (fs : List Fld) (n : Str) (hb : fs.length ≤ 9223372036854775807) : ev LI TT 127 [.row .bor 2 (fs.map eFld), .str ⟨n.toArray⟩] = some (.tup [.str ⟨((gtF fs n).getD []).toArray⟩, .bool (gtF fs n).isSome], [.dead, .dead]) := by
  rw [ev_run (b := i_Get_b) (rs := [.t 4, .t 5]) (n := 2) rfl rfl]
  have h := c_i_fieldAt  fs n hb 
  unfold gtF 
  cases g : atF fs n with 
  | none => rw [g] at h; simp [atI] at h; simp -implicitDefEqProofs [i_Get_b, h] 
  | some x => 
  obtain ⟨i, b⟩ := x 
  rw [g] at h 
  obtain ⟨h1, h2, h3⟩ := firstI_some g 
  simp at h2 
  simp [atI] at h 
  have hi : i < fs.length := (List.getElem?_eq_some_iff.1 h2).1 
  obtain ⟨_, rfl⟩ := List.getElem?_eq_some_iff.1 h2
  simp -implicitDefEqProofs [i_Get_b, h, hi]
  all_goals (repeat' split) <;> first | rfl | omega | (simp_all; done) | (simp_all; omega) | skip
end M
set_option linter.unusedVariables false
set_option linter.unusedSimpArgs false
namespace M
open Go
theorem nmCL_eq : (⟨#[99, 111, 110, 116, 101, 110, 116, 45, 108, 101, 110, 103, 116, 104]⟩ : ByteArray) = ⟨nmCL.toArray⟩ := rfl
theorem L_s_FieldsOk (fs : List Fld) (hb : wL wFld fs ≤ 1073741824) : loopW (evA (ev LI TT) (okT TT) s_FieldsOk_L0) [(0, .row .bor 2 (fs.map eFld)), (3, .int .i64 0)] = if allB (fldP fs) (fs.zipIdx) = true then some (.exit 0, [(0, .row .bor 2 (fs.map eFld)), (3, .int .i64 (fs.zipIdx).length), (7, .bool false)]) else some (.ret, [(2, .bool false)]) := by
  refine loop_all (f := evA (ev LI TT) (okT TT) s_FieldsOk_L0) (fs.zipIdx) (fun i => [(0, .row .bor 2 (fs.map eFld)), (3, .int .i64 i)]) (fldP fs) _ _ (fun i b hi hl => ?_) ?_
  · have hw := wrap_succ i (by have := wL_len (w := wFld) fs; simp at hl; omega)
    obtain ⟨_, rfl⟩ := List.getElem?_eq_some_iff.1 hi
    simp only [List.length_zipIdx] at hl 
    have hz : fs.zipIdx[i]'(by simpa using hl) = (fs[i], i) := by simp 
    have hm := wFld_mem (List.getElem_mem hl) 
    have hfl := wL_len (w := wFld) fs 
    rw [hz]
    have u1 := c_s_TokenOk  fs[i].name (by omega)
    try simp at u1
    have u2 := c_s_ValueOk  fs[i].value (by omega)
    try simp at u2
    have u3 := c_s_l2At  fs fs[i].name (by omega)
    try simp at u3
    by_cases g1 : tokenOk fs[i].name = true
    rotate_left
    · simp -implicitDefEqProofs [s_FieldsOk_L0, s_FieldsOk_L0b, hl, hw, u1, u2, u3, fldP, g1]
    by_cases g2 : valueOk fs[i].value = true
    rotate_left
    · simp -implicitDefEqProofs [s_FieldsOk_L0, s_FieldsOk_L0b, hl, hw, u1, u2, u3, fldP, g1, g2]
    by_cases g3 : atI (atF fs fs[i].name) = i
    rotate_left
    · simp -implicitDefEqProofs [s_FieldsOk_L0, s_FieldsOk_L0b, hl, hw, u1, u2, u3, fldP, g1, g2, eq_false g3]
    by_cases hcl : fs[i].name = nmCL 
    · simp -implicitDefEqProofs [s_FieldsOk_L0, s_FieldsOk_L0b, hl, hw, u1, u2, u3, g1, g2, eq_true g3, fldP, nmCL_eq, eq_true hcl]
    simp -implicitDefEqProofs [s_FieldsOk_L0, s_FieldsOk_L0b, hl, hw, u1, u2, u3, fldP, g1, g2, eq_true g3, nmCL_eq, eq_false hcl]
    all_goals (repeat' split) <;> first | rfl | omega | (simp_all; done) | (simp_all; omega) | skip
  · simp -implicitDefEqProofs [s_FieldsOk_L0, s_FieldsOk_L0b]
theorem c_s_FieldsOk (fs : List Fld) (hb : wL wFld fs ≤ 1073741824) : ev LI TT 124 [.row .bor 2 (fs.map eFld)] = some (.bool ((fieldsOk fs)), [.dead]) := by
  rw [ev_run (b := s_FieldsOk_b) (rs := [.t 2]) (n := 1) rfl rfl]
  unfold fieldsOk 
  have hfl := wL_len (w := wFld) fs
  have u1 := L_s_FieldsOk  fs hb
  try simp at u1
  simp -implicitDefEqProofs [s_FieldsOk_b, u1]
  all_goals (repeat' split) <;> first | rfl | omega | (simp_all; done) | (simp_all; omega) | skip
theorem L_i_FieldsOk (fs : List Fld) (hb : wL wFld fs ≤ 1073741824) : loopW (evA (ev LI TT) (okT TT) i_FieldsOk_L0) [(0, .row .bor 2 (fs.map eFld)), (5, .row .bor 2 (fs.map eFld)), (6, .int .i64 fs.length), (7, .int .i64 0)] = if allB (fldP fs) (fs.zipIdx) = true then some (.exit 0, [(0, .row .bor 2 (fs.map eFld)), (5, .row .bor 2 (fs.map eFld)), (6, .int .i64 fs.length), (7, .int .i64 (fs.zipIdx).length), (8, .bool false)]) else some (.ret, [(2, .bool false)]) := by
  refine loop_all (f := evA (ev LI TT) (okT TT) i_FieldsOk_L0) (fs.zipIdx) (fun i => [(0, .row .bor 2 (fs.map eFld)), (5, .row .bor 2 (fs.map eFld)), (6, .int .i64 fs.length), (7, .int .i64 i)]) (fldP fs) _ _ (fun i b hi hl => ?_) ?_
  · have hw := wrap_succ i (by have := wL_len (w := wFld) fs; simp at hl; omega)
    obtain ⟨_, rfl⟩ := List.getElem?_eq_some_iff.1 hi
    simp only [List.length_zipIdx] at hl 
    have hz : fs.zipIdx[i]'(by simpa using hl) = (fs[i], i) := by simp 
    have hm := wFld_mem (List.getElem_mem hl) 
    have hfl := wL_len (w := wFld) fs 
    rw [hz]
    have u1 := c_i_TokenOk  fs[i].name (by omega)
    try simp at u1
    have u2 := c_i_ValueOk  fs[i].value (by omega)
    try simp at u2
    have u3 := c_i_fieldAt  fs fs[i].name (by omega)
    try simp at u3
    by_cases g1 : tokenOk fs[i].name = true
    rotate_left
    · simp -implicitDefEqProofs [i_FieldsOk_L0, i_FieldsOk_L0b, hl, hw, u1, u2, u3, fldP, g1]
    by_cases g2 : valueOk fs[i].value = true
    rotate_left
    · simp -implicitDefEqProofs [i_FieldsOk_L0, i_FieldsOk_L0b, hl, hw, u1, u2, u3, fldP, g1, g2]
    by_cases hcl : fs[i].name = nmCL 
    · simp -implicitDefEqProofs [i_FieldsOk_L0, i_FieldsOk_L0b, hl, hw, u1, u2, u3, g1, g2, fldP, nmCL_eq, eq_true hcl] 
    by_cases g3 : atI (atF fs fs[i].name) = i 
    rotate_left 
    · simp -implicitDefEqProofs [i_FieldsOk_L0, i_FieldsOk_L0b, hl, hw, u1, u2, u3, g1, g2, fldP, nmCL_eq, eq_false hcl, eq_false g3]
    simp -implicitDefEqProofs [i_FieldsOk_L0, i_FieldsOk_L0b, hl, hw, u1, u2, u3, fldP, g1, g2, nmCL_eq, eq_false hcl, eq_true g3]
    all_goals (repeat' split) <;> first | rfl | omega | (simp_all; done) | (simp_all; omega) | skip
  · simp -implicitDefEqProofs [i_FieldsOk_L0, i_FieldsOk_L0b]
theorem c_i_FieldsOk (fs : List Fld) (hb : wL wFld fs ≤ 1073741824) : ev LI TT 131 [.row .bor 2 (fs.map eFld)] = some (.bool ((fieldsOk fs)), [.dead]) := by
  rw [ev_run (b := i_FieldsOk_b) (rs := [.t 2]) (n := 1) rfl rfl]
  unfold fieldsOk 
  have hfl := wL_len (w := wFld) fs
  have u1 := L_i_FieldsOk  fs hb
  try simp at u1
  simp -implicitDefEqProofs [i_FieldsOk_b, u1]
  all_goals (repeat' split) <;> first | rfl | omega | (simp_all; done) | (simp_all; omega) | skip
theorem fld_modify (fs : List Fld) (i : Nat) (h : i < fs.length) (v : Str) : (fs.map eFld).modify i (fun e => e.set 1 (X.str ⟨v.toArray⟩)) = (fs.set i ⟨fs[i].name, v⟩).map eFld := by
  apply List.ext_getElem?
  intro j
  rw [List.getElem?_modify, List.getElem?_map, List.getElem?_map, List.getElem?_set]
  by_cases hij : i = j
  · subst hij
    simp [h]
  · simp only [hij, if_false]
    cases fs[j]? <;> rfl
theorem fld_scalars (fs : List Fld) : scalarsB (fs.map eFld) = true := by induction fs <;> simp_all [scalarsB, scalar]
theorem c_s_Put (fs : List Fld) (n : Str) (v : Str) (hb : fs.length ≤ 1073741824) : ev LI TT 73 [.row .bor 2 (fs.map eFld), .str ⟨n.toArray⟩, .str ⟨v.toArray⟩] = some (.row .own 2 ((putF fs n v).map eFld), [.dead, .dead, .dead]) := by
  rw [ev_run (b := s_Put_b) (rs := [.t 6]) (n := 3) rfl rfl]
  unfold putF 
  have hk : fs.length * 32 ≤ 140737488355328 := by omega 
  have hk2 : (fs.length + 1) * 32 ≤ 140737488355328 := by omega 
  have hsc := fld_scalars fs
  have u1 := c_s_l2At  fs n (by omega)
  try simp at u1
  cases g : atF fs n with 
  | none => rw [g] at u1; simp [atI] at u1; simp -implicitDefEqProofs [s_Put_b, u1, rowAt, hk, hk2, hsc, takeE] 
  | some x => 
  obtain ⟨i, f⟩ := x 
  obtain ⟨hi, rfl, _⟩ := atF_some g 
  rw [g] at u1 
  simp [atI] at u1
  simp -implicitDefEqProofs [s_Put_b, u1, hk, hk2, hsc, hi, rowAt, fld_modify fs i hi v, -List.map_set]
  all_goals (repeat' split) <;> first | rfl | omega | (simp_all; done) | (simp_all; omega) | skip
theorem c_i_Put (fs : List Fld) (n : Str) (v : Str) (hb : fs.length ≤ 1073741824) : ev LI TT 82 [.row .bor 2 (fs.map eFld), .str ⟨n.toArray⟩, .str ⟨v.toArray⟩] = some (.row .own 2 ((putF fs n v).map eFld), [.dead, .dead, .dead]) := by
  rw [ev_run (b := i_Put_b) (rs := [.t 6]) (n := 3) rfl rfl]
  unfold putF 
  have hk2 : (fs.length + 1) * 32 ≤ 140737488355328 := by omega
  have u1 := c_i_fieldAt  fs n (by omega)
  try simp at u1
  have u2 := k_x_slices_Clone_impl_Field_impl_Field fs hb
  try simp at u2
  cases g : atF fs n with 
  | none => rw [g] at u1; simp [atI] at u1; simp -implicitDefEqProofs [i_Put_b, u1, u2, rowAt, hk2, takeE] 
  | some x => 
  obtain ⟨i, f⟩ := x 
  obtain ⟨hi, rfl, _⟩ := atF_some g 
  rw [g] at u1 
  simp [atI] at u1
  simp -implicitDefEqProofs [i_Put_b, u1, u2, hk2, hi, rowAt, fld_modify fs i hi v, -List.map_set]
  all_goals (repeat' split) <;> first | rfl | omega | (simp_all; done) | (simp_all; omega) | skip
theorem c_s_RespOk (r : Rsp) (hb : wRsp r ≤ 1073741824) : ev LI TT 75 [.agg (eRsp .bor r)] = some (.bool ((respOk r)), [.dead]) := by
  rw [ev_run (b := s_RespOk_b) (rs := [.t 2]) (n := 1) rfl rfl]
  have hw : wRsp r = wL wFld r.fields + r.body.length := rfl 
  unfold respOk
  have u1 := c_s_FieldsOk  r.fields (by omega)
  try simp at u1
  by_cases g1 : 100 ≤ r.status
  rotate_left
  · simp -implicitDefEqProofs [s_RespOk_b, u1, eq_false g1]
  by_cases g2 : r.status ≤ 599
  rotate_left
  · simp -implicitDefEqProofs [s_RespOk_b, u1, eq_true g1, eq_false g2]
  by_cases g3 : fieldsOk r.fields = true
  rotate_left
  · simp -implicitDefEqProofs [s_RespOk_b, u1, eq_true g1, eq_true g2, g3]
  simp -implicitDefEqProofs [s_RespOk_b, u1, eq_true g1, eq_true g2, g3]
  all_goals (repeat' split) <;> first | rfl | omega | (simp_all; done) | (simp_all; omega) | skip
theorem c_i_RespOk (r : Rsp) (hb : wRsp r ≤ 1073741824) : ev LI TT 84 [.agg (eRsp .bor r)] = some (.bool ((respOk r)), [.dead]) := by
  rw [ev_run (b := i_RespOk_b) (rs := [.t 2]) (n := 1) rfl rfl]
  have hw : wRsp r = wL wFld r.fields + r.body.length := rfl 
  unfold respOk
  have u1 := c_i_FieldsOk  r.fields (by omega)
  try simp at u1
  by_cases g1 : 100 ≤ r.status
  rotate_left
  · simp -implicitDefEqProofs [i_RespOk_b, u1, eq_false g1]
  by_cases g2 : r.status ≤ 599
  rotate_left
  · simp -implicitDefEqProofs [i_RespOk_b, u1, eq_true g1, eq_false g2]
  by_cases g3 : (r.body.length : Int) ≤ 120
  rotate_left
  · simp -implicitDefEqProofs [i_RespOk_b, u1, eq_true g1, eq_true g2, eq_false g3]
  simp -implicitDefEqProofs [i_RespOk_b, u1, eq_true g1, eq_true g2, eq_true g3]
  all_goals (repeat' split) <;> first | rfl | omega | (simp_all; done) | (simp_all; omega) | skip
theorem c_s_l9Copy (fs : List Fld) (hb : fs.length ≤ 1073741824) : ev LI TT 119 [.row .bor 2 (fs.map eFld)] = some (.row .own 2 (fs.map eFld), [.dead]) := by
  rw [ev_run (b := s_l9Copy_b) (rs := [.t 2]) (n := 1) rfl rfl]
  simp -implicitDefEqProofs [s_l9Copy_b, fld_scalars fs, rowAt, (by omega : fs.length * 32 ≤ 140737488355328)]
  all_goals (repeat' split) <;> first | rfl | omega | (simp_all; done) | (simp_all; omega) | skip
theorem c_s_l9Resp (r : Rsp) (hb : r.fields.length ≤ 1073741824) : ev LI TT 70 [.agg (eRsp .bor r)] = some (.agg (eRsp .own r), [.dead]) := by
  rw [ev_run (b := s_l9Resp_b) (rs := [.c 2 3 true 63]) (n := 1) rfl rfl]
  have u1 := c_s_l9Copy  r.fields hb
  try simp at u1
  simp -implicitDefEqProofs [s_l9Resp_b, u1]
  all_goals (repeat' split) <;> first | rfl | omega | (simp_all; done) | (simp_all; omega) | skip
theorem c_i_copyResp (r : Rsp) (hb : r.fields.length ≤ 1073741824) : ev LI TT 79 [.agg (eRsp .bor r)] = some (.agg (eRsp .own r), [.dead]) := by
  rw [ev_run (b := i_copyResp_b) (rs := [.c 2 3 true 63]) (n := 1) rfl rfl]
  have u1 := k_x_slices_Clone_impl_Field_impl_Field r.fields hb
  try simp at u1
  simp -implicitDefEqProofs [i_copyResp_b, u1]
  all_goals (repeat' split) <;> first | rfl | omega | (simp_all; done) | (simp_all; omega) | skip
end M
set_option linter.unusedVariables false
set_option linter.unusedSimpArgs false
namespace M
open Go
theorem words_len (s : Str) : (wordsC s).length ≤ s.length + 1 := by
  unfold wordsC
  have h1 := List.length_filter_le (fun w : Str => decide (w ≠ [])) ((splitC 44 s).map trimS)
  have h2 := splitC_len 44 s
  simp only [List.length_map] at h1
  omega
theorem words_mem (s : Str) : ∀ w ∈ wordsC s, w.length ≤ s.length := by
  intro w hw
  unfold wordsC at hw
  obtain ⟨x, hx, rfl⟩ := List.mem_map.1 (List.mem_filter.1 hw).1
  have h1 := splitC_mem 44 s x hx
  have h2 := trimS_len x
  omega
theorem lowS_len (s : Str) : (lowS s).length = s.length := by simp [lowS]
theorem varyOf_len (fs : List Fld) : (varyOf fs).length ≤ wL wFld fs + 1 := by
  have h1 := words_len ((gtF fs nmVary).getD [])
  have h2 := gtF_len fs nmVary
  simp [varyOf]; omega
theorem L_s_Short (r : Rsp) (hb : r.fields.length ≤ 1073741824) : loopW (evA (ev LI TT) (okT TT) s_Short_L0) [(1, .ptr .own (eRsp .bor r)), (2, .ptr .own [.int .i64 0, .row .own 2 [], .str ⟨#[]⟩]), (3, .ptr .own [.int .i64 304, .row .own 2 (([]).map eFld), .str ⟨#[]⟩]), (4, .int .i64 0)] = some (.exit 0, [(1, .ptr .own (eRsp .bor r)), (2, .ptr .own [.int .i64 0, .row .own 2 [], .str ⟨#[]⟩]), (3, .ptr .own [.int .i64 304, .row .own 2 ((((r.fields).flatMap (fun f => if shortB f = true then [f] else []))).map eFld), .str ⟨#[]⟩]), (4, .int .i64 (r.fields).length), (11, .bool false)]) := by
  refine loop_flat (f := evA (ev LI TT) (okT TT) s_Short_L0) (r.fields) (fun f => if shortB f = true then [f] else []) (fun i out => [(1, .ptr .own (eRsp .bor r)), (2, .ptr .own [.int .i64 0, .row .own 2 [], .str ⟨#[]⟩]), (3, .ptr .own [.int .i64 304, .row .own 2 ((out).map eFld), .str ⟨#[]⟩]), (4, .int .i64 i)]) (fun out => [(1, .ptr .own (eRsp .bor r)), (2, .ptr .own [.int .i64 0, .row .own 2 [], .str ⟨#[]⟩]), (3, .ptr .own [.int .i64 304, .row .own 2 ((out).map eFld), .str ⟨#[]⟩]), (4, .int .i64 (r.fields).length), (11, .bool false)]) (fun i b out hi hl hout => ?_) (fun out hout => ?_)
  · have hw := wrap_succ i (by first | omega | (simp at hl; omega))
    obtain ⟨_, rfl⟩ := List.getElem?_eq_some_iff.1 hi
    have hlo : out.length ≤ i := by rw [hout]; exact flat_le_len _ (fun f => by split <;> simp) _ _ 
    have hlz : (out.length + 1) * 32 ≤ 140737488355328 := by omega 
    unfold shortB 
    have t1 : (⟨#[101, 116, 97, 103]⟩ : ByteArray) = ⟨nmTag.toArray⟩ := rfl 
    have t2 : (⟨#[118, 97, 114, 121]⟩ : ByteArray) = ⟨nmVary.toArray⟩ := rfl 
    have t3 : (⟨#[99, 97, 99, 104, 101, 45, 99, 111, 110, 116, 114, 111, 108]⟩ : ByteArray) = ⟨nmCC.toArray⟩ := rfl
    by_cases g1 : (r.fields[i]).name = nmTag
    · simp -implicitDefEqProofs [s_Short_L0, s_Short_L0b, hl, hw, hlo, hlz, takeE, t1, t2, t3, eq_true g1]
    by_cases g2 : (r.fields[i]).name = nmVary
    · simp -implicitDefEqProofs [s_Short_L0, s_Short_L0b, hl, hw, hlo, hlz, takeE, t1, t2, t3, eq_false g1, eq_true g2]
    by_cases g3 : (r.fields[i]).name = nmCC
    · simp -implicitDefEqProofs [s_Short_L0, s_Short_L0b, hl, hw, hlo, hlz, takeE, t1, t2, t3, eq_false g1, eq_false g2, eq_true g3]
    simp -implicitDefEqProofs [s_Short_L0, s_Short_L0b, hl, hw, hlo, hlz, takeE, t1, t2, t3, eq_false g1, eq_false g2, eq_false g3]
    all_goals (repeat' split) <;> first | rfl | omega | (simp_all; done) | (simp_all; omega) | skip
  · simp -implicitDefEqProofs [s_Short_L0, s_Short_L0b]
theorem c_s_Short (r : Rsp) (hb : r.fields.length ≤ 1073741824) : ev LI TT 72 [.agg (eRsp .bor r)] = some (.agg (eRsp .own (shortR r)), [.dead]) := by
  rw [ev_run (b := s_Short_b) (rs := [.c 2 3 true 63]) (n := 1) rfl rfl]
  have e : r.fields.flatMap (fun f => if shortB f = true then [f] else []) = r.fields.filter shortB := by generalize r.fields = l; induction l with | nil => rfl | cons a l ih => simp only [List.flatMap_cons, List.filter_cons, ih]; split <;> simp
  have u1 := L_s_Short  r hb
  try simp at u1
  simp -implicitDefEqProofs [s_Short_b, u1, shortR, e]
  all_goals (repeat' split) <;> first | rfl | omega | (simp_all; done) | (simp_all; omega) | skip
theorem L_i_Short (r : Rsp) (hb : r.fields.length ≤ 1073741824) : loopW (evA (ev LI TT) (okT TT) i_Short_L0) [(1, .ptr .own (eRsp .bor r)), (2, .ptr .own [.int .i64 0, .row .own 2 [], .str ⟨#[]⟩]), (3, .ptr .own [.int .i64 304, .row .own 2 (([]).map eFld), .str ⟨#[]⟩]), (7, .adr 1 [] 0 1), (8, .row .bor 2 (r.fields.map eFld)), (9, .int .i64 r.fields.length), (10, .int .i64 0)] = some (.exit 0, [(1, .ptr .own (eRsp .bor r)), (2, .ptr .own [.int .i64 0, .row .own 2 [], .str ⟨#[]⟩]), (3, .ptr .own [.int .i64 304, .row .own 2 ((((r.fields).flatMap (fun f => if shortB f = true then [f] else []))).map eFld), .str ⟨#[]⟩]), (7, .adr 1 [] 0 1), (8, .row .bor 2 (r.fields.map eFld)), (9, .int .i64 r.fields.length), (10, .int .i64 (r.fields).length), (11, .bool false)]) := by
  refine loop_flat (f := evA (ev LI TT) (okT TT) i_Short_L0) (r.fields) (fun f => if shortB f = true then [f] else []) (fun i out => [(1, .ptr .own (eRsp .bor r)), (2, .ptr .own [.int .i64 0, .row .own 2 [], .str ⟨#[]⟩]), (3, .ptr .own [.int .i64 304, .row .own 2 ((out).map eFld), .str ⟨#[]⟩]), (7, .adr 1 [] 0 1), (8, .row .bor 2 (r.fields.map eFld)), (9, .int .i64 r.fields.length), (10, .int .i64 i)]) (fun out => [(1, .ptr .own (eRsp .bor r)), (2, .ptr .own [.int .i64 0, .row .own 2 [], .str ⟨#[]⟩]), (3, .ptr .own [.int .i64 304, .row .own 2 ((out).map eFld), .str ⟨#[]⟩]), (7, .adr 1 [] 0 1), (8, .row .bor 2 (r.fields.map eFld)), (9, .int .i64 r.fields.length), (10, .int .i64 (r.fields).length), (11, .bool false)]) (fun i b out hi hl hout => ?_) (fun out hout => ?_)
  · have hw := wrap_succ i (by first | omega | (simp at hl; omega))
    obtain ⟨_, rfl⟩ := List.getElem?_eq_some_iff.1 hi
    have hlo : out.length ≤ i := by rw [hout]; exact flat_le_len _ (fun f => by split <;> simp) _ _ 
    have hlz : (out.length + 1) * 32 ≤ 140737488355328 := by omega 
    unfold shortB 
    have t1 : (⟨#[101, 116, 97, 103]⟩ : ByteArray) = ⟨nmTag.toArray⟩ := rfl 
    have t2 : (⟨#[118, 97, 114, 121]⟩ : ByteArray) = ⟨nmVary.toArray⟩ := rfl 
    have t3 : (⟨#[99, 97, 99, 104, 101, 45, 99, 111, 110, 116, 114, 111, 108]⟩ : ByteArray) = ⟨nmCC.toArray⟩ := rfl
    by_cases g1 : (r.fields[i]).name = nmTag
    · simp -implicitDefEqProofs [i_Short_L0, i_Short_L0b, hl, hw, hlo, hlz, takeE, t1, t2, t3, eq_true g1]
    by_cases g2 : (r.fields[i]).name = nmVary
    · simp -implicitDefEqProofs [i_Short_L0, i_Short_L0b, hl, hw, hlo, hlz, takeE, t1, t2, t3, eq_false g1, eq_true g2]
    by_cases g3 : (r.fields[i]).name = nmCC
    · simp -implicitDefEqProofs [i_Short_L0, i_Short_L0b, hl, hw, hlo, hlz, takeE, t1, t2, t3, eq_false g1, eq_false g2, eq_true g3]
    simp -implicitDefEqProofs [i_Short_L0, i_Short_L0b, hl, hw, hlo, hlz, takeE, t1, t2, t3, eq_false g1, eq_false g2, eq_false g3]
    all_goals (repeat' split) <;> first | rfl | omega | (simp_all; done) | (simp_all; omega) | skip
  · simp -implicitDefEqProofs [i_Short_L0, i_Short_L0b]
theorem c_i_Short (r : Rsp) (hb : r.fields.length ≤ 1073741824) : ev LI TT 81 [.agg (eRsp .bor r)] = some (.agg (eRsp .own (shortR r)), [.dead]) := by
  rw [ev_run (b := i_Short_b) (rs := [.c 2 3 true 63]) (n := 1) rfl rfl]
  have e : r.fields.flatMap (fun f => if shortB f = true then [f] else []) = r.fields.filter shortB := by generalize r.fields = l; induction l with | nil => rfl | cons a l ih => simp only [List.flatMap_cons, List.filter_cons, ih]; split <;> simp
  have u1 := L_i_Short  r hb
  try simp at u1
  simp -implicitDefEqProofs [i_Short_b, u1, shortR, e]
  all_goals (repeat' split) <;> first | rfl | omega | (simp_all; done) | (simp_all; omega) | skip
end M
set_option linter.unusedVariables false
set_option linter.unusedSimpArgs false
namespace M
open Go
theorem zip_same : ∀ {a b : List Str}, (∀ x ∈ a.zip b, ¬ (decide (x.1 ≠ x.2)) = true) → a.length = b.length → a = b
  | [], [], _, _ => rfl
  | x :: a, y :: b, h, hl => by
    have h1 := h (x, y) (by simp)
    simp at h1
    have h2 : a = b := zip_same (fun z hz => h z (by simp only [List.zip_cons_cons]; exact List.mem_cons_of_mem _ hz)) (by simpa using hl)
    rw [h1, h2]
theorem zip_diff {a b : List Str} {x : Str × Str} (hx : x ∈ a.zip b) (h : x.1 ≠ x.2) : a ≠ b := by
  rintro rfl
  have : ∀ {l : List Str} {x : Str × Str}, x ∈ l.zip l → x.1 = x.2 := by
    intro l
    induction l with
    | nil => intro x h; simp at h
    | cons y l ih =>
      intro x h
      simp only [List.zip_cons_cons, List.mem_cons] at h
      rcases h with rfl | h
      · rfl
      · exact ih h
  exact h (this hx)
theorem c_s_Same (q : Rq) (fs : List Fld) (h1 : q.fields.length ≤ 1073741824) (h2 : fs.length ≤ 1073741824) : ev LI TT 71 [.agg (eRq .bor q), .row .bor 2 (fs.map eFld)] = some (.bool ((sameQ q fs)), [.dead, .dead]) := by
  rw [ev_run (b := s_Same_b) (rs := [.t 4]) (n := 2) rfl rfl]
  unfold sameQ 
  cases e1 : gtF q.fields nmInm with 
  | none => have u1 := c_s_Get q.fields nmInm (by omega); have u2 := c_s_Get fs nmTag (by omega); rw [e1] at u1; simp at u1 u2; simp -implicitDefEqProofs [s_Same_b, u1, u2] 
  | some a => 
  cases e2 : gtF fs nmTag with 
  | none => have u1 := c_s_Get q.fields nmInm (by omega); have u2 := c_s_Get fs nmTag (by omega); rw [e1] at u1; rw [e2] at u2; simp at u1 u2; simp -implicitDefEqProofs [s_Same_b, u1, u2] 
  | some b =>
  have u1 := c_s_Get  q.fields nmInm (by omega)
  try simp at u1
  have u2 := c_s_Get  fs nmTag (by omega)
  try simp at u2
  rw [e1] at u1 
  rw [e2] at u2 
  simp at u1 u2
  simp -implicitDefEqProofs [s_Same_b, u1, u2]
  all_goals (repeat' split) <;> first | rfl | omega | (simp_all; done) | (simp_all; omega) | skip
theorem c_i_Same (q : Rq) (fs : List Fld) (h1 : q.fields.length ≤ 1073741824) (h2 : fs.length ≤ 1073741824) : ev LI TT 80 [.agg (eRq .bor q), .row .bor 2 (fs.map eFld)] = some (.bool ((sameQ q fs)), [.dead, .dead]) := by
  rw [ev_run (b := i_Same_b) (rs := [.t 4]) (n := 2) rfl rfl]
  unfold sameQ 
  cases e1 : gtF q.fields nmInm with 
  | none => have u1 := c_i_Get q.fields nmInm (by omega); have u2 := c_i_Get fs nmTag (by omega); rw [e1] at u1; simp at u1 u2; simp -implicitDefEqProofs [i_Same_b, u1, u2]; try (split <;> simp_all) 
  | some a => 
  cases e2 : gtF fs nmTag with 
  | none => have u1 := c_i_Get q.fields nmInm (by omega); have u2 := c_i_Get fs nmTag (by omega); rw [e1] at u1; rw [e2] at u2; simp at u1 u2; simp -implicitDefEqProofs [i_Same_b, u1, u2] 
  | some b =>
  have u1 := c_i_Get  q.fields nmInm (by omega)
  try simp at u1
  have u2 := c_i_Get  fs nmTag (by omega)
  try simp at u2
  rw [e1] at u1 
  rw [e2] at u2 
  simp at u1 u2
  simp -implicitDefEqProofs [i_Same_b, u1, u2, eq_comm (a := b)]
  all_goals (repeat' split) <;> first | rfl | omega | (simp_all; done) | (simp_all; omega) | skip
theorem c_s_Plus (x : Int) (y : Int) : ev LI TT 122 [.int .i64 x, .int .i64 y] = some (.int .i64 ((plus x y)), [.dead, .dead]) := by
  rw [ev_run (b := s_Plus_b) (rs := [.t 4]) (n := 2) rfl rfl]
  unfold plus within 
  have e1 : ∀ z : Int, (if (if 0 < z then z else 0) < 1000000 then (if 0 < z then z else 0) else 1000000) = max 0 (min z 1000000) := fun z => by (repeat' split) <;> omega 
  have e2 : ∀ z : Int, (if (if z < 0 then 0 else z) < 1000000 then (if z < 0 then 0 else z) else 1000000) = max 0 (min z 1000000) := fun z => by (repeat' split) <;> omega 
  have w := wrap_id (n := max 0 (min x 1000000) + max 0 (min y 1000000)) (by omega) (by omega)
  simp -implicitDefEqProofs [s_Plus_b, e1, e2, w]
  try omega
theorem c_i_Plus (x : Int) (y : Int) : ev LI TT 129 [.int .i64 x, .int .i64 y] = some (.int .i64 ((plus x y)), [.dead, .dead]) := by
  rw [ev_run (b := i_Plus_b) (rs := [.t 4]) (n := 2) rfl rfl]
  unfold plus within 
  have w := wrap_id (n := max 0 (min x 1000000) + max 0 (min y 1000000)) (by omega) (by omega)
  simp -implicitDefEqProofs [i_Plus_b, w]
  try omega
theorem c_s_l7Since (t : Int) (now : Int) (h1 : bI t) (h2 : bI now) : ev LI TT 123 [.int .i64 t, .int .i64 now] = some (.int .i64 ((since t now)), [.dead, .dead]) := by
  rw [ev_run (b := s_l7Since_b) (rs := [.t 4]) (n := 2) rfl rfl]
  obtain ⟨a1, a2⟩ := h1 
  obtain ⟨b1, b2⟩ := h2 
  unfold since 
  by_cases g1 : now ≤ t 
  · simp -implicitDefEqProofs [s_l7Since_b, g1] 
  by_cases g2 : t < 0 
  · have w := wrap_id (n := t + 1000000) (by omega) (by omega) 
    by_cases g3 : t + 1000000 < now 
    · simp -implicitDefEqProofs [s_l7Since_b, g1, g2, g3, w]; omega 
    have w2 := wrap_id (n := now - t) (by omega) (by omega) 
    simp -implicitDefEqProofs [s_l7Since_b, g1, g2, g3, w, w2]; (repeat' split) <;> omega 
  have w2 := wrap_id (n := now - t) (by omega) (by omega)
  simp -implicitDefEqProofs [s_l7Since_b, g1, g2, w2]
  (repeat' split) <;> omega
theorem c_i_since (t : Int) (now : Int) (h1 : bI t) (h2 : bI now) : ev LI TT 130 [.int .i64 t, .int .i64 now] = some (.int .i64 ((since t now)), [.dead, .dead]) := by
  rw [ev_run (b := i_since_b) (rs := [.t 4]) (n := 2) rfl rfl]
  obtain ⟨a1, a2⟩ := h1 
  obtain ⟨b1, b2⟩ := h2 
  unfold since 
  by_cases g1 : now ≤ t 
  · simp -implicitDefEqProofs [i_since_b, g1] 
  by_cases g2 : now - t ≤ 9223372036854775807 
  · have w2 := wrap_id (n := now - t) (by omega) (by omega) 
    have w3 : ¬ now - t < 0 := by omega 
    simp -implicitDefEqProofs [i_since_b, g1, w2, w3]; (repeat' split) <;> omega 
  have w4 : IntKind.i64.wrap (now - t) < 0 := by rw [IntKind.wrap_i64]; omega
  simp -implicitDefEqProofs [i_since_b, g1, w4]
  (repeat' split) <;> omega
theorem c_s_AgeAt (fs : List Fld) (t : Int) (now : Int) (hb : wL wFld fs ≤ 1073741824) (h1 : bI t) (h2 : bI now) : ev LI TT 74 [.row .bor 2 (fs.map eFld), .int .i64 t, .int .i64 now] = some (.int .i64 ((ageAt fs t now)), [.dead, .dead, .dead]) := by
  rw [ev_run (b := s_AgeAt_b) (rs := [.t 6]) (n := 3) rfl rfl]
  have hfl := wL_len (w := wFld) fs 
  have hg := gtF_len fs nmAge 
  have u1 := c_s_Get fs nmAge (by omega) 
  have u2 := c_s_NumRead ((gtF fs nmAge).getD []) (by omega) 
  have u3 := c_s_l7Since t now h1 h2 
  have u4 := c_s_Plus (ageOf fs) (since t now) 
  try simp at u3 u4 
  unfold ageAt 
  unfold ageOf at u4 ⊢ 
  cases e1 : gtF fs nmAge with 
  | none => 
    rw [e1] at u1 u2 u4 
    have e0 : numRead [] = none := by simp [numRead, valS, digS_zero] 
    simp [e0] at u1 u2 u4 
    simp -implicitDefEqProofs [s_AgeAt_b, u1, u2, u3, u4] 
  | some v => 
  rw [e1] at u1 u2 u4 
  cases e2 : numRead v with 
  | none => 
    simp [e2] at u1 u2 u4 
    simp -implicitDefEqProofs [s_AgeAt_b, u1, u2, u3, u4, e2] 
  | some n => 
  simp [e2] at u1 u2 u4
  simp -implicitDefEqProofs [s_AgeAt_b, u1, u2, u3, u4, e2]
  all_goals (repeat' split) <;> first | rfl | omega | (simp_all; done) | (simp_all; omega) | skip
theorem c_i_AgeAt (fs : List Fld) (t : Int) (now : Int) (hb : wL wFld fs ≤ 1073741824) (h1 : bI t) (h2 : bI now) : ev LI TT 83 [.row .bor 2 (fs.map eFld), .int .i64 t, .int .i64 now] = some (.int .i64 ((ageAt fs t now)), [.dead, .dead, .dead]) := by
  rw [ev_run (b := i_AgeAt_b) (rs := [.t 6]) (n := 3) rfl rfl]
  have hfl := wL_len (w := wFld) fs 
  have hg := gtF_len fs nmAge 
  have u1 := c_i_Get fs nmAge (by omega) 
  have u2 := c_i_NumRead ((gtF fs nmAge).getD []) (by omega) 
  have u3 := c_i_since t now h1 h2 
  have u4 := c_i_Plus (ageOf fs) (since t now) 
  try simp at u3 u4 
  unfold ageAt 
  unfold ageOf at u4 ⊢ 
  cases e1 : gtF fs nmAge with 
  | none => 
    rw [e1] at u1 u2 u4 
    have e0 : numRead [] = none := by simp [numRead, valS, digS_zero] 
    simp [e0] at u1 u2 u4 
    simp -implicitDefEqProofs [i_AgeAt_b, u1, u2, u3, u4] 
  | some v => 
  rw [e1] at u1 u2 u4 
  cases e2 : numRead v with 
  | none => 
    simp [e2] at u1 u2 u4 
    simp -implicitDefEqProofs [i_AgeAt_b, u1, u2, u3, u4, e2] 
  | some n => 
  simp [e2] at u1 u2 u4
  simp -implicitDefEqProofs [i_AgeAt_b, u1, u2, u3, u4, e2]
  all_goals (repeat' split) <;> first | rfl | omega | (simp_all; done) | (simp_all; omega) | skip
end M
set_option linter.unusedVariables false
set_option linter.unusedSimpArgs false
namespace M
open Go
end M
set_option linter.unusedVariables false
set_option linter.unusedSimpArgs false
namespace M
open Go
end M
set_option linter.unusedVariables false
set_option linter.unusedSimpArgs false
namespace M
open Go
end M
set_option linter.unusedVariables false
set_option linter.unusedSimpArgs false
namespace M
open Go
theorem nmAge_eq : (⟨#[97, 103, 101]⟩ : ByteArray) = ⟨nmAge.toArray⟩ := rfl
theorem c_s_Answer (q : Rq) (o : Ob) (now : Int) (h1 : wRq q ≤ 1048576) (h2 : wOb o ≤ 1048576) (h3 : bI o.t) (h4 : bI now) : ev LI TT 21 [.agg (eRq .bor q), .agg (eOb .bor o), .int .i64 now] = some (.agg (eRsp .own (answer q o now)), [.dead, .dead, .dead]) := by
  rw [ev_run (b := s_Answer_b) (rs := [.c 6 3 true 63]) (n := 3) rfl rfl]
  have hw : wOb o = o.path.length + wL wS o.names + wL wS o.values + wRsp o.resp := rfl 
  have hw2 : wRsp o.resp = wL wFld o.resp.fields + o.resp.body.length := rfl 
  have hw3 : wRq q = q.path.length + wL wFld q.fields + q.body.length := rfl 
  have l1 := wL_len (w := wFld) o.resp.fields 
  have l2 := wL_len (w := wFld) q.fields 
  have l3 := numText_len (ageAt o.resp.fields o.t now) 
  have l4 := shortR_w o.resp 
  have l5 := wL_len (w := wFld) (o.resp.fields.filter shortB) 
  have l6 := putF_w o.resp.fields nmAge (numText (ageAt o.resp.fields o.t now)) 
  have l7 := putF_w (o.resp.fields.filter shortB) nmAge (numText (ageAt o.resp.fields o.t now)) 
  have l8 : nmAge.length = 3 := rfl 
  unfold answer
  have u1 := c_s_l9Resp  o.resp (by omega)
  try simp at u1
  have u2 := c_s_Same  q o.resp.fields (by omega) (by omega)
  try simp at u2
  have u3 := c_s_Short  o.resp (by omega)
  try simp at u3
  have u4 := c_s_AgeAt  o.resp.fields o.t now (by omega) h3 h4
  try simp at u4
  have u5 := c_s_NumText  (ageAt o.resp.fields o.t now)
  try simp at u5
  have u6 := c_s_Put  o.resp.fields nmAge (numText (ageAt o.resp.fields o.t now)) (by omega)
  try simp at u6
  have u7 := c_s_Put  (o.resp.fields.filter shortB) nmAge (numText (ageAt o.resp.fields o.t now)) (by omega)
  try simp at u7
  have u8 := c_s_RespOk  ⟨o.resp.status, putF o.resp.fields nmAge (numText (ageAt o.resp.fields o.t now)), o.resp.body⟩ (by unfold wRsp; simp only; omega)
  try simp at u8
  have u9 := c_s_RespOk  ⟨304, putF (o.resp.fields.filter shortB) nmAge (numText (ageAt o.resp.fields o.t now)), []⟩ (by unfold wRsp; simp; omega)
  try simp at u9
  by_cases g1 : sameQ q o.resp.fields = true 
  · by_cases g2 : respOk ⟨304, putF (o.resp.fields.filter shortB) nmAge (numText (ageAt o.resp.fields o.t now)), []⟩ = true 
    · simp -implicitDefEqProofs [s_Answer_b, u1, u2, u3, u4, u5, u6, u7, u8, u9, g1, g2, nmAge_eq, shortR] 
    · simp -implicitDefEqProofs [s_Answer_b, u1, u2, u3, u4, u5, u6, u7, u8, u9, g1, g2, nmAge_eq, shortR] 
  by_cases g2 : respOk ⟨o.resp.status, putF o.resp.fields nmAge (numText (ageAt o.resp.fields o.t now)), o.resp.body⟩ = true 
  · simp -implicitDefEqProofs [s_Answer_b, u1, u2, u3, u4, u5, u6, u7, u8, u9, g1, g2, nmAge_eq, shortR]
  simp -implicitDefEqProofs [s_Answer_b, u1, u2, u3, u4, u5, u6, u7, u8, u9, g1, g2, nmAge_eq, shortR]
  all_goals (repeat' split) <;> first | rfl | omega | (simp_all; done) | (simp_all; omega) | skip
theorem c_i_Answer (q : Rq) (o : Ob) (now : Int) (h1 : wRq q ≤ 1048576) (h2 : wOb o ≤ 1048576) (h3 : bI o.t) (h4 : bI now) : ev LI TT 24 [.agg (eRq .bor q), .agg (eOb .bor o), .int .i64 now] = some (.agg (eRsp .own (answer q o now)), [.dead, .dead, .dead]) := by
  rw [ev_run (b := i_Answer_b) (rs := [.c 6 3 true 63]) (n := 3) rfl rfl]
  have hw : wOb o = o.path.length + wL wS o.names + wL wS o.values + wRsp o.resp := rfl 
  have hw2 : wRsp o.resp = wL wFld o.resp.fields + o.resp.body.length := rfl 
  have hw3 : wRq q = q.path.length + wL wFld q.fields + q.body.length := rfl 
  have l1 := wL_len (w := wFld) o.resp.fields 
  have l2 := wL_len (w := wFld) q.fields 
  have l3 := numText_len (ageAt o.resp.fields o.t now) 
  have l4 := shortR_w o.resp 
  have l5 := wL_len (w := wFld) (o.resp.fields.filter shortB) 
  have l6 := putF_w o.resp.fields nmAge (numText (ageAt o.resp.fields o.t now)) 
  have l7 := putF_w (o.resp.fields.filter shortB) nmAge (numText (ageAt o.resp.fields o.t now)) 
  have l8 : nmAge.length = 3 := rfl 
  unfold answer
  have u1 := c_i_copyResp  o.resp (by omega)
  try simp at u1
  have u2 := c_i_Same  q o.resp.fields (by omega) (by omega)
  try simp at u2
  have u3 := c_i_Short  o.resp (by omega)
  try simp at u3
  have u4 := c_i_AgeAt  o.resp.fields o.t now (by omega) h3 h4
  try simp at u4
  have u5 := c_i_NumText  (ageAt o.resp.fields o.t now)
  try simp at u5
  have u6 := c_i_Put  o.resp.fields nmAge (numText (ageAt o.resp.fields o.t now)) (by omega)
  try simp at u6
  have u7 := c_i_Put  (o.resp.fields.filter shortB) nmAge (numText (ageAt o.resp.fields o.t now)) (by omega)
  try simp at u7
  have u8 := c_i_RespOk  ⟨o.resp.status, putF o.resp.fields nmAge (numText (ageAt o.resp.fields o.t now)), o.resp.body⟩ (by unfold wRsp; simp only; omega)
  try simp at u8
  have u9 := c_i_RespOk  ⟨304, putF (o.resp.fields.filter shortB) nmAge (numText (ageAt o.resp.fields o.t now)), []⟩ (by unfold wRsp; simp; omega)
  try simp at u9
  have u10 := c_i_copyResp  ⟨304, o.resp.fields.filter shortB, []⟩ (by simp only; omega)
  try simp at u10
  by_cases g1 : sameQ q o.resp.fields = true 
  · by_cases g2 : respOk ⟨304, putF (o.resp.fields.filter shortB) nmAge (numText (ageAt o.resp.fields o.t now)), []⟩ = true 
    · simp -implicitDefEqProofs [i_Answer_b, u1, u2, u3, u4, u5, u6, u7, u8, u9, u10, g1, g2, nmAge_eq, shortR] 
    · simp -implicitDefEqProofs [i_Answer_b, u1, u2, u3, u4, u5, u6, u7, u8, u9, u10, g1, g2, nmAge_eq, shortR] 
  by_cases g2 : respOk ⟨o.resp.status, putF o.resp.fields nmAge (numText (ageAt o.resp.fields o.t now)), o.resp.body⟩ = true 
  · simp -implicitDefEqProofs [i_Answer_b, u1, u2, u3, u4, u5, u6, u7, u8, u9, u10, g1, g2, nmAge_eq, shortR]
  simp -implicitDefEqProofs [i_Answer_b, u1, u2, u3, u4, u5, u6, u7, u8, u9, u10, g1, g2, nmAge_eq, shortR]
  all_goals (repeat' split) <;> first | rfl | omega | (simp_all; done) | (simp_all; omega) | skip
end M
set_option linter.unusedVariables false
set_option linter.unusedSimpArgs false
set_option maxHeartbeats 4000000
namespace M
open Go
theorem answer_w (q : Rq) (o : Ob) (now : Int) (h : wOb o ≤ 1048576) : wRsp (answer q o now) ≤ 1073741824 := by
  have hw : wOb o = o.path.length + wL wS o.names + wL wS o.values + wRsp o.resp := rfl
  have hw2 : wRsp o.resp = wL wFld o.resp.fields + o.resp.body.length := rfl
  have l3 := numText_len (ageAt o.resp.fields o.t now)
  have l4 := shortR_w o.resp
  have l6 := putF_w o.resp.fields nmAge (numText (ageAt o.resp.fields o.t now))
  have l7 := putF_w (o.resp.fields.filter shortB) nmAge (numText (ageAt o.resp.fields o.t now))
  have l8 : nmAge.length = 3 := rfl
  by_cases g1 : sameQ q o.resp.fields = true
  · simp only [answer, g1, ↓reduceIte, shortR]
    split
    · unfold wRsp; simp only [List.length_nil]; omega
    · unfold wRsp; simp only [List.length_nil]; omega
  · have e : answer q o now = if respOk ⟨o.resp.status, putF o.resp.fields nmAge (numText (ageAt o.resp.fields o.t now)), o.resp.body⟩ = true then ⟨o.resp.status, putF o.resp.fields nmAge (numText (ageAt o.resp.fields o.t now)), o.resp.body⟩ else o.resp := by
      simp [answer, g1]
    rw [e]
    split
    · unfold wRsp; simp only; omega
    · omega
theorem law_FnExactAnswer (a0 : Rq) (k0 : bRq a0) (a1 : Ob) (k1 : bOb a1) (a2 : Int) (k2 : bI a2) : ∃ ps, ev LI TT 5 [.agg (eRq .sl a0), .agg (eOb .sl a1), .int .i64 a2] = some (.bool true, ps) := by
  rw [ev_run (b := l_FnExactAnswer_b) (rs := [.t 6]) (n := 3) rfl rfl]
  have s0 := c_l_szReq a0 1048576 k0 (by omega) (by omega)
  have w0 := subW_or 1048576 (wRq a0)
  obtain ⟨m0, e0⟩ : ∃ m, m = subW 1048576 (wRq a0) := ⟨_, rfl⟩
  rw [← e0] at s0 w0
  try simp at s0
  by_cases z0 : m0 < 0
  · simp -implicitDefEqProofs [l_FnExactAnswer_b, s0, z0]
  have s1 := c_l_szObj a1 m0 k1 (by omega) (by omega)
  have w1 := subW_or m0 (wOb a1)
  obtain ⟨m1, e1⟩ : ∃ m, m = subW m0 (wOb a1) := ⟨_, rfl⟩
  rw [← e1] at s1 w1
  try simp at s1
  by_cases z1 : m1 < 0
  · simp -implicitDefEqProofs [l_FnExactAnswer_b, s0, z0, s1, z1]
  have t0 := c_l_toReq a0 (by omega)
  try simp at t0
  have q0 := c_l_eqReq a0 a0 (by omega)
  try simp at q0
  have t1 := c_l_toObj a1 (by omega)
  try simp at t1
  have q1 := c_l_eqObj a1 a1 (by omega)
  try simp at q1
  have hS := c_s_Answer a0 a1 a2 (by omega) (by omega) k1.k_t k2
  have hI := c_i_Answer a0 a1 a2 (by omega) (by omega) k1.k_t k2
  try simp at hS
  try simp at hI
  have b0 : wRsp (answer a0 a1 a2) ≤ 1073741824 := answer_w a0 a1 a2 (by omega)
  have r0 := c_l_eqResp (answer a0 a1 a2) (answer a0 a1 a2) (by omega)
  try simp at r0
  have cl1 := tn_Rq_le a0
  have mk1 := c_l_markReq a0 1 (by omega) (by omega)
  obtain ⟨K1, hK1⟩ : ∃ x : Int, 1 + ((tn_Rq a0 : Nat) : Int) = x := ⟨_, rfl⟩
  rw [hK1] at mk1
  try simp at mk1
  have cl2 := tn_Ob_le a1
  have mk2 := c_l_markObj a1 K1 (by omega) (by omega)
  obtain ⟨K2, hK2⟩ : ∃ x : Int, K1 + ((tn_Ob a1 : Nat) : Int) = x := ⟨_, rfl⟩
  rw [hK2] at mk2
  try simp at mk2
  have hKn : ¬ K2 < 0 := by omega
  have cr1 := tn_Rsp_le (answer a0 a1 a2)
  have mr1 := c_l_markResp (answer a0 a1 a2) 1 (by omega) (by omega)
  have hr1 := c_l_heldResp (answer a0 a1 a2) 1 (by omega) (by omega)
  obtain ⟨R1, hR1⟩ : ∃ x : Int, 1 + ((tn_Rsp (answer a0 a1 a2) : Nat) : Int) = x := ⟨_, rfl⟩
  rw [hR1] at mr1 hr1
  try simp at mr1
  try simp at hr1
  have hRn1 : ¬ R1 < 0 := by omega
  simp -implicitDefEqProofs [l_FnExactAnswer_b, l_FnExactAnswer_d0, l_FnExactAnswer_d1, l_FnExactAnswer_d2, l_FnExactAnswer_d3, l_FnExactAnswer_d4, l_FnExactAnswer_d5, s0, z0, s1, z1, t0, q0, t1, q1, hS, hI, r0, mk1, mk2, hKn, mr1, hr1, hRn1, putA, backL, giveOk, otherR]
end M
