/- What the functions come to in the machine; no conditions. -/
import Derived.Test.YtcpbpjanigljcaaGreatDoorTab
import Derived.Test.YtcpbpjanigljcaaGreatDoorMd
set_option linter.unusedSectionVars false
set_option linter.unusedVariables false
set_option linter.unusedSimpArgs false
namespace M
open Go
theorem c_l_szField (a : Fld) (n : Int) (hb : bFld a) (hn : 0 ≤ n) (hm : n ≤ 9223372036854775807) : ev LI TT 56 [.agg (eFld a), .int .i64 n] = some (.int .i64 (subW n (wFld a)), [.dead, .dead]) := by
  rw [ev_run (b := l_szField_b) (rs := [.t 4]) (n := 2) rfl rfl]
  have hw : wFld a = a.name.length + a.value.length := rfl 
  have ht := subW_or n (wFld a) 
  have hl1 : a.name.length ≤ 9223372036854775807 := hb.k_name 
  obtain ⟨m1, e1⟩ : ∃ m, m = n - (a.name.length : Int) := ⟨_, rfl⟩ 
  have c1 : IntKind.i64.wrap (n - (a.name.length : Int)) = m1 := by rw [e1]; exact wrap_id (by omega) (by omega) 
  by_cases h1 : m1 < 0 
  · have ef : subW n (wFld a) = -1 := by omega 
    simp -implicitDefEqProofs [l_szField_b, c1, h1, ef] 
  have hl2 : a.value.length ≤ 9223372036854775807 := hb.k_value 
  obtain ⟨m2, e2⟩ : ∃ m, m = m1 - (a.value.length : Int) := ⟨_, rfl⟩ 
  have c2 : IntKind.i64.wrap (m1 - (a.value.length : Int)) = m2 := by rw [e2]; exact wrap_id (by omega) (by omega) 
  by_cases h2 : m2 < 0 
  · have ef : subW n (wFld a) = -1 := by omega 
    simp -implicitDefEqProofs [l_szField_b, c1, h1, c2, h2, ef] 
  have ef : subW n (wFld a) = m2 := by omega
  simp -implicitDefEqProofs [l_szField_b, c1, h1, c2, h2, ef]
  all_goals (repeat' split) <;> first | rfl | omega | (simp_all; done) | (simp_all; omega) | skip
theorem c_l_toField (a : Fld) (hb : wFld a ≤ 1048576) : ev LI TT 61 [.agg (eFld a)] = some (.agg (eFld a), [.dead]) := by
  rw [ev_run (b := l_toField_b) (rs := [.c 2 2 true 75]) (n := 1) rfl rfl]
  have hw : wFld a = a.name.length + a.value.length := rfl
  simp -implicitDefEqProofs [l_toField_b, hw]
  all_goals (repeat' split) <;> first | rfl | omega | (simp_all; done) | (simp_all; omega) | skip
theorem c_l_eqField (a b : Fld) (hb : wFld a ≤ 1073741824) : ev LI TT 64 [.agg (eFld a), .agg (eFld b)] = some (.bool (decide (a = b)), [.dead, .dead]) := by
  rw [ev_run (b := l_eqField_b) (rs := [.t 4]) (n := 2) rfl rfl]
  have hw : wFld a = a.name.length + a.value.length := rfl 
  rw [dec_Fld] 
  by_cases g1 : a.name = b.name 
  rotate_left 
  · simp -implicitDefEqProofs [l_eqField_b, eq_false g1] 
  by_cases g2 : a.value = b.value 
  rotate_left 
  · simp -implicitDefEqProofs [l_eqField_b, eq_true g1, eq_false g2]
  simp -implicitDefEqProofs [l_eqField_b, eq_true g1, eq_true g2]
  all_goals (repeat' split) <;> first | rfl | omega | (simp_all; done) | (simp_all; omega) | skip
theorem L_l_szFieldS (l : List Fld) (hlen : l.length ≤ 9223372036854775807) (hb : bL bFld l) (n : Int) (hn : 0 ≤ n) (hm : n ≤ 9223372036854775807) : loopW (evA (ev LI TT) (okT TT) l_szFieldS_L0) [(0, .row .bor 2 (l.map (eFld))), (1, .int .i64 n), (5, .int .i64 0)] = if szL (fun b n => subW n (wFld b)) (l) n < 0 then some (.ret, [(4, .int .i64 (-1))]) else some (.exit 0, [(0, .row .bor 2 (l.map (eFld))), (1, .int .i64 (szL (fun b n => subW n (wFld b)) (l) n)), (5, .int .i64 (l).length), (15, .bool false)]) := by
  refine loop_sz (f := evA (ev LI TT) (okT TT) l_szFieldS_L0) (l) (fun i n => [(0, .row .bor 2 (l.map (eFld))), (1, .int .i64 n), (5, .int .i64 i)]) (fun b n => subW n (wFld b)) _ (fun n => [(0, .row .bor 2 (l.map (eFld))), (1, .int .i64 n), (5, .int .i64 (l).length), (15, .bool false)]) n hn hm (fun b n => subW_le _ n) (fun i b n hi hl hn hm => ?_) (fun n => ?_)
  · have hw := wrap_succ i (by first | omega | (simp at hl; omega))
    obtain ⟨_, rfl⟩ := List.getElem?_eq_some_iff.1 hi
    have h2 := c_l_szField  l[i] n (hb.2 _ (List.getElem_mem hl)) hn hm 
    obtain ⟨m, e1⟩ : ∃ m, m = subW n (wFld l[i]) := ⟨_, rfl⟩ 
    rw [← e1] at h2 ⊢ 
    try simp at h2
    simp -implicitDefEqProofs [l_szFieldS_L0, l_szFieldS_L0b, hl, hw, h2]
  · simp -implicitDefEqProofs [l_szFieldS_L0, l_szFieldS_L0b]
theorem c_l_szFieldS (l : List Fld) (n : Int) (hb : bL bFld l) (hn : 0 ≤ n) (hm : n ≤ 9223372036854775807) : ev LI TT 21 [.row .bor 2 (l.map (eFld)), .int .i64 n] = some (.int .i64 (subW n (wL wFld l)), [.dead, .dead]) := by
  rw [ev_run (b := l_szFieldS_b) (rs := [.t 4]) (n := 2) rfl rfl]
  have hl := hb.1 
  have hw : wL wFld l = l.length + (l.map wFld).sum := rfl 
  have ht := subW_or n (wL wFld l) 
  obtain ⟨m, e1⟩ : ∃ m, m = n - (l.length : Int) := ⟨_, rfl⟩ 
  have h2 : IntKind.i64.wrap (n - (l.length : Int)) = m := by rw [e1]; exact wrap_id (by omega) (by omega) 
  by_cases h : m < 0 
  · have ef : subW n (wL wFld l) = -1 := by omega 
    simp -implicitDefEqProofs [l_szFieldS_b, h2, h, ef] 
  have h3 := L_l_szFieldS  l hb.1 hb m (by omega) (by omega) 
  rw [szL_subW _ _ _ (by omega)] at h3 
  have hs := subW_or m (l.map wFld).sum 
  obtain ⟨q, e2⟩ : ∃ q, q = subW m (l.map wFld).sum := ⟨_, rfl⟩ 
  rw [← e2] at h3 hs 
  try simp at h3 
  by_cases h4 : q < 0 
  · have ef : subW n (wL wFld l) = -1 := by omega 
    simp only [h4, if_true] at h3 
    simp -implicitDefEqProofs [l_szFieldS_b, h2, h, h3, ef] 
  have ef : subW n (wL wFld l) = q := by omega 
  simp only [h4, if_false] at h3
  simp -implicitDefEqProofs [l_szFieldS_b, h2, h, h3, ef]
  all_goals (repeat' split) <;> first | rfl | omega | (simp_all; done) | (simp_all; omega) | skip
theorem L_l_toFieldS (l : List Fld) (hlen : l.length ≤ 1048576) (hb : wL wFld l ≤ 1048576) : loopW (evA (ev LI TT) (okT TT) l_toFieldS_L0) [(0, .row .bor 2 (l.map eFld)), (3, .row .own 2 (fillN (l.map eFld) 0 [.str ⟨#[]⟩, .str ⟨#[]⟩])), (4, .int .i64 0), (6, .int .i64 l.length)] = some (.exit 0, [(0, .row .bor 2 (l.map eFld)), (3, .row .own 2 (l.map eFld)), (4, .int .i64 (l).length), (6, .int .i64 l.length), (11, .bool false)]) := by
  refine loop_count (f := evA (ev LI TT) (okT TT) l_toFieldS_L0) (l) (fun i => [(0, .row .bor 2 (l.map eFld)), (3, .row .own 2 (fillN (l.map eFld) i [.str ⟨#[]⟩, .str ⟨#[]⟩])), (4, .int .i64 i), (6, .int .i64 l.length)]) _ (fun i b hi hl => ?_) ?_
  · have hw := wrap_succ i (by first | omega | (simp at hl; omega))
    obtain ⟨_, rfl⟩ := List.getElem?_eq_some_iff.1 hi
    have h := c_l_toField  l[i] (Nat.le_trans (wL_mem (List.getElem_mem hl)) hb) 
    try simp at h
    simp -implicitDefEqProofs [l_toFieldS_L0, l_toFieldS_L0b, hl, hw, h]
    first | done | (rw [fillN_set _ _ _ _ (by simpa using hl) (by simp)]; done) | (simp only [modify_two]; rw [fillN_set _ _ _ _ (by simpa using hl) (by simp)])
  · simp -implicitDefEqProofs [l_toFieldS_L0, l_toFieldS_L0b]
theorem c_l_toFieldS (l : List Fld) (hb : wL wFld l ≤ 1048576) : ev LI TT 25 [.row .bor 2 (l.map eFld)] = some (.row .own 2 (l.map eFld), [.dead]) := by
  rw [ev_run (b := l_toFieldS_b) (rs := [.t 2]) (n := 1) rfl rfl]
  have hlen := wL_len (w := wFld) l 
  have h := L_l_toFieldS  l (by omega) hb 
  try simp at h
  simp -implicitDefEqProofs [l_toFieldS_b, h, (by omega : (l.length : Int) * 32 ≤ 140737488355328)]
  all_goals (repeat' split) <;> first | rfl | omega | (simp_all; done) | (simp_all; omega) | skip
theorem L_l_eqFieldS (ps : List (Fld × Fld)) (hb : ps.length ≤ 9223372036854775807) (hb1 : ∀ x ∈ ps, wFld x.1 ≤ 1073741824) : loopW (evA (ev LI TT) (okT TT) l_eqFieldS_L0) [(0, .row .bor 2 (ps.map (fun x : Fld × Fld => eFld x.1))), (1, .row .bor 2 (ps.map (fun x : Fld × Fld => eFld x.2))), (5, .int .i64 0)] = if allB eqB (ps) = true then some (.exit 0, [(0, .row .bor 2 (ps.map (fun x : Fld × Fld => eFld x.1))), (1, .row .bor 2 (ps.map (fun x : Fld × Fld => eFld x.2))), (5, .int .i64 ps.length), (14, .bool false)]) else some (.ret, [(4, .bool false)]) := by
  refine loop_all (f := evA (ev LI TT) (okT TT) l_eqFieldS_L0) (ps) (fun i => [(0, .row .bor 2 (ps.map (fun x : Fld × Fld => eFld x.1))), (1, .row .bor 2 (ps.map (fun x : Fld × Fld => eFld x.2))), (5, .int .i64 i)]) eqB _ _ (fun i b hi hl => ?_) ?_
  · have hw := wrap_succ i (by first | omega | (simp at hl; omega))
    obtain ⟨_, rfl⟩ := List.getElem?_eq_some_iff.1 hi
    have h := c_l_eqField  (ps[i]).1 (ps[i]).2 (hb1 _ (List.getElem_mem hl)); try simp at h
    simp -implicitDefEqProofs [l_eqFieldS_L0, l_eqFieldS_L0b, hl, hw, eqB, h]
  · simp -implicitDefEqProofs [l_eqFieldS_L0, l_eqFieldS_L0b]
theorem c_l_eqFieldS (a b : List Fld) (hb : wL wFld a ≤ 1073741824) : ev LI TT 28 [.row .bor 2 (a.map eFld), .row .bor 2 (b.map eFld)] = some (.bool (decide (a = b)), [.dead, .dead]) := by
  rw [ev_run (b := l_eqFieldS_b) (rs := [.t 4]) (n := 2) rfl rfl]
  simp -implicitDefEqProofs [l_eqFieldS_b]
  have hlen := wL_len (w := wFld) a 
  by_cases h : a.length = b.length 
  · obtain ⟨ps, rfl, rfl⟩ := zip_ex h 
    have h1 := L_l_eqFieldS  ps (by simp at hlen; omega) (fun x hx => Nat.le_trans (wL_mem (List.mem_map_of_mem hx)) hb) 
    have h2 := allB_eq ps 
    simp at h1 
    rw [← h2] 
    cases h3 : allB eqB ps <;> rw [h3] at h1 <;> simp [h1, Function.comp_def] 
  · have : ¬ a = b := fun e => h (by rw [e]) 
    simp [this] 
    omega
theorem c_l_szReq (a : Rq) (n : Int) (hb : bRq a) (hn : 0 ≤ n) (hm : n ≤ 9223372036854775807) : ev LI TT 6 [.agg ((eRq .bor) a), .int .i64 n] = some (.int .i64 (subW n (wRq a)), [.dead, .dead]) := by
  rw [ev_run (b := l_szReq_b) (rs := [.t 4]) (n := 2) rfl rfl]
  have hw : wRq a = a.path.length + wL wFld a.fields + a.body.length := rfl 
  have ht := subW_or n (wRq a) 
  have hl1 : a.path.length ≤ 9223372036854775807 := hb.k_path 
  obtain ⟨m1, e1⟩ : ∃ m, m = n - (a.path.length : Int) := ⟨_, rfl⟩ 
  have c1 : IntKind.i64.wrap (n - (a.path.length : Int)) = m1 := by rw [e1]; exact wrap_id (by omega) (by omega) 
  by_cases h1 : m1 < 0 
  · have ef : subW n (wRq a) = -1 := by omega 
    simp -implicitDefEqProofs [l_szReq_b, c1, h1, ef] 
  have c2 := c_l_szFieldS  a.fields m1 hb.k_fields (by omega) (by omega) 
  have s2 := subW_or m1 (wL wFld a.fields) 
  obtain ⟨m2, e2⟩ : ∃ m, m = subW m1 (wL wFld a.fields) := ⟨_, rfl⟩ 
  rw [← e2] at c2 s2 
  try simp at c2 
  by_cases h2 : m2 < 0 
  · have ef : subW n (wRq a) = -1 := by omega 
    simp -implicitDefEqProofs [l_szReq_b, c1, h1, c2, h2, ef] 
  have hl3 : a.body.length ≤ 9223372036854775807 := hb.k_body 
  obtain ⟨m3, e3⟩ : ∃ m, m = m2 - (a.body.length : Int) := ⟨_, rfl⟩ 
  have c3 : IntKind.i64.wrap (m2 - (a.body.length : Int)) = m3 := by rw [e3]; exact wrap_id (by omega) (by omega) 
  by_cases h3 : m3 < 0 
  · have ef : subW n (wRq a) = -1 := by omega 
    simp -implicitDefEqProofs [l_szReq_b, c1, h1, c2, h2, c3, h3, ef] 
  have ef : subW n (wRq a) = m3 := by omega
  simp -implicitDefEqProofs [l_szReq_b, c1, h1, c2, h2, c3, h3, ef]
  all_goals (repeat' split) <;> first | rfl | omega | (simp_all; done) | (simp_all; omega) | skip
theorem c_l_toReq (a : Rq) (hb : wRq a ≤ 1048576) : ev LI TT 8 [.agg ((eRq .bor) a)] = some (.agg ((eRq .own) a), [.dead]) := by
  rw [ev_run (b := l_toReq_b) (rs := [.c 2 4 true 29]) (n := 1) rfl rfl]
  have hw : wRq a = a.path.length + wL wFld a.fields + a.body.length := rfl 
  have h1 := c_l_toFieldS  a.fields (by omega) 
  try simp at h1
  simp -implicitDefEqProofs [l_toReq_b, h1, hw]
  all_goals (repeat' split) <;> first | rfl | omega | (simp_all; done) | (simp_all; omega) | skip
theorem c_l_eqReq (a b : Rq) (hb : wRq a ≤ 1073741824) : ev LI TT 10 [.agg ((eRq .bor) a), .agg ((eRq .bor) b)] = some (.bool (decide (a = b)), [.dead, .dead]) := by
  rw [ev_run (b := l_eqReq_b) (rs := [.t 4]) (n := 2) rfl rfl]
  have hw : wRq a = a.path.length + wL wFld a.fields + a.body.length := rfl 
  rw [dec_Rq] 
  by_cases g1 : a.method = b.method 
  rotate_left 
  · simp -implicitDefEqProofs [l_eqReq_b, eq_false g1] 
  by_cases g2 : a.path = b.path 
  rotate_left 
  · simp -implicitDefEqProofs [l_eqReq_b, eq_true g1, eq_false g2] 
  have c3 := c_l_eqFieldS  a.fields b.fields (by omega) 
  cases g3 : decide (a.fields = b.fields) 
  · rw [g3] at c3 
    try simp at c3 
    simp -implicitDefEqProofs [l_eqReq_b, eq_true g1, eq_true g2, c3] 
  rw [g3] at c3 
  try simp at c3 
  by_cases g4 : a.body = b.body 
  rotate_left 
  · simp -implicitDefEqProofs [l_eqReq_b, eq_true g1, eq_true g2, c3, eq_false g4]
  simp -implicitDefEqProofs [l_eqReq_b, eq_true g1, eq_true g2, c3, eq_true g4]
  all_goals (repeat' split) <;> first | rfl | omega | (simp_all; done) | (simp_all; omega) | skip
end M
set_option linter.unusedVariables false
set_option linter.unusedSimpArgs false
namespace M
open Go
@[simp] theorem c_s_l1In (x : Int) (lo : Int) (hi : Int) : ev LI TT 46 [.int .i64 x, .int .i64 lo, .int .i64 hi] = some (.bool ((decide (lo ≤ x ∧ x ≤ hi))), [.dead, .dead, .dead]) := by
  rw [ev_run (b := s_l1In_b) (rs := [.t 6]) (n := 3) rfl rfl]
  simp -implicitDefEqProofs [s_l1In_b]
  try (by_cases h1 : lo ≤ x <;> by_cases h2 : x ≤ hi <;> simp [h1, h2])
@[simp] theorem c_i_inRange (x : Int) (lo : Int) (hi : Int) : ev LI TT 77 [.int .i64 x, .int .i64 lo, .int .i64 hi] = some (.bool ((decide (lo ≤ x ∧ x ≤ hi))), [.dead, .dead, .dead]) := by
  rw [ev_run (b := i_inRange_b) (rs := [.t 6]) (n := 3) rfl rfl]
  simp -implicitDefEqProofs [i_inRange_b]
  try (by_cases h1 : lo ≤ x <;> by_cases h2 : x ≤ hi <;> simp [h1, h2])
theorem L_s_TokenOk (s : Str) (hb : s.length ≤ 9223372036854775807) : loopW (evA (ev LI TT) (okT TT) s_TokenOk_L0) [(0, .str ⟨s.toArray⟩), (3, .int .i64 0)] = if allB tokB (s) = true then some (.exit 0, [(0, .str ⟨s.toArray⟩), (3, .int .i64 (s).length), (8, .bool false)]) else some (.ret, [(2, .bool false)]) := by
  refine loop_all (f := evA (ev LI TT) (okT TT) s_TokenOk_L0) (s) (fun i => [(0, .str ⟨s.toArray⟩), (3, .int .i64 i)]) tokB _ _ (fun i b hi hl => ?_) ?_
  · have hw := wrap_succ i (by first | omega | (simp at hl; omega))
    obtain ⟨_, rfl⟩ := List.getElem?_eq_some_iff.1 hi
    unfold tokB
    simp -implicitDefEqProofs [s_TokenOk_L0, s_TokenOk_L0b, hl, hw]
    all_goals (repeat' split) <;> first | rfl | omega | (simp_all; done) | (simp_all; omega) | skip
  · simp -implicitDefEqProofs [s_TokenOk_L0, s_TokenOk_L0b]
theorem c_s_TokenOk (s : Str) (hb : s.length ≤ 9223372036854775807) : ev LI TT 103 [.str ⟨s.toArray⟩] = some (.bool ((tokenOk s)), [.dead]) := by
  rw [ev_run (b := s_TokenOk_b) (rs := [.t 2]) (n := 1) rfl rfl]
  unfold tokenOk
  have u1 := L_s_TokenOk  s hb
  try simp at u1
  simp -implicitDefEqProofs [s_TokenOk_b, u1]
  all_goals (repeat' split) <;> first | rfl | omega | (simp_all; done) | (simp_all; omega) | skip
theorem L_i_TokenOk (s : Str) (hb : s.length ≤ 9223372036854775807) : loopW (evA (ev LI TT) (okT TT) i_TokenOk_L0) [(0, .str ⟨s.toArray⟩), (3, .int .i64 0)] = if allB tokB (s) = true then some (.exit 0, [(0, .str ⟨s.toArray⟩), (3, .int .i64 (s).length), (7, .bool false)]) else some (.ret, [(2, .bool false)]) := by
  refine loop_all (f := evA (ev LI TT) (okT TT) i_TokenOk_L0) (s) (fun i => [(0, .str ⟨s.toArray⟩), (3, .int .i64 i)]) tokB _ _ (fun i b hi hl => ?_) ?_
  · have hw := wrap_succ i (by first | omega | (simp at hl; omega))
    obtain ⟨_, rfl⟩ := List.getElem?_eq_some_iff.1 hi
    unfold tokB
    simp -implicitDefEqProofs [i_TokenOk_L0, i_TokenOk_L0b, hl, hw]
    all_goals (repeat' split) <;> first | rfl | omega | (simp_all; done) | (simp_all; omega) | skip
  · simp -implicitDefEqProofs [i_TokenOk_L0, i_TokenOk_L0b]
theorem c_i_TokenOk (s : Str) (hb : s.length ≤ 9223372036854775807) : ev LI TT 117 [.str ⟨s.toArray⟩] = some (.bool ((tokenOk s)), [.dead]) := by
  rw [ev_run (b := i_TokenOk_b) (rs := [.t 2]) (n := 1) rfl rfl]
  unfold tokenOk
  have u1 := L_i_TokenOk  s hb
  try simp at u1
  simp -implicitDefEqProofs [i_TokenOk_b, u1]
  all_goals (repeat' split) <;> first | rfl | omega | (simp_all; done) | (simp_all; omega) | skip
theorem L_i_areFrom (s : Str) (lo : UInt8) (hb : s.length ≤ 9223372036854775807) : loopW (evA (ev LI TT) (okT TT) i_areFrom_L0) [(0, .str ⟨s.toArray⟩), (1, .int .u8 (lo.toNat : Int)), (5, .int .i64 0)] = if allB (visB lo.toNat) (s) = true then some (.exit 0, [(0, .str ⟨s.toArray⟩), (1, .int .u8 (lo.toNat : Int)), (5, .int .i64 (s).length), (9, .bool false)]) else some (.ret, [(4, .bool false)]) := by
  refine loop_all (f := evA (ev LI TT) (okT TT) i_areFrom_L0) (s) (fun i => [(0, .str ⟨s.toArray⟩), (1, .int .u8 (lo.toNat : Int)), (5, .int .i64 i)]) (visB lo.toNat) _ _ (fun i b hi hl => ?_) ?_
  · have hw := wrap_succ i (by first | omega | (simp at hl; omega))
    obtain ⟨_, rfl⟩ := List.getElem?_eq_some_iff.1 hi
    unfold visB
    simp -implicitDefEqProofs [i_areFrom_L0, i_areFrom_L0b, hl, hw]
    all_goals (repeat' split) <;> first | rfl | omega | (simp_all; done) | (simp_all; omega) | skip
  · simp -implicitDefEqProofs [i_areFrom_L0, i_areFrom_L0b]
theorem c_i_areFrom (s : Str) (lo : UInt8) (hb : s.length ≤ 9223372036854775807) : ev LI TT 139 [.str ⟨s.toArray⟩, .int .u8 (lo.toNat : Int)] = some (.bool ((allB (visB lo.toNat) s)), [.dead, .dead]) := by
  rw [ev_run (b := i_areFrom_b) (rs := [.t 4]) (n := 2) rfl rfl]
  have u1 := L_i_areFrom  s lo hb
  try simp at u1
  simp -implicitDefEqProofs [i_areFrom_b, u1]
  all_goals (repeat' split) <;> first | rfl | omega | (simp_all; done) | (simp_all; omega) | skip
end M
set_option linter.unusedVariables false
set_option linter.unusedSimpArgs false
namespace M
open Go
def nsp (b : UInt8) : Bool := decide ¬ (b.toNat : Int) = 32
theorem L_s_Trim (s : Str) (hb : s.length ≤ 9223372036854775807) : loopW (evA (ev LI TT) (okT TT) s_Trim_L0) [(0, .str ⟨s.toArray⟩), (3, .int .i64 0), (4, .int .i64 s.length)] = some (.exit 0, (fun (i : Nat) => [(0, .str ⟨s.toArray⟩), (3, .int .i64 i), (4, .int .i64 s.length), (15, .bool false)]) (untilI nsp (s))) := by
  refine loop_until (f := evA (ev LI TT) (okT TT) s_Trim_L0) (s) (fun i => [(0, .str ⟨s.toArray⟩), (3, .int .i64 i), (4, .int .i64 s.length)]) nsp (fun (i : Nat) => [(0, .str ⟨s.toArray⟩), (3, .int .i64 i), (4, .int .i64 s.length), (15, .bool false)]) (fun i b hi hl => ?_) ?_
  · have hw := wrap_succ i (by first | omega | (simp at hl; omega))
    obtain ⟨_, rfl⟩ := List.getElem?_eq_some_iff.1 hi
    simp -implicitDefEqProofs [s_Trim_L0, s_Trim_L0b, hl, hw, nsp]
    all_goals (repeat' split) <;> first | rfl | omega | (simp_all; done) | (simp_all; omega) | skip
  · simp -implicitDefEqProofs [s_Trim_L0, s_Trim_L0b]
theorem L_s_Trim_L1 (s : Str) (k : Nat) (hk : k ≤ s.length) (hb : s.length ≤ 9223372036854775807) : loopW (evA (ev LI TT) (okT TT) s_Trim_L1) [(0, .str ⟨s.toArray⟩), (3, .int .i64 k), (4, .int .i64 ((s.length - 0 : Nat) : Int))] = some (.exit 2, (fun (i : Nat) => [(0, .str ⟨s.toArray⟩), (3, .int .i64 k), (4, .int .i64 ((s.length - i : Nat) : Int)), (27, .bool false)]) (untilI nsp ((s.drop k).reverse))) := by
  refine loop_until (f := evA (ev LI TT) (okT TT) s_Trim_L1) ((s.drop k).reverse) (fun i => [(0, .str ⟨s.toArray⟩), (3, .int .i64 k), (4, .int .i64 ((s.length - i : Nat) : Int))]) nsp (fun (i : Nat) => [(0, .str ⟨s.toArray⟩), (3, .int .i64 k), (4, .int .i64 ((s.length - i : Nat) : Int)), (27, .bool false)]) (fun i b hi hl => ?_) ?_
  · have hw := wrap_succ i (by first | omega | (simp at hl; omega))
    obtain ⟨_, rfl⟩ := List.getElem?_eq_some_iff.1 hi
    simp at hl 
    obtain ⟨m, hm⟩ : ∃ m, s.length - i = m + 1 := ⟨s.length - i - 1, by omega⟩ 
    have e1 : s.length - (i + 1) = m := by omega 
    have e2 : IntKind.i64.wrap (m : Int) = m := wrap_id (by omega) (by omega) 
    have e3 : m < s.length := by omega 
    have e4 : ((s.drop k).reverse)[i] = s[m] := by simp; congr 1; omega 
    have e5 : (k : Int) < (m : Int) + 1 := by omega 
    rw [e4, hm, e1]
    simp -implicitDefEqProofs [s_Trim_L1, s_Trim_L1b, hl, hw, nsp, e2, e3, e5]
    try (rw [List.getElem?_eq_getElem e3]; simp [e2]) 
    all_goals (repeat' split) <;> first | rfl | omega | (simp_all; done) | (simp_all; omega) | skip
  · simp only [List.length_reverse, List.length_drop, show s.length - (s.length - k) = k by omega] 
    simp -implicitDefEqProofs [s_Trim_L1, s_Trim_L1b]
end M
set_option linter.unusedVariables false
set_option linter.unusedSimpArgs false
namespace M
open Go
theorem nsp_iff (b : UInt8) : nsp b = true ↔ b ≠ 32 := by
  unfold nsp
  have : ((b.toNat : Int) = 32) ↔ b = 32 := by
    constructor
    · intro h; exact UInt8.toNat_inj.1 (by have e : (32 : UInt8).toNat = 32 := rfl; omega)
    · rintro rfl; rfl
  simp [this]
theorem trimL_until (s : Str) : Lib.trimLeftB s 32 = s.drop (untilI nsp s) := by
  refine Lib.trimLeftB_drop s 32 _ (untilI_le _ _) (fun j b hj hb => ?_) fun b hb => (nsp_iff b).1 (untilI_at _ _ _ hb)
  have := untilI_before _ _ _ _ hj hb
  by_cases h : b = 32
  · exact h
  · rw [(nsp_iff b).2 h] at this; cases this
theorem trimR_until (s : Str) : Lib.trimRightB s 32 = s.take (s.length - untilI nsp s.reverse) := by
  have h := trimL_until s.reverse
  unfold Lib.trimLeftB at h
  unfold Lib.trimRightB
  rw [h, List.drop_reverse, List.reverse_reverse]
theorem trimS_cut (s : Str) : (s.drop (untilI nsp s)).take (s.length - untilI nsp (s.drop (untilI nsp s)).reverse - untilI nsp s) = trimS s := by
  rw [trimS_left, trimL_until, trimR_until, List.length_drop]
  congr 1
  omega
theorem c_s_Trim (s : Str) (hb : s.length ≤ 9223372036854775807) : ev LI TT 129 [.str ⟨s.toArray⟩] = some (.str ⟨(trimS s).toArray⟩, [.dead]) := by
  rw [ev_run (b := s_Trim_b) (rs := [.t 2]) (n := 1) rfl rfl]
  have h1 := untilI_le nsp s 
  have h2 := untilI_le nsp (s.drop (untilI nsp s)).reverse 
  simp only [List.length_reverse, List.length_drop] at h2 
  have h3 := trimS_cut s
  have u1 := L_s_Trim  s hb
  try simp at u1
  have u2 := L_s_Trim_L1  s (untilI nsp s) (untilI_le _ _) hb
  try simp at u2
  simp -implicitDefEqProofs [s_Trim_b, u1, u2, (by omega : (untilI nsp s : Int) ≤ ((s.length - untilI nsp (s.drop (untilI nsp s)).reverse : Nat) : Int)), (by omega : ((s.length - untilI nsp (s.drop (untilI nsp s)).reverse : Nat) : Int) ≤ s.length), Lib.extract_mk, h3]
  all_goals (repeat' split) <;> first | rfl | omega | (simp_all; done) | (simp_all; omega) | skip
theorem c_i_Trim (s : Str) (hb : s.length ≤ 9223372036854775807) : ev LI TT 144 [.str ⟨s.toArray⟩] = some (.str ⟨(trimS s).toArray⟩, [.dead]) := by
  rw [ev_run (b := i_Trim_b) (rs := [.t 2]) (n := 1) rfl rfl]
  have u1 := c_x_strings_Trim  s hb
  try simp at u1
  simp -implicitDefEqProofs [i_Trim_b, u1]
  all_goals (repeat' split) <;> first | rfl | omega | (simp_all; done) | (simp_all; omega) | skip
theorem L_s_ValueOk (s : Str) (hb : s.length ≤ 9223372036854775807) : loopW (evA (ev LI TT) (okT TT) s_ValueOk_L0) [(0, .str ⟨s.toArray⟩), (3, .int .i64 0)] = if allB (visB 32) (s) = true then some (.exit 0, [(0, .str ⟨s.toArray⟩), (3, .int .i64 (s).length), (7, .bool false)]) else some (.ret, [(2, .bool false)]) := by
  refine loop_all (f := evA (ev LI TT) (okT TT) s_ValueOk_L0) (s) (fun i => [(0, .str ⟨s.toArray⟩), (3, .int .i64 i)]) (visB 32) _ _ (fun i b hi hl => ?_) ?_
  · have hw := wrap_succ i (by first | omega | (simp at hl; omega))
    obtain ⟨_, rfl⟩ := List.getElem?_eq_some_iff.1 hi
    unfold visB
    simp -implicitDefEqProofs [s_ValueOk_L0, s_ValueOk_L0b, hl, hw]
    all_goals (repeat' split) <;> first | rfl | omega | (simp_all; done) | (simp_all; omega) | skip
  · simp -implicitDefEqProofs [s_ValueOk_L0, s_ValueOk_L0b]
theorem c_s_ValueOk (s : Str) (hb : s.length ≤ 9223372036854775807) : ev LI TT 95 [.str ⟨s.toArray⟩] = some (.bool ((valueOk s)), [.dead]) := by
  rw [ev_run (b := s_ValueOk_b) (rs := [.t 2]) (n := 1) rfl rfl]
  unfold valueOk
  have u1 := L_s_ValueOk  s hb
  try simp at u1
  have u2 := c_s_Trim  s hb
  try simp at u2
  by_cases g1 : allB (visB 32) s = true
  rotate_left
  · simp -implicitDefEqProofs [s_ValueOk_b, u1, u2, g1]
  by_cases g2 : 1 ≤ (s.length : Int)
  rotate_left
  · simp -implicitDefEqProofs [s_ValueOk_b, u1, u2, g1, eq_false g2]
  by_cases g3 : (s.length : Int) ≤ 60
  rotate_left
  · simp -implicitDefEqProofs [s_ValueOk_b, u1, u2, g1, eq_true g2, eq_false g3]
  simp -implicitDefEqProofs [s_ValueOk_b, u1, u2, g1, eq_true g2, eq_true g3]
  all_goals (repeat' split) <;> first | rfl | omega | (simp_all; done) | (simp_all; omega) | skip
theorem c_i_ValueOk (s : Str) (hb : s.length ≤ 9223372036854775807) : ev LI TT 118 [.str ⟨s.toArray⟩] = some (.bool ((valueOk s)), [.dead]) := by
  rw [ev_run (b := i_ValueOk_b) (rs := [.t 2]) (n := 1) rfl rfl]
  unfold valueOk 
  have e32 : (32 : UInt8).toNat = 32 := rfl
  have u1 := c_i_areFrom  s 32 hb
  try simp at u1
  have u2 := c_i_Trim  s hb
  try simp at u2
  by_cases g1 : 1 ≤ (s.length : Int)
  rotate_left
  · simp -implicitDefEqProofs [i_ValueOk_b, u1, u2, eq_false g1]
  by_cases g2 : (s.length : Int) ≤ 60
  rotate_left
  · simp -implicitDefEqProofs [i_ValueOk_b, u1, u2, eq_true g1, eq_false g2]
  by_cases g3 : allB (visB 32) s = true
  rotate_left
  · simp -implicitDefEqProofs [i_ValueOk_b, u1, u2, eq_true g1, eq_true g2, g3]
  simp -implicitDefEqProofs [i_ValueOk_b, u1, u2, eq_true g1, eq_true g2, g3]
  all_goals (repeat' split) <;> first | rfl | omega | (simp_all; done) | (simp_all; omega) | skip
theorem L_s_l3Path (s : Str) (hb : s.length ≤ 9223372036854775807) : loopW (evA (ev LI TT) (okT TT) s_l3Path_L0) [(0, .str ⟨s.toArray⟩), (3, .int .i64 0)] = if allB (visB 33) (s) = true then some (.exit 0, [(0, .str ⟨s.toArray⟩), (3, .int .i64 (s).length), (7, .bool false)]) else some (.ret, [(2, .bool false)]) := by
  refine loop_all (f := evA (ev LI TT) (okT TT) s_l3Path_L0) (s) (fun i => [(0, .str ⟨s.toArray⟩), (3, .int .i64 i)]) (visB 33) _ _ (fun i b hi hl => ?_) ?_
  · have hw := wrap_succ i (by first | omega | (simp at hl; omega))
    obtain ⟨_, rfl⟩ := List.getElem?_eq_some_iff.1 hi
    unfold visB
    simp -implicitDefEqProofs [s_l3Path_L0, s_l3Path_L0b, hl, hw]
    all_goals (repeat' split) <;> first | rfl | omega | (simp_all; done) | (simp_all; omega) | skip
  · simp -implicitDefEqProofs [s_l3Path_L0, s_l3Path_L0b]
theorem c_s_l3Path (s : Str) (hb : s.length ≤ 9223372036854775807) : ev LI TT 57 [.str ⟨s.toArray⟩] = some (.bool ((pathOk s)), [.dead]) := by
  rw [ev_run (b := s_l3Path_b) (rs := [.t 2]) (n := 1) rfl rfl]
  unfold pathOk
  have u1 := L_s_l3Path  s hb
  try simp at u1
  by_cases g1 : allB (visB 33) s = true
  rotate_left
  · simp -implicitDefEqProofs [s_l3Path_b, u1, g1]
  by_cases g2 : 1 ≤ (s.length : Int)
  rotate_left
  · simp -implicitDefEqProofs [s_l3Path_b, u1, g1, eq_false g2]
  by_cases g3 : (s.length : Int) ≤ 60
  rotate_left
  · simp -implicitDefEqProofs [s_l3Path_b, u1, g1, eq_true g2, eq_false g3]
  obtain ⟨b, hb0⟩ : ∃ b, s[0]? = some b := ⟨s[0]'(by omega), by simp⟩
  simp -implicitDefEqProofs [s_l3Path_b, u1, g1, eq_true g2, eq_true g3, hb0]
  all_goals (repeat' split) <;> first | rfl | omega | (simp_all; done) | (simp_all; omega) | skip
theorem c_i_pathOk (s : Str) (hb : s.length ≤ 9223372036854775807) : ev LI TT 109 [.str ⟨s.toArray⟩] = some (.bool ((pathOk s)), [.dead]) := by
  rw [ev_run (b := i_pathOk_b) (rs := [.t 2]) (n := 1) rfl rfl]
  unfold pathOk 
  have e33 : (33 : UInt8).toNat = 33 := rfl
  have u1 := c_i_areFrom  s 33 hb
  try simp at u1
  by_cases g1 : 1 ≤ (s.length : Int)
  rotate_left
  · simp -implicitDefEqProofs [i_pathOk_b, u1, eq_false g1]
  by_cases g2 : (s.length : Int) ≤ 60
  rotate_left
  · simp -implicitDefEqProofs [i_pathOk_b, u1, eq_true g1, eq_false g2]
  obtain ⟨b, hb0⟩ : ∃ b, s[0]? = some b := ⟨s[0]'(by omega), by simp⟩ 
  by_cases h47 : (b.toNat : Int) = 47 
  all_goals
  simp -implicitDefEqProofs [i_pathOk_b, u1, eq_true g1, eq_true g2, hb0, h47]
  all_goals (repeat' split) <;> first | rfl | omega | (simp_all; done) | (simp_all; omega) | skip
end M
set_option linter.unusedVariables false
set_option linter.unusedSimpArgs false
namespace M
open Go
def lowOut (s : Str) : Str := lowS s
theorem L_s_Lower (s : Str) (hb : s.length ≤ 1073741824) : loopW (evA (ev LI TT) (okT TT) s_Lower_L0) [(0, .str ⟨s.toArray⟩), (3, .row .own 1 (([]).map eU)), (4, .int .i64 0)] = some (.exit 0, [(0, .str ⟨s.toArray⟩), (3, .row .own 1 ((((s).flatMap (fun b => [lowB b]))).map eU)), (4, .int .i64 (s).length), (10, .bool false)]) := by
  refine loop_flat (f := evA (ev LI TT) (okT TT) s_Lower_L0) (s) (fun b => [lowB b]) (fun i out => [(0, .str ⟨s.toArray⟩), (3, .row .own 1 ((out).map eU)), (4, .int .i64 i)]) (fun out => [(0, .str ⟨s.toArray⟩), (3, .row .own 1 ((out).map eU)), (4, .int .i64 (s).length), (10, .bool false)]) (fun i b out hi hl hout => ?_) (fun out hout => ?_)
  · have hw := wrap_succ i (by first | omega | (simp at hl; omega))
    obtain ⟨_, rfl⟩ := List.getElem?_eq_some_iff.1 hi
    have hlo : out.length = i := by rw [hout]; exact flat_one_len _ _ _ (by omega) 
    have hx := s[i].toNat_lt 
    unfold lowB 
    by_cases h1 : 65 ≤ (s[i]).toNat 
    rotate_left 
    · have h1' : ¬ (65 : Int) ≤ (s[i]).toNat := by omega 
      simp -implicitDefEqProofs [s_Lower_L0, s_Lower_L0b, hl, hw, h1, h1', hlo, takeE] 
      omega 
    by_cases h2 : (s[i]).toNat ≤ 90 
    rotate_left 
    · have h1' : (65 : Int) ≤ (s[i]).toNat := by omega 
      have h2' : ¬ ((s[i]).toNat : Int) ≤ 90 := by omega 
      have h2'' : 90 < ((s[i]).toNat : Int) := by omega 
      simp -implicitDefEqProofs [s_Lower_L0, s_Lower_L0b, hl, hw, h1, h1', h2, h2', h2'', hlo, takeE] 
      omega 
    have h1' : (65 : Int) ≤ (s[i]).toNat := by omega 
    have h2' : ((s[i]).toNat : Int) ≤ 90 := by omega 
    have h3 := lowB_add s[i] ⟨h1, h2⟩ 
    have h4 : IntKind.u8.wrap ((s[i]).toNat + 32) = (s[i]).toNat + 32 := wrap8_id (by omega) (by omega)
    simp -implicitDefEqProofs [s_Lower_L0, s_Lower_L0b, hl, hw, h1, h1', h2, h2', hlo, takeE, h3, h4]
    omega
  · simp -implicitDefEqProofs [s_Lower_L0, s_Lower_L0b]
theorem c_s_Lower (s : Str) (hb : s.length ≤ 1073741824) : ev LI TT 106 [.str ⟨s.toArray⟩] = some (.str ⟨(lowS s).toArray⟩, [.dead]) := by
  rw [ev_run (b := s_Lower_b) (rs := [.t 2]) (n := 1) rfl rfl]
  have hl : (lowS s).length = s.length := by simp [lowS] 
  have e : s.flatMap (fun b => [lowB b]) = lowS s := flatMap_one lowB s
  have u1 := L_s_Lower  s hb
  try simp at u1
  simp -implicitDefEqProofs [s_Lower_b, u1, e, hl, rowAt, (by omega : s.length ≤ 9223372036854775807)]
  all_goals (repeat' split) <;> first | rfl | omega | (simp_all; done) | (simp_all; omega) | skip
theorem set_low (s : Str) (i : Nat) (h : i < s.length) (x : UInt8) (hx : x = lowB s[i]) : (lowS (s.take i) ++ s.drop i).set i x = lowS (s.take (i + 1)) ++ s.drop (i + 1) := by
  subst hx
  rw [List.set_append_right _ _ (by simp [lowS]; omega), List.drop_eq_getElem_cons h]
  have : i - (lowS (s.take i)).length = 0 := by simp [lowS]; omega
  rw [this, List.take_succ_eq_append_getElem h]
  simp only [List.set_cons_zero, lowS, List.map_append, List.map_cons, List.map_nil, List.append_assoc, List.cons_append, List.nil_append]
theorem set_same_low (s : Str) (i : Nat) (h : i < s.length) (hx : lowB s[i] = s[i]) : lowS (s.take i) ++ s.drop i = lowS (s.take (i + 1)) ++ s.drop (i + 1) := by
  rw [List.take_succ_eq_append_getElem h, List.drop_eq_getElem_cons h]
  simp only [lowS, hx, List.map_append, List.map_cons, List.map_nil, List.append_assoc, List.cons_append, List.nil_append]
theorem eU_set (l : Str) (i : Nat) (x : Int) (b : UInt8) (hx : x = (b.toNat : Int)) : (l.map eU).modify i (fun e => e.set 0 (X.int .u8 x)) = (l.set i b).map eU := by
  subst hx
  apply List.ext_getElem?
  intro j
  rw [List.getElem?_modify, List.getElem?_map, List.getElem?_map, List.getElem?_set]
  by_cases h : i = j
  · subst h
    by_cases h2 : i < l.length
    · simp [h2]
    · simp [h2, List.getElem?_eq_none (Nat.le_of_not_lt h2)]
  · simp only [h, if_false]
    cases l[j]? <;> rfl
theorem L_i_Lower (s : Str) (hb : s.length ≤ 1073741824) : loopW (evA (ev LI TT) (okT TT) i_Lower_L0) [(3, .row .own 1 ((lowS (s.take 0) ++ s.drop 0).map eU)), (6, .str ⟨s.toArray⟩), (8, .ref 3 []), (9, .int .i64 s.length), (10, .int .i64 0)] = some (.exit 0, [(3, .row .own 1 ((lowS s).map eU)), (6, .str ⟨s.toArray⟩), (8, .ref 3 []), (9, .int .i64 s.length), (10, .int .i64 (s).length), (11, .bool false)]) := by
  refine loop_count (f := evA (ev LI TT) (okT TT) i_Lower_L0) (s) (fun i => [(3, .row .own 1 ((lowS (s.take i) ++ s.drop i).map eU)), (6, .str ⟨s.toArray⟩), (8, .ref 3 []), (9, .int .i64 s.length), (10, .int .i64 i)]) _ (fun i b hi hl => ?_) ?_
  · have hw := wrap_succ i (by first | omega | (simp at hl; omega))
    obtain ⟨_, rfl⟩ := List.getElem?_eq_some_iff.1 hi
    have hk : (lowS (s.take i) ++ s.drop i).length = s.length := by simp [lowS]; omega 
    have hx := s[i].toNat_lt 
    have hg : (lowS (s.take i) ++ s.drop i)[i]? = some s[i] := by rw [List.getElem?_append_right (by simp [lowS]; omega)]; simp [lowS, Nat.min_eq_left (Nat.le_of_lt hl)] 
    have hg' : ∀ h, (lowS (s.take i) ++ s.drop i)[i]'h = s[i] := fun h => by rw [List.getElem?_eq_getElem h] at hg; exact Option.some.inj hg 
    generalize hq : lowS (s.take i) ++ s.drop i = q at hk hg hg' ⊢ 
    have hlq : i < q.length := by omega 
    by_cases h1 : 65 ≤ (s[i]).toNat 
    rotate_left 
    · have h1' : ¬ (65 : Int) ≤ (s[i]).toNat := by omega 
      have e := set_same_low s i hl (by unfold lowB; rw [if_neg (by omega)]) 
      rw [hq] at e 
      simp -implicitDefEqProofs [i_Lower_L0, i_Lower_L0b, hl, hw, hg, hg', hlq, h1', ← e] 
    by_cases h2 : (s[i]).toNat ≤ 90 
    rotate_left 
    · have h1' : (65 : Int) ≤ (s[i]).toNat := by omega 
      have h2'' : 90 < ((s[i]).toNat : Int) := by omega 
      have h2' : ¬ ((s[i]).toNat : Int) ≤ 90 := by omega 
      have e := set_same_low s i hl (by unfold lowB; rw [if_neg (by omega)]) 
      rw [hq] at e 
      simp -implicitDefEqProofs [i_Lower_L0, i_Lower_L0b, hl, hw, hg, hg', hlq, h1', h2', h2'', ← e] 
    have h1' : (65 : Int) ≤ (s[i]).toNat := by omega 
    have h2' : ((s[i]).toNat : Int) ≤ 90 := by omega 
    have h3 := lowB_add s[i] ⟨h1, h2⟩ 
    have h4 : IntKind.u8.wrap ((s[i]).toNat + 32) = (s[i]).toNat + 32 := wrap8_id (by omega) (by omega) 
    have e := set_low s i hl (s[i] + 32) (by unfold lowB; rw [if_pos ⟨h1, h2⟩]) 
    rw [hq] at e 
    have e2 := eU_set q i _ (s[i] + 32) (show ((s[i]).toNat : Int) + 32 = _ by rw [h3]; rfl) 
    rw [e] at e2
    simp -implicitDefEqProofs [i_Lower_L0, i_Lower_L0b, hl, hw, hg, hg', hlq, h1', h2', h4, e2]
    all_goals (repeat' split) <;> first | rfl | omega | (simp_all; done) | (simp_all; omega) | skip
  · simp only [List.take_length, List.drop_length, List.append_nil] 
    simp -implicitDefEqProofs [i_Lower_L0, i_Lower_L0b]
theorem c_i_Lower (s : Str) (hb : s.length ≤ 1073741824) : ev LI TT 143 [.str ⟨s.toArray⟩] = some (.str ⟨(lowS s).toArray⟩, [.dead]) := by
  rw [ev_run (b := i_Lower_b) (rs := [.t 2]) (n := 1) rfl rfl]
  have hl : (lowS s).length = s.length := by simp [lowS] 
  have e0 : lowS (s.take 0) ++ s.drop 0 = s := by simp [lowS]
  have u1 := L_i_Lower  s hb
  try simp at u1
  simp -implicitDefEqProofs [i_Lower_b, u1, hl, rowAt, (by omega : s.length ≤ 9223372036854775807)]
  all_goals (repeat' split) <;> first | rfl | omega | (simp_all; done) | (simp_all; omega) | skip
@[simp] theorem c_s_l1Min (x : Int) (y : Int) : ev LI TT 108 [.int .i64 x, .int .i64 y] = some (.int .i64 ((if x < y then x else y)), [.dead, .dead]) := by
  rw [ev_run (b := s_l1Min_b) (rs := [.t 4]) (n := 2) rfl rfl]
  simp -implicitDefEqProofs [s_l1Min_b]
  all_goals (repeat' split) <;> first | rfl | omega | (simp_all; done) | (simp_all; omega) | skip
end M
set_option linter.unusedVariables false
set_option linter.unusedSimpArgs false
namespace M
open Go
theorem L_s_NumText (n : Nat) (out : Str) (hn : out.length + n ≤ 9223372036854775807) : loopW (evA (ev LI TT) (okT TT) s_NumText_L0) [(0, .int .i64 n), (3, .str ⟨out.toArray⟩)] = some (.exit 0, [(0, .int .i64 0), (3, .str ⟨(markD n out).toArray⟩), (10, .bool false)]) := by
  have hs : ∀ s, evA (ev LI TT) (okT TT) s_NumText_L0 s = evA (ev LI TT) (okT TT) s_NumText_L0b s := fun _ => rfl
  induction n using Nat.strongRecOn generalizing out with
  | ind n ih =>
    rw [loopW_eq, hs]
    unfold markD
    by_cases h : n = 0
    · subst h
      simp -implicitDefEqProofs [s_NumText_L0b]
    · have hp : 0 < n := by omega
      have := ih (n / 10) (by omega) (UInt8.ofNat (48 + n % 10) :: out) (by rw [List.length_cons]; omega)
      have e1 : ((n : Int)).tmod 10 = ((n % 10 : Nat) : Int) := by rw [Int.tmod_eq_emod_of_nonneg (by omega)]; omega
      have e4 : ((n : Int)).tdiv 10 = ((n / 10 : Nat) : Int) := by rw [Int.tdiv_eq_ediv_of_nonneg (by omega)]; omega
      have e2 : IntKind.i64.wrap (48 + ((n % 10 : Nat) : Int)) = ((48 + n % 10 : Nat) : Int) := by rw [wrap_id (by omega) (by omega)]; omega
      have e3 : IntKind.u8.wrap ((48 + n % 10 : Nat) : Int) = ((48 + n % 10 : Nat) : Int) := wrap8_id' (by omega) (by omega)
      have e5 := u8s_one' (48 + n % 10) (by omega)
      have e6 : IntKind.i64.wrap ((n / 10 : Nat) : Int) = ((n / 10 : Nat) : Int) := wrap_id (by omega) (by omega)
      simp only [h, dite_false]
      rw [← this]
      simp -implicitDefEqProofs [s_NumText_L0b, hp, litB, e1, e2, e3, e4, e5, e6, -Int.natCast_emod, -Int.natCast_ediv, -Int.natCast_add, -UInt8.ofNat_add, str_append, (by omega : 1 + out.length ≤ 9223372036854775807)]
theorem c_s_NumText (n : Int) : ev LI TT 33 [.int .i64 n] = some (.str ⟨(numText n).toArray⟩, [.dead]) := by
  rw [ev_run (b := s_NumText_b) (rs := [.t 2]) (n := 1) rfl rfl]
  unfold numText 
  by_cases hn : 0 ≤ n ∧ n ≤ 1000000 
  rotate_left 
  · have hf : (decide (0 ≤ n) && decide (n ≤ 1000000)) = false := by simp; omega 
    simp -implicitDefEqProofs [s_NumText_b, hn, hf] 
  obtain ⟨k, rfl⟩ : ∃ k : Nat, n = k := ⟨n.toNat, by omega⟩ 
  by_cases h : k = 0 
  · subst h; simp -implicitDefEqProofs [s_NumText_b, digS_zero] 
  have h1 := L_s_NumText k [] (by simp; omega) 
  rw [markD_dig k [] h, List.append_nil] at h1
  simp -implicitDefEqProofs [s_NumText_b, hn, h, h1]
  all_goals (repeat' split) <;> first | rfl | omega | (simp_all; done) | (simp_all; omega) | skip
theorem numText_len (n : Int) : (numText n).length ≤ 7 := by
  unfold numText
  split
  · exact digS_len7 _ (by omega)
  · simp
theorem L_s_NumRead0 (s : Str) (hb : s.length ≤ 7) (hd : allB digB s = true) (g : Nat) (hinv : g < 10 ^ 0) : loopW (evA (ev LI TT) (okT TT) s_NumRead_L0) [(0, .str ⟨s.toArray⟩), (4, .int .i64 (g : Nat)), (5, .int .i64 0)] = some (.exit 0, [(0, .str ⟨s.toArray⟩), (4, .int .i64 ((foldI (fun _ g b => 10 * g + b.toNat - 48) 0 (s) g) : Nat)), (5, .int .i64 (s).length), (16, .bool false)]) := by
  refine loop_foldI (f := evA (ev LI TT) (okT TT) s_NumRead_L0) (s) (fun i (g : Nat) => [(0, .str ⟨s.toArray⟩), (4, .int .i64 (g : Nat)), (5, .int .i64 i)]) (fun _ g b => 10 * g + b.toNat - 48) (fun g => [(0, .str ⟨s.toArray⟩), (4, .int .i64 (g : Nat)), (5, .int .i64 (s).length), (16, .bool false)]) (fun i (g : Nat) => g < 10 ^ i) g hinv (fun i b g hi hl hinv => ?_) (fun i b g hi hinv => ?_) (fun g hinv => ?_)
  · have hw := wrap_succ i (by first | omega | (simp at hl; omega))
    obtain ⟨_, rfl⟩ := List.getElem?_eq_some_iff.1 hi
    have hx := allB_iff.1 hd s[i] (List.getElem_mem hl) 
    simp only [digB, decide_eq_true_eq] at hx 
    have hp : 10 ^ i ≤ 10 ^ 6 := Nat.pow_le_pow_right (by omega) (by omega) 
    have h1 : ¬ ((s[i]).toNat : Int) < 48 := by omega 
    have h2 : ¬ 57 < ((s[i]).toNat : Int) := by omega 
    have e1 : IntKind.i64.wrap (10 * (g : Int)) = 10 * g := wrap_id (by omega) (by omega) 
    have e0 : IntKind.i64.wrap ((s[i]).toNat : Int) = (s[i]).toNat := wrap_id (by omega) (by omega) 
    have e2 : IntKind.i64.wrap (10 * (g : Int) + (s[i]).toNat) = 10 * g + (s[i]).toNat := wrap_id (by omega) (by omega) 
    have e3 : IntKind.i64.wrap (10 * (g : Int) + (s[i]).toNat - 48) = ((10 * g + (s[i]).toNat - 48 : Nat) : Int) := by rw [wrap_id (by omega) (by omega)]; omega
    simp -implicitDefEqProofs [s_NumRead_L0, s_NumRead_L0b, hl, hw, h1, h2, e0, e1, e2, e3]
  · obtain ⟨hl, rfl⟩ := List.getElem?_eq_some_iff.1 hi 
    have hx := allB_iff.1 hd s[i] (List.getElem_mem hl) 
    simp only [digB, decide_eq_true_eq] at hx 
    rw [Nat.pow_succ]; omega
  · simp -implicitDefEqProofs [s_NumRead_L0, s_NumRead_L0b]
theorem L_s_NumRead1 (s : Str) (hb : s.length ≤ 7) (hd : ¬ allB digB s = true) : loopW (evA (ev LI TT) (okT TT) s_NumRead_L0) [(0, .str ⟨s.toArray⟩), (4, .int .i64 0), (5, .int .i64 0)] = some (.ret, [(2, .int .i64 0), (3, .bool false)]) := by
  have key := loop_list (xt := 0) (f := evA (ev LI TT) (okT TT) s_NumRead_L0) s (fun i (g : Nat) => [(0, .str ⟨s.toArray⟩), (4, .int .i64 (g : Int)), (5, .int .i64 i)]) (fun b g => if digB b = true then .inl (10 * g + b.toNat - 48) else .inr (.ret, [(2, .int .i64 0), (3, .bool false)])) (fun g => [(0, .str ⟨s.toArray⟩), (4, .int .i64 (g : Int)), (5, .int .i64 s.length), (16, .bool false)]) (fun i g => g < 10 ^ i) 0 (by decide) (fun i b g hi hl hinv => ?_) (fun i b g g' hi hinv hg => ?_) (fun g hg => ?_)
  · have hr : ∀ (r : Str) (g : Nat), ¬ allB digB r = true → runL (fun (b : UInt8) (g : Nat) => if digB b = true then (.inl (10 * g + b.toNat - 48) : Nat ⊕ (Ex × Slots)) else .inr (.ret, [(2, .int .i64 0), (3, .bool false)])) r g = .inr (.ret, [(2, .int .i64 0), (3, .bool false)]) := by
      intro r
      induction r with
      | nil => intro g h; exact absurd rfl h
      | cons b r ih =>
        intro g h
        simp only [runL]
        by_cases hb : digB b = true
        · simp only [hb, if_true]
          exact ih _ fun h' => h (by rw [allB_iff] at h' ⊢; intro x hx; rcases List.mem_cons.1 hx with rfl | hx; exact hb; exact h' x hx)
        · simp [hb]
    rw [hr s 0 hd] at key
    simpa [lv] using key
  · have hw := wrap_succ i (by omega)
    obtain ⟨_, rfl⟩ := List.getElem?_eq_some_iff.1 hi
    by_cases h : digB s[i] = true
    · have hx := h
      simp only [digB, decide_eq_true_eq] at hx
      have hp : 10 ^ i ≤ 10 ^ 6 := Nat.pow_le_pow_right (by omega) (by omega)
      have h1 : ¬ ((s[i]).toNat : Int) < 48 := by omega
      have h2 : ¬ 57 < ((s[i]).toNat : Int) := by omega
      have e1 : IntKind.i64.wrap (10 * (g : Int)) = 10 * g := wrap_id (by omega) (by omega)
      have e0 : IntKind.i64.wrap ((s[i]).toNat : Int) = (s[i]).toNat := wrap_id (by omega) (by omega)
      have e2 : IntKind.i64.wrap (10 * (g : Int) + (s[i]).toNat) = 10 * g + (s[i]).toNat := wrap_id (by omega) (by omega)
      have e3 : IntKind.i64.wrap (10 * (g : Int) + (s[i]).toNat - 48) = ((10 * g + (s[i]).toNat - 48 : Nat) : Int) := by rw [wrap_id (by omega) (by omega)]; omega
      simp -implicitDefEqProofs [s_NumRead_L0, s_NumRead_L0b, hl, hw, h, h1, h2, e0, e1, e2, e3]
    · have hx := h
      simp only [digB, decide_eq_true_eq] at hx
      by_cases h1 : ((s[i]).toNat : Int) < 48
      · simp -implicitDefEqProofs [s_NumRead_L0, s_NumRead_L0b, hl, hw, h, h1, lv]
      · have h2 : 57 < ((s[i]).toNat : Int) := by omega
        simp -implicitDefEqProofs [s_NumRead_L0, s_NumRead_L0b, hl, hw, h, h1, h2, lv]
  · obtain ⟨hl, rfl⟩ := List.getElem?_eq_some_iff.1 hi
    split at hg
    · rename_i hx
      simp only [digB, decide_eq_true_eq] at hx
      injection hg with hg
      rw [Nat.pow_succ]; omega
    · cases hg
  · simp -implicitDefEqProofs [s_NumRead_L0, s_NumRead_L0b]
theorem foldI_foldl {β γ : Type} (go : γ → β → γ) : ∀ (l : List β) (i : Nat) (g : γ), foldI (fun _ g b => go g b) i l g = l.foldl go g
  | [], _, _ => rfl
  | b :: l, i, g => by rw [foldI, foldI_foldl go l, List.foldl_cons]
theorem c_s_NumRead (s : Str) (hb : s.length ≤ 9223372036854775807) : ev LI TT 138 [.str ⟨s.toArray⟩] = some (.tup [.int .i64 ((((numRead s).getD 0 : Nat) : Int)), .bool ((numRead s).isSome)], [.dead]) := by
  rw [ev_run (b := s_NumRead_b) (rs := [.t 2, .t 3]) (n := 1) rfl rfl]
  by_cases h7 : 7 < s.length 
  · have h7' : 7 < (s.length : Int) := by omega 
    have hn : ¬ s = [] := by rintro rfl; simp at h7 
    simp -implicitDefEqProofs [s_NumRead_b, numRead_long s h7, h7', hn] 
  have h7' : ¬ 7 < (s.length : Int) := by omega 
  rw [numRead_eq s (by omega)] 
  by_cases h0 : s = [] 
  · subst h0; simp -implicitDefEqProofs [s_NumRead_b] 
  by_cases hd : allB digB s = true 
  rotate_left 
  · have u1 := L_s_NumRead1 s (by omega) hd 
    simp -implicitDefEqProofs [s_NumRead_b, h7', h0, hd, u1] 
  have u1 := L_s_NumRead0 s (by omega) hd 0 (by decide) 
  rw [show foldI (fun _ (g : Nat) (b : UInt8) => 10 * g + b.toNat - 48) 0 s 0 = valS s from foldI_foldl _ s 0 0] at u1 
  simp only [Int.ofNat_zero] at u1 
  have u2 := c_s_NumText (valS s) 
  by_cases ht : numText (valS s) = s 
  rotate_left 
  · simp -implicitDefEqProofs [s_NumRead_b, h7', h0, hd, u1, u2, eq_false ht]
  simp -implicitDefEqProofs [s_NumRead_b, h7', h0, hd, u1, u2, eq_true ht]
  all_goals (repeat' split) <;> first | rfl | omega | (simp_all; done) | (simp_all; omega) | skip
end M
set_option linter.unusedVariables false
set_option linter.unusedSimpArgs false
namespace M
open Go
def spF (w : Str) : List Str := if trimS w ≠ [] then [trimS w] else []
theorem opt_cases (s : Str) (i : Nat) (h : i < (s.map some ++ [none]).length) : (∃ hi : i < s.length, (s.map some ++ [none])[i] = some s[i]) ∨ (i = s.length ∧ (s.map some ++ [none])[i] = none) := by
  by_cases hi : i < s.length
  · refine .inl ⟨hi, ?_⟩
    rw [List.getElem_append_left (by simpa using hi)]
    simp
  · simp at h
    obtain rfl : i = s.length := by omega
    refine .inr ⟨rfl, ?_⟩
    rw [List.getElem_append_right (by simp)]
    simp
theorem spF_len (w : Str) : (spF w).length ≤ 1 := by unfold spF; split <;> simp
theorem goW_inv (c : UInt8) (f : Str → List Str) (hf : ∀ w, (f w).length ≤ 1) (s : Str) (i : Nat) (g : List Str × Nat) (b : Option UInt8) (h : g.2 ≤ i ∧ g.1.length ≤ i) : (goW c f s i g b).2 ≤ i + 1 ∧ (goW c f s i g b).1.length ≤ i + 1 := by
  unfold goW
  have := hf ((s.take i).drop g.2)
  split
  · split
    · simp; omega
    · omega
  · simp; omega
theorem L_s_Split (s : Str) (hb : s.length ≤ 1073741824) (g : List Str × Nat) (hinv : g.2 ≤ 0 ∧ g.1.length ≤ 0) : loopW (evA (ev LI TT) (okT TT) s_Split_L0) [(0, .str ⟨s.toArray⟩), (3, .row .own 1 ((g).1.map eS)), (4, .int .i64 ((g).2 : Nat)), (5, .int .i64 0)] = some (.exit 0, [(0, .str ⟨s.toArray⟩), (3, .row .own 1 (((foldI (goW 44 spF s) 0 (s.map some ++ [none]) g)).1.map eS)), (4, .int .i64 (((foldI (goW 44 spF s) 0 (s.map some ++ [none]) g)).2 : Nat)), (5, .int .i64 (s.map some ++ [none]).length), (11, .bool false)]) := by
  refine loop_foldI (f := evA (ev LI TT) (okT TT) s_Split_L0) (s.map some ++ [none]) (fun i (g : List Str × Nat) => [(0, .str ⟨s.toArray⟩), (3, .row .own 1 ((g).1.map eS)), (4, .int .i64 ((g).2 : Nat)), (5, .int .i64 i)]) (goW 44 spF s) (fun g => [(0, .str ⟨s.toArray⟩), (3, .row .own 1 ((g).1.map eS)), (4, .int .i64 ((g).2 : Nat)), (5, .int .i64 (s.map some ++ [none]).length), (11, .bool false)]) (fun i (g : List Str × Nat) => g.2 ≤ i ∧ g.1.length ≤ i) g hinv (fun i b g hi hl hinv => ?_) (fun i b g hi hinv => ?_) (fun g hinv => ?_)
  · have hw := wrap_succ i (by first | omega | (simp at hl; omega))
    obtain ⟨_, rfl⟩ := List.getElem?_eq_some_iff.1 hi
    have hlz : (g.1.length + 1) * 16 ≤ 140737488355328 := by simp at hl; omega 
    have h44 : ∀ b : UInt8, ((b.toNat : Int) = 44) ↔ b = 44 := fun b => ⟨fun h => UInt8.toNat_inj.1 (by have e : (44 : UInt8).toNat = 44 := rfl; omega), fun h => by subst h; rfl⟩ 
    rcases opt_cases s i hl with ⟨hi', e⟩ | ⟨rfl, e⟩ 
    · rw [e] 
      have k1 : (i : Int) ≤ s.length := by omega 
      have k2 : i ≤ s.length := by omega 
      have hc := c_s_Trim ((s.drop g.2).take (i - g.2)) (by simp; omega) 
      by_cases hx : s[i] = 44 
      rotate_left 
      · have hx' := mt (h44 s[i]).1 hx 
        simp -implicitDefEqProofs [s_Split_L0, s_Split_L0b, k1, k2, hi', hw, goW, hx, hx'] 
      have hx' := (h44 s[i]).2 hx 
      have e3 : (s.take i).drop g.2 = (s.drop g.2).take (i - g.2) := List.drop_take .. 
      by_cases ht : trimS ((s.drop g.2).take (i - g.2)) = [] 
      · simp -implicitDefEqProofs [s_Split_L0, s_Split_L0b, k1, k2, hi', hw, goW, eq_true hx, hx', hinv, hc, Lib.extract_mk, spF, e3, eq_true ht] 
      · simp -implicitDefEqProofs [s_Split_L0, s_Split_L0b, k1, k2, hi', hw, goW, eq_true hx, hx', hinv, hc, Lib.extract_mk, spF, e3, eq_false ht, takeE, hlz] 
    rw [e] 
    have hc := c_s_Trim ((s.drop g.2).take (s.length - g.2)) (by simp; omega) 
    have e3 : (s.take s.length).drop g.2 = (s.drop g.2).take (s.length - g.2) := List.drop_take .. 
    by_cases ht : trimS ((s.drop g.2).take (s.length - g.2)) = [] 
    · simp only [goW, e3, spF, eq_true ht] 
      simp -implicitDefEqProofs [s_Split_L0, s_Split_L0b, hw, hinv, hc, Lib.extract_mk, eq_true ht] 
    simp only [goW, e3, spF, eq_false ht]
    simp -implicitDefEqProofs [s_Split_L0, s_Split_L0b, hl, hw, hinv, hc, Lib.extract_mk, eq_false ht, takeE, hlz]
  · exact goW_inv 44 spF spF_len s i g b hinv
  · have hfin : ¬ ((s.length : Int) + 1 ≤ s.length) := by omega 
    simp -implicitDefEqProofs [s_Split_L0, s_Split_L0b, hfin]
theorem c_s_Split (s : Str) (hb : s.length ≤ 1073741824) : ev LI TT 105 [.str ⟨s.toArray⟩] = some (.row .own 1 ((wordsC s).map eS), [.dead]) := by
  rw [ev_run (b := s_Split_b) (rs := [.t 2]) (n := 1) rfl rfl]
  have u1 := L_s_Split s hb ([], 0) ⟨by omega, by simp⟩ 
  rw [foldSplit, show (splitC 44 s).flatMap spF = wordsC s from (wordsC_eq s).symm] at u1 
  simp at u1
  simp -implicitDefEqProofs [s_Split_b, u1]
  all_goals (repeat' split) <;> first | rfl | omega | (simp_all; done) | (simp_all; omega) | skip
theorem L_i_Split (s : Str) (ws : List Str) (hb : ∀ w ∈ ws, w.length ≤ 1073741824) (hl0 : ws.length ≤ 1073741825) : loopW (evA (ev LI TT) (okT TT) i_Split_L0) [(3, .row .own 1 (([]).map eS)), (8, .row .own 1 (ws.map eS)), (9, .int .i64 ws.length), (10, .int .i64 0)] = some (.exit 0, [(3, .row .own 1 ((((ws).flatMap spF)).map eS)), (8, .row .own 1 (ws.map eS)), (9, .int .i64 ws.length), (10, .int .i64 (ws).length), (11, .bool false)]) := by
  refine loop_flat (f := evA (ev LI TT) (okT TT) i_Split_L0) (ws) spF (fun i out => [(3, .row .own 1 ((out).map eS)), (8, .row .own 1 (ws.map eS)), (9, .int .i64 ws.length), (10, .int .i64 i)]) (fun out => [(3, .row .own 1 ((out).map eS)), (8, .row .own 1 (ws.map eS)), (9, .int .i64 ws.length), (10, .int .i64 (ws).length), (11, .bool false)]) (fun i b out hi hl hout => ?_) (fun out hout => ?_)
  · have hw := wrap_succ i (by first | omega | (simp at hl; omega))
    obtain ⟨_, rfl⟩ := List.getElem?_eq_some_iff.1 hi
    have hlo : out.length ≤ i := by rw [hout]; exact flat_le_len spF spF_len ws i 
    have hlz : (out.length + 1) * 16 ≤ 140737488355328 := by omega 
    have hc := c_i_Trim ws[i] (by have := hb _ (List.getElem_mem hl); omega) 
    unfold spF 
    by_cases ht : trimS ws[i] = [] 
    · simp -implicitDefEqProofs [i_Split_L0, i_Split_L0b, hl, hw, hc, eq_true ht]
    simp -implicitDefEqProofs [i_Split_L0, i_Split_L0b, hl, hw, hc, eq_false ht, takeE, hlz]
  · simp -implicitDefEqProofs [i_Split_L0, i_Split_L0b]
theorem c_i_Split (s : Str) (hb : s.length ≤ 1073741824) : ev LI TT 141 [.str ⟨s.toArray⟩] = some (.row .own 1 ((wordsC s).map eS), [.dead]) := by
  rw [ev_run (b := i_Split_b) (rs := [.t 2]) (n := 1) rfl rfl]
  rw [wordsC_eq s, show (fun w => if trimS w ≠ [] then [trimS w] else []) = spF from rfl]
  have u1 := c_x_strings_Split  s 44 (by omega)
  try simp at u1
  have u2 := L_i_Split  s (splitC 44 s) (fun w hw => by have := splitC_mem 44 s w hw; omega) (by have := splitC_len 44 s; omega)
  try simp at u2
  simp -implicitDefEqProofs [i_Split_b, u1, u2]
  all_goals (repeat' split) <;> first | rfl | omega | (simp_all; done) | (simp_all; omega) | skip
end M
set_option linter.unusedVariables false
set_option linter.unusedSimpArgs false
namespace M
open Go
theorem L_s_l2At (fs : List Fld) (n : Str) (hb : fs.length ≤ 9223372036854775807) : loopW (evA (ev LI TT) (okT TT) s_l2At_L0) [(0, .row .bor 2 (fs.map eFld)), (1, .str ⟨n.toArray⟩), (5, .int .i64 0)] = (firstI (fun f => decide (f.name = n)) 0 (fs)).elim (some (.exit 0, [(0, .row .bor 2 (fs.map eFld)), (1, .str ⟨n.toArray⟩), (5, .int .i64 (fs).length), (9, .bool false)])) fun x => some (.ret, (fun (i : Nat) b => [(4, .int .i64 i)]) x.1 x.2) := by
  refine loop_first (f := evA (ev LI TT) (okT TT) s_l2At_L0) (fs) (fun i => [(0, .row .bor 2 (fs.map eFld)), (1, .str ⟨n.toArray⟩), (5, .int .i64 i)]) (fun f => decide (f.name = n)) (fun (i : Nat) b => [(4, .int .i64 i)]) _ (fun i b hi hl => ?_) ?_
  · have hw := wrap_succ i (by first | omega | (simp at hl; omega))
    obtain ⟨_, rfl⟩ := List.getElem?_eq_some_iff.1 hi
    simp -implicitDefEqProofs [s_l2At_L0, s_l2At_L0b, hl, hw]
  · simp -implicitDefEqProofs [s_l2At_L0, s_l2At_L0b]
theorem c_s_l2At (fs : List Fld) (n : Str) (hb : fs.length ≤ 9223372036854775807) : ev LI TT 104 [.row .bor 2 (fs.map eFld), .str ⟨n.toArray⟩] = some (.int .i64 (atI (atF fs n)), [.dead, .dead]) := by
  rw [ev_run (b := s_l2At_b) (rs := [.t 4]) (n := 2) rfl rfl]
  have h := L_s_l2At  fs n hb 
  rw [show firstI (fun f => decide (f.name = n)) 0 fs = atF fs n from rfl] at h 
  simp at h 
  cases g : atF fs n with 
  | none => rw [g] at h; simp at h; simp -implicitDefEqProofs [s_l2At_b, h, atI] 
  | some x => 
  rw [g] at h 
  simp at h
  simp -implicitDefEqProofs [s_l2At_b, h, atI]
  all_goals (repeat' split) <;> first | rfl | omega | (simp_all; done) | (simp_all; omega) | skip
theorem c_s_Get (fs : List Fld) (n : Str) (hb : fs.length ≤ 9223372036854775807) : ev LI TT 59 [.row .bor 2 (fs.map eFld), .str ⟨n.toArray⟩] = some (.tup [.str ⟨((gtF fs n).getD []).toArray⟩, .bool (gtF fs n).isSome], [.dead, .dead]) := by
  rw [ev_run (b := s_Get_b) (rs := [.t 4, .t 5]) (n := 2) rfl rfl]
  have h := c_s_l2At  fs n hb 
  unfold gtF 
  cases g : atF fs n with 
  | none => rw [g] at h; simp [atI] at h; simp -implicitDefEqProofs [s_Get_b, h] 
  | some x => 
  obtain ⟨i, b⟩ := x 
  rw [g] at h 
  obtain ⟨h1, h2, h3⟩ := firstI_some g 
  simp at h2 
  simp [atI] at h 
  have hi : i < fs.length := (List.getElem?_eq_some_iff.1 h2).1 
  obtain ⟨_, rfl⟩ := List.getElem?_eq_some_iff.1 h2
  simp -implicitDefEqProofs [s_Get_b, h, hi]
  all_goals (repeat' split) <;> first | rfl | omega | (simp_all; done) | (simp_all; omega) | skip
theorem c_i_fieldAt_1 (f : Fld) (n : Str) : ev LI TT 150 [.agg (eFld f), .ptr .bor [.str ⟨n.toArray⟩]] = some (.bool (decide (f.name = n)), [.dead, .dead]) := by
  rw [ev_run (b := i_fieldAt_1_b) (rs := [.t 3]) (n := 2) rfl rfl]
  simp -implicitDefEqProofs [i_fieldAt_1_b]
  all_goals (repeat' split) <;> first | rfl | omega | (simp_all; done) | (simp_all; omega) | skip
theorem L_x_slices_IndexFunc_impl_Field_impl_Field (fs : List Fld) (n : Str) (hb : fs.length ≤ 9223372036854775807) : loopW (evA (ev LI TT) (okT TT) x_slices_IndexFunc_impl_Field_impl_Field_L0) [(0, .row .bor 2 (fs.map eFld)), (1, .fn 150 [.ptr .bor [.str ⟨n.toArray⟩]]), (7, .int .i64 fs.length), (8, .int .i64 0)] = (firstI (fun f => decide (f.name = n)) 0 (fs)).elim (some (.exit 0, [(0, .row .bor 2 (fs.map eFld)), (1, .fn 150 [.ptr .bor [.str ⟨n.toArray⟩]]), (7, .int .i64 fs.length), (8, .int .i64 (fs).length), (9, .bool false)])) fun x => some (.ret, (fun (i : Nat) b => [(4, .int .i64 i)]) x.1 x.2) := by
  refine loop_first (f := evA (ev LI TT) (okT TT) x_slices_IndexFunc_impl_Field_impl_Field_L0) (fs) (fun i => [(0, .row .bor 2 (fs.map eFld)), (1, .fn 150 [.ptr .bor [.str ⟨n.toArray⟩]]), (7, .int .i64 fs.length), (8, .int .i64 i)]) (fun f => decide (f.name = n)) (fun (i : Nat) b => [(4, .int .i64 i)]) _ (fun i b hi hl => ?_) ?_
  · have hw := wrap_succ i (by first | omega | (simp at hl; omega))
    obtain ⟨_, rfl⟩ := List.getElem?_eq_some_iff.1 hi
    have ho : okT TT 150 = true := rfl 
    have hf := c_i_fieldAt_1  fs[i] n 
    simp at hf
    simp -implicitDefEqProofs [x_slices_IndexFunc_impl_Field_impl_Field_L0, x_slices_IndexFunc_impl_Field_impl_Field_L0b, hl, hw, ho, isFn, hf]
  · simp -implicitDefEqProofs [x_slices_IndexFunc_impl_Field_impl_Field_L0, x_slices_IndexFunc_impl_Field_impl_Field_L0b]
theorem c_x_slices_IndexFunc_impl_Field_impl_Field (fs : List Fld) (n : Str) (hb : fs.length ≤ 9223372036854775807) : ev LI TT 149 [.row .bor 2 (fs.map eFld), .fn 150 [.ptr .bor [.str ⟨n.toArray⟩]]] = some (.int .i64 (atI (atF fs n)), [.dead, .dead]) := by
  rw [ev_run (b := x_slices_IndexFunc_impl_Field_impl_Field_b) (rs := [.t 4]) (n := 2) rfl rfl]
  have h := L_x_slices_IndexFunc_impl_Field_impl_Field  fs n hb 
  rw [show firstI (fun f => decide (f.name = n)) 0 fs = atF fs n from rfl] at h 
  simp at h 
  cases g : atF fs n with 
  | none => rw [g] at h; simp at h; simp -implicitDefEqProofs [x_slices_IndexFunc_impl_Field_impl_Field_b, h, atI] 
  | some x => 
  rw [g] at h 
  simp at h
  simp -implicitDefEqProofs [x_slices_IndexFunc_impl_Field_impl_Field_b, h, atI]
  all_goals (repeat' split) <;> first | rfl | omega | (simp_all; done) | (simp_all; omega) | skip
theorem c_i_fieldAt (fs : List Fld) (n : Str) (hb : fs.length ≤ 9223372036854775807) : ev LI TT 140 [.row .bor 2 (fs.map eFld), .str ⟨n.toArray⟩] = some (.int .i64 (atI (atF fs n)), [.dead, .dead]) := by
  rw [ev_run (b := i_fieldAt_b) (rs := [.t 4]) (n := 2) rfl rfl]
  have h := c_x_slices_IndexFunc_impl_Field_impl_Field  fs n hb
  simp -implicitDefEqProofs [i_fieldAt_b, h, resAL, resA]
  all_goals (repeat' split) <;> first | rfl | omega | (simp_all; done) | (simp_all; omega) | skip
theorem c_i_Get (fs : List Fld) (n : Str) (hb : fs.length ≤ 9223372036854775807) : ev LI TT 111 [.row .bor 2 (fs.map eFld), .str ⟨n.toArray⟩] = some (.tup [.str ⟨((gtF fs n).getD []).toArray⟩, .bool (gtF fs n).isSome], [.dead, .dead]) := by
  rw [ev_run (b := i_Get_b) (rs := [.t 4, .t 5]) (n := 2) rfl rfl]
  have h := c_i_fieldAt  fs n hb 
  unfold gtF 
  cases g : atF fs n with 
  | none => rw [g] at h; simp [atI] at h; simp -implicitDefEqProofs [i_Get_b, h] 
  | some x => 
  obtain ⟨i, b⟩ := x 
  rw [g] at h 
  obtain ⟨h1, h2, h3⟩ := firstI_some g 
  simp at h2 
  simp [atI] at h 
  have hi : i < fs.length := (List.getElem?_eq_some_iff.1 h2).1 
  obtain ⟨_, rfl⟩ := List.getElem?_eq_some_iff.1 h2
  simp -implicitDefEqProofs [i_Get_b, h, hi]
  all_goals (repeat' split) <;> first | rfl | omega | (simp_all; done) | (simp_all; omega) | skip
end M
set_option linter.unusedVariables false
set_option linter.unusedSimpArgs false
namespace M
open Go
theorem nmCL_eq : (⟨#[99, 111, 110, 116, 101, 110, 116, 45, 108, 101, 110, 103, 116, 104]⟩ : ByteArray) = ⟨nmCL.toArray⟩ := rfl
theorem L_s_FieldsOk (fs : List Fld) (hb : wL wFld fs ≤ 1073741824) : loopW (evA (ev LI TT) (okT TT) s_FieldsOk_L0) [(0, .row .bor 2 (fs.map eFld)), (3, .int .i64 0)] = if allB (fldP fs) (fs.zipIdx) = true then some (.exit 0, [(0, .row .bor 2 (fs.map eFld)), (3, .int .i64 (fs.zipIdx).length), (7, .bool false)]) else some (.ret, [(2, .bool false)]) := by
  refine loop_all (f := evA (ev LI TT) (okT TT) s_FieldsOk_L0) (fs.zipIdx) (fun i => [(0, .row .bor 2 (fs.map eFld)), (3, .int .i64 i)]) (fldP fs) _ _ (fun i b hi hl => ?_) ?_
  · have hw := wrap_succ i (by have := wL_len (w := wFld) fs; simp at hl; omega)
    obtain ⟨_, rfl⟩ := List.getElem?_eq_some_iff.1 hi
    simp only [List.length_zipIdx] at hl 
    have hz : fs.zipIdx[i]'(by simpa using hl) = (fs[i], i) := by simp 
    have hm := wFld_mem (List.getElem_mem hl) 
    have hfl := wL_len (w := wFld) fs 
    rw [hz]
    have u1 := c_s_TokenOk  fs[i].name (by omega)
    try simp at u1
    have u2 := c_s_ValueOk  fs[i].value (by omega)
    try simp at u2
    have u3 := c_s_l2At  fs fs[i].name (by omega)
    try simp at u3
    by_cases g1 : tokenOk fs[i].name = true
    rotate_left
    · simp -implicitDefEqProofs [s_FieldsOk_L0, s_FieldsOk_L0b, hl, hw, u1, u2, u3, fldP, g1]
    by_cases g2 : valueOk fs[i].value = true
    rotate_left
    · simp -implicitDefEqProofs [s_FieldsOk_L0, s_FieldsOk_L0b, hl, hw, u1, u2, u3, fldP, g1, g2]
    by_cases g3 : atI (atF fs fs[i].name) = i
    rotate_left
    · simp -implicitDefEqProofs [s_FieldsOk_L0, s_FieldsOk_L0b, hl, hw, u1, u2, u3, fldP, g1, g2, eq_false g3]
    by_cases hcl : fs[i].name = nmCL 
    · simp -implicitDefEqProofs [s_FieldsOk_L0, s_FieldsOk_L0b, hl, hw, u1, u2, u3, g1, g2, eq_true g3, fldP, nmCL_eq, eq_true hcl]
    simp -implicitDefEqProofs [s_FieldsOk_L0, s_FieldsOk_L0b, hl, hw, u1, u2, u3, fldP, g1, g2, eq_true g3, nmCL_eq, eq_false hcl]
    all_goals (repeat' split) <;> first | rfl | omega | (simp_all; done) | (simp_all; omega) | skip
  · simp -implicitDefEqProofs [s_FieldsOk_L0, s_FieldsOk_L0b]
theorem c_s_FieldsOk (fs : List Fld) (hb : wL wFld fs ≤ 1073741824) : ev LI TT 58 [.row .bor 2 (fs.map eFld)] = some (.bool ((fieldsOk fs)), [.dead]) := by
  rw [ev_run (b := s_FieldsOk_b) (rs := [.t 2]) (n := 1) rfl rfl]
  unfold fieldsOk 
  have hfl := wL_len (w := wFld) fs
  have u1 := L_s_FieldsOk  fs hb
  try simp at u1
  simp -implicitDefEqProofs [s_FieldsOk_b, u1]
  all_goals (repeat' split) <;> first | rfl | omega | (simp_all; done) | (simp_all; omega) | skip
theorem L_i_FieldsOk (fs : List Fld) (hb : wL wFld fs ≤ 1073741824) : loopW (evA (ev LI TT) (okT TT) i_FieldsOk_L0) [(0, .row .bor 2 (fs.map eFld)), (5, .row .bor 2 (fs.map eFld)), (6, .int .i64 fs.length), (7, .int .i64 0)] = if allB (fldP fs) (fs.zipIdx) = true then some (.exit 0, [(0, .row .bor 2 (fs.map eFld)), (5, .row .bor 2 (fs.map eFld)), (6, .int .i64 fs.length), (7, .int .i64 (fs.zipIdx).length), (8, .bool false)]) else some (.ret, [(2, .bool false)]) := by
  refine loop_all (f := evA (ev LI TT) (okT TT) i_FieldsOk_L0) (fs.zipIdx) (fun i => [(0, .row .bor 2 (fs.map eFld)), (5, .row .bor 2 (fs.map eFld)), (6, .int .i64 fs.length), (7, .int .i64 i)]) (fldP fs) _ _ (fun i b hi hl => ?_) ?_
  · have hw := wrap_succ i (by have := wL_len (w := wFld) fs; simp at hl; omega)
    obtain ⟨_, rfl⟩ := List.getElem?_eq_some_iff.1 hi
    simp only [List.length_zipIdx] at hl 
    have hz : fs.zipIdx[i]'(by simpa using hl) = (fs[i], i) := by simp 
    have hm := wFld_mem (List.getElem_mem hl) 
    have hfl := wL_len (w := wFld) fs 
    rw [hz]
    have u1 := c_i_TokenOk  fs[i].name (by omega)
    try simp at u1
    have u2 := c_i_ValueOk  fs[i].value (by omega)
    try simp at u2
    have u3 := c_i_fieldAt  fs fs[i].name (by omega)
    try simp at u3
    by_cases g1 : tokenOk fs[i].name = true
    rotate_left
    · simp -implicitDefEqProofs [i_FieldsOk_L0, i_FieldsOk_L0b, hl, hw, u1, u2, u3, fldP, g1]
    by_cases g2 : valueOk fs[i].value = true
    rotate_left
    · simp -implicitDefEqProofs [i_FieldsOk_L0, i_FieldsOk_L0b, hl, hw, u1, u2, u3, fldP, g1, g2]
    by_cases hcl : fs[i].name = nmCL 
    · simp -implicitDefEqProofs [i_FieldsOk_L0, i_FieldsOk_L0b, hl, hw, u1, u2, u3, g1, g2, fldP, nmCL_eq, eq_true hcl] 
    by_cases g3 : atI (atF fs fs[i].name) = i 
    rotate_left 
    · simp -implicitDefEqProofs [i_FieldsOk_L0, i_FieldsOk_L0b, hl, hw, u1, u2, u3, g1, g2, fldP, nmCL_eq, eq_false hcl, eq_false g3]
    simp -implicitDefEqProofs [i_FieldsOk_L0, i_FieldsOk_L0b, hl, hw, u1, u2, u3, fldP, g1, g2, nmCL_eq, eq_false hcl, eq_true g3]
    all_goals (repeat' split) <;> first | rfl | omega | (simp_all; done) | (simp_all; omega) | skip
  · simp -implicitDefEqProofs [i_FieldsOk_L0, i_FieldsOk_L0b]
theorem c_i_FieldsOk (fs : List Fld) (hb : wL wFld fs ≤ 1073741824) : ev LI TT 110 [.row .bor 2 (fs.map eFld)] = some (.bool ((fieldsOk fs)), [.dead]) := by
  rw [ev_run (b := i_FieldsOk_b) (rs := [.t 2]) (n := 1) rfl rfl]
  unfold fieldsOk 
  have hfl := wL_len (w := wFld) fs
  have u1 := L_i_FieldsOk  fs hb
  try simp at u1
  simp -implicitDefEqProofs [i_FieldsOk_b, u1]
  all_goals (repeat' split) <;> first | rfl | omega | (simp_all; done) | (simp_all; omega) | skip
theorem fld_modify (fs : List Fld) (i : Nat) (h : i < fs.length) (v : Str) : (fs.map eFld).modify i (fun e => e.set 1 (X.str ⟨v.toArray⟩)) = (fs.set i ⟨fs[i].name, v⟩).map eFld := by
  apply List.ext_getElem?
  intro j
  rw [List.getElem?_modify, List.getElem?_map, List.getElem?_map, List.getElem?_set]
  by_cases hij : i = j
  · subst hij
    simp [h]
  · simp only [hij, if_false]
    cases fs[j]? <;> rfl
theorem fld_scalars (fs : List Fld) : scalarsB (fs.map eFld) = true := by induction fs <;> simp_all [scalarsB, scalar]
end M
set_option linter.unusedVariables false
set_option linter.unusedSimpArgs false
namespace M
open Go
theorem words_len (s : Str) : (wordsC s).length ≤ s.length + 1 := by
  unfold wordsC
  have h1 := List.length_filter_le (fun w : Str => decide (w ≠ [])) ((splitC 44 s).map trimS)
  have h2 := splitC_len 44 s
  simp only [List.length_map] at h1
  omega
theorem words_mem (s : Str) : ∀ w ∈ wordsC s, w.length ≤ s.length := by
  intro w hw
  unfold wordsC at hw
  obtain ⟨x, hx, rfl⟩ := List.mem_map.1 (List.mem_filter.1 hw).1
  have h1 := splitC_mem 44 s x hx
  have h2 := trimS_len x
  omega
theorem lowS_len (s : Str) : (lowS s).length = s.length := by simp [lowS]
theorem varyOf_len (fs : List Fld) : (varyOf fs).length ≤ wL wFld fs + 1 := by
  have h1 := words_len ((gtF fs nmVary).getD [])
  have h2 := gtF_len fs nmVary
  simp [varyOf]; omega
end M
set_option linter.unusedVariables false
set_option linter.unusedSimpArgs false
namespace M
open Go
theorem zip_same : ∀ {a b : List Str}, (∀ x ∈ a.zip b, ¬ (decide (x.1 ≠ x.2)) = true) → a.length = b.length → a = b
  | [], [], _, _ => rfl
  | x :: a, y :: b, h, hl => by
    have h1 := h (x, y) (by simp)
    simp at h1
    have h2 : a = b := zip_same (fun z hz => h z (by simp only [List.zip_cons_cons]; exact List.mem_cons_of_mem _ hz)) (by simpa using hl)
    rw [h1, h2]
theorem zip_diff {a b : List Str} {x : Str × Str} (hx : x ∈ a.zip b) (h : x.1 ≠ x.2) : a ≠ b := by
  rintro rfl
  have : ∀ {l : List Str} {x : Str × Str}, x ∈ l.zip l → x.1 = x.2 := by
    intro l
    induction l with
    | nil => intro x h; simp at h
    | cons y l ih =>
      intro x h
      simp only [List.zip_cons_cons, List.mem_cons] at h
      rcases h with rfl | h
      · rfl
      · exact ih h
  exact h (this hx)
end M
set_option linter.unusedVariables false
set_option linter.unusedSimpArgs false
namespace M
open Go
end M
set_option linter.unusedVariables false
set_option linter.unusedSimpArgs false
set_option maxHeartbeats 4000000
namespace M
open Go
structure Cc where
  ns : Bool
  nc : Bool
  pr : Bool
  mu : Bool
  ha : Bool
  age : Int
@[simp] def eCc (c : Cc) : List X := [.bool c.ns, .bool c.nc, .bool c.pr, .bool c.mu, .bool c.ha, .int .i64 c.age]
def cc0 : Cc := ⟨false, false, false, false, false, 0⟩
def nmNs : Str := [110, 111, 45, 115, 116, 111, 114, 101]
def nmNc : Str := [110, 111, 45, 99, 97, 99, 104, 101]
def nmPr : Str := [112, 114, 105, 118, 97, 116, 101]
def nmMu : Str := [109, 117, 115, 116, 45, 114, 101, 118, 97, 108, 105, 100, 97, 116, 101]
def nmMa : Str := [109, 97, 120, 45, 97, 103, 101, 61]
def ccAge (w : Str) : Option Nat := if Lib.hasPrefix w nmMa = true then some ((numRead (w.drop 8)).getD 0) else none
def ccW (c : Cc) (w : Str) : Cc := if w = nmNs then { c with ns := true } else if w = nmNc then { c with nc := true } else if w = nmPr then { c with pr := true } else if w = nmMu then { c with mu := true } else
  match ccAge w with
  | some n => { c with ha := true, age := if c.ha = true then min (n : Int) c.age else n }
  | none => c
def ccRead (v : Str) : Cc := (wordsC v).foldl (fun c w => ccW c (lowS w)) cc0
def ccOf (fs : List Fld) : Cc := ccRead ((gtF fs nmCC).getD [])
theorem nm_lits : (⟨#[110, 111, 45, 115, 116, 111, 114, 101]⟩ : ByteArray) = ⟨nmNs.toArray⟩ ∧ (⟨#[110, 111, 45, 99, 97, 99, 104, 101]⟩ : ByteArray) = ⟨nmNc.toArray⟩ ∧ (⟨#[112, 114, 105, 118, 97, 116, 101]⟩ : ByteArray) = ⟨nmPr.toArray⟩ ∧ (⟨#[109, 117, 115, 116, 45, 114, 101, 118, 97, 108, 105, 100, 97, 116, 101]⟩ : ByteArray) = ⟨nmMu.toArray⟩ ∧ (⟨#[109, 97, 120, 45, 97, 103, 101, 61]⟩ : ByteArray) = ⟨nmMa.toArray⟩ := ⟨rfl, rfl, rfl, rfl, rfl⟩
theorem c_s_l6Age (w : Str) (hb : w.length ≤ 1073741824) : ev LI TT 107 [.str ⟨w.toArray⟩] = some (.tup [.int .i64 ((((ccAge w).getD 0 : Nat) : Int)), .bool ((ccAge w).isSome)], [.dead]) := by
  rw [ev_run (b := s_l6Age_b) (rs := [.t 2, .t 3]) (n := 1) rfl rfl]
  have hp := Lib.hasPrefix_of_take w nmMa 
  have l8 : nmMa.length = 8 := rfl 
  have z : nmMa.toArray.size = 8 := rfl 
  obtain ⟨t1, t2, t3, t4, t5⟩ := nm_lits 
  rw [l8] at hp 
  unfold ccAge 
  by_cases g8 : w.length < 8 
  · have : Lib.hasPrefix w nmMa = false := by rw [← hp]; simp; omega 
    have g8' : (w.length : Int) < 8 := by omega 
    simp -implicitDefEqProofs [s_l6Age_b, t5, this, g8, g8', ByteArray.size, z, l8] 
  have g8' : ¬ (w.length : Int) < 8 := by omega 
  have g9 : (8 : Int) ≤ w.length := by omega 
  have g10 : 8 ≤ w.length := by omega 
  have g11 : decide (8 ≤ w.length) = true := by simp; omega 
  rw [g11, Bool.true_and] at hp 
  by_cases g : w.take 8 = nmMa 
  rotate_left 
  · have : Lib.hasPrefix w nmMa = false := by rw [← hp]; simpa using g 
    simp -implicitDefEqProofs [s_l6Age_b, t5, this, g8, g8', g9, g10, ByteArray.size, z, l8, Lib.extract_mk, eq_false g] 
  have : Lib.hasPrefix w nmMa = true := by rw [← hp]; simpa using g 
  have u1 := c_s_NumRead (w.drop 8) (by simp; omega) 
  have hz : (w.drop 8).take (w.length - 8) = w.drop 8 := List.take_of_length_le (by simp)
  simp -implicitDefEqProofs [s_l6Age_b, t5, this, g8, g8', g9, g10, ByteArray.size, z, l8, Lib.extract_mk, eq_true g, u1, hz]
  all_goals (repeat' split) <;> first | rfl | omega | (simp_all; done) | (simp_all; omega) | skip
theorem L_s_CcRead (ws : List Str) (hl0 : ws.length ≤ 1073741825) (hb : ∀ w ∈ ws, w.length ≤ 1073741824) (g : Cc) : loopW (evA (ev LI TT) (okT TT) s_CcRead_L0) [(2, .ptr .own (eCc cc0)), (3, .ptr .own (eCc g)), (4, .row .own 1 (ws.map eS)), (5, .int .i64 0)] = some (.exit 0, [(2, .ptr .own (eCc cc0)), (3, .ptr .own (eCc ((ws).foldl (fun c w => ccW c (lowS w)) g))), (4, .row .own 1 (ws.map eS)), (5, .int .i64 (ws).length), (15, .bool false)]) := by
  refine loop_fold (f := evA (ev LI TT) (okT TT) s_CcRead_L0) (ws) (fun i (g : Cc) => [(2, .ptr .own (eCc cc0)), (3, .ptr .own (eCc g)), (4, .row .own 1 (ws.map eS)), (5, .int .i64 i)]) (fun c w => ccW c (lowS w)) (fun g => [(2, .ptr .own (eCc cc0)), (3, .ptr .own (eCc g)), (4, .row .own 1 (ws.map eS)), (5, .int .i64 (ws).length), (15, .bool false)]) (fun _ _ => True) g trivial (fun i b g hi hl _ => ?_) (fun _ _ _ _ _ => trivial) (fun g _ => ?_)
  · have hw := wrap_succ i (by first | omega | (simp at hl; omega))
    obtain ⟨_, rfl⟩ := List.getElem?_eq_some_iff.1 hi
    obtain ⟨t1, t2, t3, t4, t5⟩ := nm_lits 
    have hx := hb _ (List.getElem_mem hl) 
    have v1 := c_s_Lower ws[i] hx 
    have v2 : (lowS ws[i]).length ≤ 1073741824 := by simp [lowS]; exact hx 
    generalize lowS ws[i] = w at v1 v2 
    have v3 := c_s_l6Age w v2 
    try simp at v1 
    try simp at v3 
    unfold ccW 
    by_cases g1 : w = nmNs 
    · simp -implicitDefEqProofs [s_CcRead_L0, s_CcRead_L0b, hl, hw, v1, v3, t1, eq_true g1, cc0] 
    by_cases g2 : w = nmNc 
    · simp -implicitDefEqProofs [s_CcRead_L0, s_CcRead_L0b, hl, hw, v1, v3, t1, t2, eq_false g1, eq_true g2, cc0] 
    by_cases g3 : w = nmPr 
    · simp -implicitDefEqProofs [s_CcRead_L0, s_CcRead_L0b, hl, hw, v1, v3, t1, t2, t3, eq_false g1, eq_false g2, eq_true g3, cc0] 
    by_cases g4 : w = nmMu 
    · simp -implicitDefEqProofs [s_CcRead_L0, s_CcRead_L0b, hl, hw, v1, v3, t1, t2, t3, t4, eq_false g1, eq_false g2, eq_false g3, eq_true g4, cc0] 
    cases ha : ccAge w with 
    | none => 
      rw [ha] at v3 
      simp at v3 
      simp -implicitDefEqProofs [s_CcRead_L0, s_CcRead_L0b, hl, hw, v1, v3, t1, t2, t3, t4, eq_false g1, eq_false g2, eq_false g3, eq_false g4, cc0] 
    | some n => 
    rw [ha] at v3 
    simp at v3 
    cases gh : g.ha 
    all_goals
    simp -implicitDefEqProofs [s_CcRead_L0, s_CcRead_L0b, hl, hw, v1, v3, t1, t2, t3, t4, eq_false g1, eq_false g2, eq_false g3, eq_false g4, gh, cc0]
    all_goals (repeat' split) <;> first | rfl | omega | (simp_all; done) | (simp_all; omega) | skip
  · simp -implicitDefEqProofs [s_CcRead_L0, s_CcRead_L0b]
theorem c_s_CcRead (v : Str) (hb : v.length ≤ 1073741824) : ev LI TT 60 [.str ⟨v.toArray⟩] = some (.agg (eCc (ccRead v)), [.dead]) := by
  rw [ev_run (b := s_CcRead_b) (rs := [.c 2 6 true 71]) (n := 1) rfl rfl]
  have hm := words_mem v 
  have hn := words_len v
  have u1 := c_s_Split  v hb
  try simp at u1
  have u2 := L_s_CcRead  (wordsC v) (by omega) (fun w hw => by have := hm w hw; omega) cc0
  try simp at u2
  rw [show (wordsC v).foldl (fun c w => ccW c (lowS w)) cc0 = ccRead v from rfl] at u2 
  simp [cc0] at u2
  simp -implicitDefEqProofs [s_CcRead_b, u1, u2, cc0]
  all_goals (repeat' split) <;> first | rfl | omega | (simp_all; done) | (simp_all; omega) | skip
theorem c_s_CcOf (fs : List Fld) (hb : wL wFld fs ≤ 1073741824) : ev LI TT 24 [.row .bor 2 (fs.map eFld)] = some (.agg (eCc (ccOf fs)), [.dead]) := by
  rw [ev_run (b := s_CcOf_b) (rs := [.c 2 6 true 71]) (n := 1) rfl rfl]
  have hfl := wL_len (w := wFld) fs 
  have hg := gtF_len fs nmCC 
  have t3 : (⟨#[99, 97, 99, 104, 101, 45, 99, 111, 110, 116, 114, 111, 108]⟩ : ByteArray) = ⟨nmCC.toArray⟩ := rfl
  have u1 := c_s_Get  fs nmCC (by omega)
  try simp at u1
  have u2 := c_s_CcRead  ((gtF fs nmCC).getD []) (by omega)
  try simp at u2
  rw [show ccRead ((gtF fs nmCC).getD []) = ccOf fs from rfl] at u2
  simp -implicitDefEqProofs [s_CcOf_b, u1, u2, t3]
  all_goals (repeat' split) <;> first | rfl | omega | (simp_all; done) | (simp_all; omega) | skip
theorem ccAge_word {w : Str} (h : w = nmNs ∨ w = nmNc ∨ w = nmPr ∨ w = nmMu) : Lib.hasPrefix w nmMa = false := by
  rcases h with rfl | rfl | rfl | rfl <;> decide
theorem c_i_Cc_word (c : Cc) (w : Str) (hb : w.length ≤ 1073741824) : ev LI TT 142 [.ptr .own (eCc c), .str ⟨w.toArray⟩] = some (.tup [], [.ptr .own (eCc (ccW c w)), .dead]) := by
  rw [ev_run (b := i_Cc_word_b) (rs := []) (n := 2) rfl rfl]
  obtain ⟨t1, t2, t3, t4, t5⟩ := nm_lits 
  have v3 := c_x_strings_CutPrefix w nmMa (by omega) 
  have hword := ccAge_word (w := w) 
  unfold ccW 
  by_cases g1 : w = nmNs 
  · rw [hword (Or.inl g1)] at v3 
    simp -implicitDefEqProofs [i_Cc_word_b, v3, t1, t5, eq_true g1] 
  by_cases g2 : w = nmNc 
  · rw [hword (by simp [g2])] at v3 
    simp -implicitDefEqProofs [i_Cc_word_b, v3, t1, t2, t5, eq_false g1, eq_true g2] 
  by_cases g3 : w = nmPr 
  · rw [hword (by simp [g3])] at v3 
    simp -implicitDefEqProofs [i_Cc_word_b, v3, t1, t2, t3, t5, eq_false g1, eq_false g2, eq_true g3] 
  by_cases g4 : w = nmMu 
  · rw [hword (by simp [g4])] at v3 
    simp -implicitDefEqProofs [i_Cc_word_b, v3, t1, t2, t3, t4, t5, eq_false g1, eq_false g2, eq_false g3, eq_true g4] 
  unfold ccAge 
  cases hp : Lib.hasPrefix w nmMa 
  · rw [hp] at v3 
    simp -implicitDefEqProofs [i_Cc_word_b, v3, t1, t2, t3, t4, t5, eq_false g1, eq_false g2, eq_false g3, eq_false g4] 
  rw [hp, show Lib.trimPrefix w nmMa = w.drop 8 by unfold Lib.trimPrefix; rw [hp]; rfl] at v3 
  have v4 := c_i_NumRead (w.drop 8) (by simp; omega) 
  try simp at v3 
  try simp at v4 
  generalize (numRead (w.drop 8)).getD 0 = n at v4 
  cases gh : c.ha 
  all_goals
  simp -implicitDefEqProofs [i_Cc_word_b, v3, v4, t1, t2, t3, t4, t5, eq_false g1, eq_false g2, eq_false g3, eq_false g4, gh]
  all_goals (repeat' split) <;> first | rfl | omega | (simp_all; done) | (simp_all; omega) | skip
theorem L_i_CcRead (ws : List Str) (hl0 : ws.length ≤ 1073741825) (hb : ∀ w ∈ ws, w.length ≤ 1073741824) (g : Cc) : loopW (evA (ev LI TT) (okT TT) i_CcRead_L0) [(2, .ptr .own (eCc cc0)), (3, .ptr .own (eCc g)), (7, .row .own 1 (ws.map eS)), (8, .int .i64 ws.length), (9, .int .i64 0)] = some (.exit 0, [(2, .ptr .own (eCc cc0)), (3, .ptr .own (eCc ((ws).foldl (fun c w => ccW c (lowS w)) g))), (7, .row .own 1 (ws.map eS)), (8, .int .i64 ws.length), (9, .int .i64 (ws).length), (10, .bool false)]) := by
  refine loop_fold (f := evA (ev LI TT) (okT TT) i_CcRead_L0) (ws) (fun i (g : Cc) => [(2, .ptr .own (eCc cc0)), (3, .ptr .own (eCc g)), (7, .row .own 1 (ws.map eS)), (8, .int .i64 ws.length), (9, .int .i64 i)]) (fun c w => ccW c (lowS w)) (fun g => [(2, .ptr .own (eCc cc0)), (3, .ptr .own (eCc g)), (7, .row .own 1 (ws.map eS)), (8, .int .i64 ws.length), (9, .int .i64 (ws).length), (10, .bool false)]) (fun _ _ => True) g trivial (fun i b g hi hl _ => ?_) (fun _ _ _ _ _ => trivial) (fun g _ => ?_)
  · have hw := wrap_succ i (by first | omega | (simp at hl; omega))
    obtain ⟨_, rfl⟩ := List.getElem?_eq_some_iff.1 hi
    have hx := hb _ (List.getElem_mem hl) 
    have v1 := c_i_Lower ws[i] hx 
    have v2 : (lowS ws[i]).length ≤ 1073741824 := by simp [lowS]; exact hx 
    have v3 := c_i_Cc_word g (lowS ws[i]) v2 
    try simp at v1 
    try simp at v3
    simp -implicitDefEqProofs [i_CcRead_L0, i_CcRead_L0b, hl, hw, v1, v3, cc0]
    all_goals (repeat' split) <;> first | rfl | omega | (simp_all; done) | (simp_all; omega) | skip
  · simp -implicitDefEqProofs [i_CcRead_L0, i_CcRead_L0b]
theorem c_i_CcRead (v : Str) (hb : v.length ≤ 1073741824) : ev LI TT 112 [.str ⟨v.toArray⟩] = some (.agg (eCc (ccRead v)), [.dead]) := by
  rw [ev_run (b := i_CcRead_b) (rs := [.c 2 6 true 71]) (n := 1) rfl rfl]
  have hm := words_mem v 
  have hn := words_len v
  have u1 := c_i_Split  v hb
  try simp at u1
  have u2 := L_i_CcRead  (wordsC v) (by omega) (fun w hw => by have := hm w hw; omega) cc0
  try simp at u2
  rw [show (wordsC v).foldl (fun c w => ccW c (lowS w)) cc0 = ccRead v from rfl] at u2 
  simp [cc0] at u2
  simp -implicitDefEqProofs [i_CcRead_b, u1, u2, cc0]
  all_goals (repeat' split) <;> first | rfl | omega | (simp_all; done) | (simp_all; omega) | skip
theorem c_i_CcOf (fs : List Fld) (hb : wL wFld fs ≤ 1073741824) : ev LI TT 63 [.row .bor 2 (fs.map eFld)] = some (.agg (eCc (ccOf fs)), [.dead]) := by
  rw [ev_run (b := i_CcOf_b) (rs := [.c 2 6 true 71]) (n := 1) rfl rfl]
  have hfl := wL_len (w := wFld) fs 
  have hg := gtF_len fs nmCC 
  have t3 : (⟨#[99, 97, 99, 104, 101, 45, 99, 111, 110, 116, 114, 111, 108]⟩ : ByteArray) = ⟨nmCC.toArray⟩ := rfl
  have u1 := c_i_Get  fs nmCC (by omega)
  try simp at u1
  have u2 := c_i_CcRead  ((gtF fs nmCC).getD []) (by omega)
  try simp at u2
  rw [show ccRead ((gtF fs nmCC).getD []) = ccOf fs from rfl] at u2
  simp -implicitDefEqProofs [i_CcOf_b, u1, u2, t3]
  all_goals (repeat' split) <;> first | rfl | omega | (simp_all; done) | (simp_all; omega) | skip
end M
set_option linter.unusedVariables false
set_option linter.unusedSimpArgs false
set_option maxHeartbeats 4000000
namespace M
open Go
theorem c_s_ReqOk (q : Rq) (hb : wRq q ≤ 1073741824) : ev LI TT 22 [.agg (eRq .bor q)] = some (.bool (reqOk q), [.dead]) := by
  rw [ev_run (b := s_ReqOk_b) (rs := [.t 2]) (n := 1) rfl rfl]
  have hw3 : wRq q = q.path.length + wL wFld q.fields + q.body.length := rfl 
  unfold reqOk
  have u1 := c_s_l3Path  q.path (by omega)
  try simp at u1
  have u2 := c_s_FieldsOk  q.fields (by omega)
  try simp at u2
  by_cases g1 : 1 ≤ q.method
  rotate_left
  · simp -implicitDefEqProofs [s_ReqOk_b, u1, u2, eq_false g1]
  by_cases g2 : q.method ≤ 4
  rotate_left
  · simp -implicitDefEqProofs [s_ReqOk_b, u1, u2, eq_true g1, eq_false g2]
  cases g3 : pathOk q.path <;> cases g4 : fieldsOk q.fields <;> rw [g3] at u1 <;> rw [g4] at u2 
  all_goals
  simp -implicitDefEqProofs [s_ReqOk_b, u1, u2, eq_true g1, eq_true g2]
  all_goals (repeat' split) <;> first | rfl | omega | (simp_all; done) | (simp_all; omega) | skip
theorem c_i_ReqOk (q : Rq) (hb : wRq q ≤ 1073741824) : ev LI TT 62 [.agg (eRq .bor q)] = some (.bool (reqOk q), [.dead]) := by
  rw [ev_run (b := i_ReqOk_b) (rs := [.t 2]) (n := 1) rfl rfl]
  have hw3 : wRq q = q.path.length + wL wFld q.fields + q.body.length := rfl 
  unfold reqOk
  have u1 := c_i_pathOk  q.path (by omega)
  try simp at u1
  have u2 := c_i_FieldsOk  q.fields (by omega)
  try simp at u2
  by_cases g1 : 1 ≤ q.method
  rotate_left
  · simp -implicitDefEqProofs [i_ReqOk_b, u1, u2, eq_false g1]
  by_cases g2 : q.method ≤ 4
  rotate_left
  · simp -implicitDefEqProofs [i_ReqOk_b, u1, u2, eq_true g1, eq_false g2]
  cases g3 : pathOk q.path <;> cases g4 : fieldsOk q.fields <;> rw [g3] at u1 <;> rw [g4] at u2 
  all_goals
  simp -implicitDefEqProofs [i_ReqOk_b, u1, u2, eq_true g1, eq_true g2]
  all_goals (repeat' split) <;> first | rfl | omega | (simp_all; done) | (simp_all; omega) | skip
def askedB (q : Rq) : Bool := reqOk q && decide (q.method = 1) && !(ccOf q.fields).ns
def alikeB (a b : Rq) : Bool := askedB a && askedB b && decide (a.path = b.path) && decide (a.fields = b.fields)
theorem c_i_isAsked (q : Rq) (hb : wRq q ≤ 1073741824) : ev LI TT 26 [.agg (eRq .bor q)] = some (.bool (askedB q), [.dead]) := by
  rw [ev_run (b := i_isAsked_b) (rs := [.t 2]) (n := 1) rfl rfl]
  have hw3 : wRq q = q.path.length + wL wFld q.fields + q.body.length := rfl 
  unfold askedB
  have u1 := c_i_ReqOk  q hb
  try simp at u1
  have u2 := c_i_CcOf  q.fields (by omega)
  try simp at u2
  cases g3 : reqOk q <;> rw [g3] at u1 
  all_goals by_cases g4 : q.method = 1 
  all_goals
  simp -implicitDefEqProofs [i_isAsked_b, u1, u2, g4]
  all_goals (repeat' split) <;> first | rfl | omega | (simp_all; done) | (simp_all; omega) | skip
theorem fldE (a b : Fld) : a = b ↔ (a.name = b.name ∧ a.value = b.value) := by cases a; cases b; simp
theorem L_x_slices_Equal_impl_Field_impl_Field (ps : List (Fld × Fld)) (hb : ps.length ≤ 9223372036854775807) : loopW (evA (ev LI TT) (okT TT) x_slices_Equal_impl_Field_impl_Field_L0) [(0, .row .bor 2 (ps.map fun x => eFld x.1)), (1, .row .bor 2 (ps.map fun x => eFld x.2)), (12, .int .i64 ps.length), (13, .int .i64 0)] = if allB eqB (ps) = true then some (.exit 0, [(0, .row .bor 2 (ps.map fun x => eFld x.1)), (1, .row .bor 2 (ps.map fun x => eFld x.2)), (12, .int .i64 ps.length), (13, .int .i64 ps.length), (14, .bool false)]) else some (.ret, [(4, .bool false)]) := by
  refine loop_all (f := evA (ev LI TT) (okT TT) x_slices_Equal_impl_Field_impl_Field_L0) (ps) (fun i => [(0, .row .bor 2 (ps.map fun x => eFld x.1)), (1, .row .bor 2 (ps.map fun x => eFld x.2)), (12, .int .i64 ps.length), (13, .int .i64 i)]) eqB _ _ (fun i b hi hl => ?_) ?_
  · have hw := wrap_succ i (by first | omega | (simp at hl; omega))
    obtain ⟨_, rfl⟩ := List.getElem?_eq_some_iff.1 hi
    simp -implicitDefEqProofs [x_slices_Equal_impl_Field_impl_Field_L0, x_slices_Equal_impl_Field_impl_Field_L0b, hl, hw, eqB, fldE]
    first | done | (split <;> simp_all; done) | (split <;> simp_all <;> (intro h; simp_all))
  · simp -implicitDefEqProofs [x_slices_Equal_impl_Field_impl_Field_L0, x_slices_Equal_impl_Field_impl_Field_L0b]
theorem c_x_slices_Equal_impl_Field_impl_Field (a b : List Fld) (hb : a.length ≤ 9223372036854775807) : ev LI TT 27 [.row .bor 2 (a.map eFld), .row .bor 2 (b.map eFld)] = some (.bool (decide (a = b)), [.dead, .dead]) := by
  rw [ev_run (b := x_slices_Equal_impl_Field_impl_Field_b) (rs := [.t 4]) (n := 2) rfl rfl]
  simp -implicitDefEqProofs [x_slices_Equal_impl_Field_impl_Field_b]
  by_cases h : a.length = b.length 
  · obtain ⟨ps, rfl, rfl⟩ := zip_ex h 
    have h1 := L_x_slices_Equal_impl_Field_impl_Field ps (by simpa using hb) 
    have h2 := allB_eq ps 
    simp at h1 
    rw [← h2] 
    cases h3 : allB eqB ps <;> rw [h3] at h1 <;> simp [h1, Function.comp_def] 
  · have : ¬ a = b := fun e => h (by rw [e]) 
    simp [this] 
    omega
theorem c_i_Alike (a : Rq) (b : Rq) (ha : wRq a ≤ 1073741824) (hb : wRq b ≤ 1073741824) : ev LI TT 9 [.agg (eRq .bor a), .agg (eRq .bor b)] = some (.bool (alikeB a b), [.dead, .dead]) := by
  rw [ev_run (b := i_Alike_b) (rs := [.t 4]) (n := 2) rfl rfl]
  have hw3 : wRq a = a.path.length + wL wFld a.fields + a.body.length := rfl 
  have l2 := wL_len (w := wFld) a.fields 
  unfold alikeB
  have u1 := c_i_isAsked  a ha
  try simp at u1
  have u2 := c_i_isAsked  b hb
  try simp at u2
  have u3 := c_x_slices_Equal_impl_Field_impl_Field  a.fields b.fields (by omega)
  try simp at u3
  generalize askedB a = g1 at u1 
  generalize askedB b = g2 at u2 
  generalize decide (a.fields = b.fields) = g4 at u3 
  cases g1 
  · simp -implicitDefEqProofs [i_Alike_b, u1] 
  cases g2 
  · simp -implicitDefEqProofs [i_Alike_b, u1, u2] 
  by_cases g3 : a.path = b.path 
  rotate_left 
  · simp -implicitDefEqProofs [i_Alike_b, u1, u2, eq_false g3]
  simp -implicitDefEqProofs [i_Alike_b, u1, u2, u3, eq_true g3]
  all_goals (repeat' split) <;> first | rfl | omega | (simp_all; done) | (simp_all; omega) | skip
theorem zipG_same {α : Type} [DecidableEq α] : ∀ {a b : List α}, (∀ x ∈ a.zip b, ¬ (decide (x.1 ≠ x.2)) = true) → a.length = b.length → a = b
  | [], [], _, _ => rfl
  | x :: a, y :: b, h, hl => by
    have h1 := h (x, y) (by simp)
    simp at h1
    have h2 : a = b := zipG_same (fun z hz => h z (by simp only [List.zip_cons_cons]; exact List.mem_cons_of_mem _ hz)) (by simpa using hl)
    rw [h1, h2]
theorem zipG_diff {α : Type} {a b : List α} {x : α × α} (hx : x ∈ a.zip b) (h : x.1 ≠ x.2) : a ≠ b := by
  rintro rfl
  have : ∀ {l : List α} {x : α × α}, x ∈ l.zip l → x.1 = x.2 := by
    intro l
    induction l with
    | nil => intro x h; simp at h
    | cons y l ih =>
      intro x h
      simp only [List.zip_cons_cons, List.mem_cons] at h
      rcases h with rfl | h
      · rfl
      · exact ih h
  exact h (this hx)
theorem L_s_l15Fields (a : List Fld) (b : List Fld) (hb : a.length ≤ 9223372036854775807) (hb2 : b.length ≤ 9223372036854775807) : loopW (evA (ev LI TT) (okT TT) s_l15Fields_L0) [(0, .row .bor 2 (a.map eFld)), (1, .row .bor 2 (b.map eFld)), (5, .int .i64 0)] = (firstI (fun x => decide (x.1 ≠ x.2)) 0 (a.zip b)).elim (some (.exit 0, [(0, .row .bor 2 (a.map eFld)), (1, .row .bor 2 (b.map eFld)), (5, .int .i64 (a.zip b).length), (15, .bool false)])) fun x => some (.ret, (fun (i : Nat) b => [(4, .bool false)]) x.1 x.2) := by
  refine loop_first (f := evA (ev LI TT) (okT TT) s_l15Fields_L0) (a.zip b) (fun i => [(0, .row .bor 2 (a.map eFld)), (1, .row .bor 2 (b.map eFld)), (5, .int .i64 i)]) (fun x => decide (x.1 ≠ x.2)) (fun (i : Nat) b => [(4, .bool false)]) _ (fun i b hi hl => ?_) ?_
  · have hw := wrap_succ i (by first | omega | (simp at hl; omega))
    obtain ⟨_, rfl⟩ := List.getElem?_eq_some_iff.1 hi
    have ha : i < a.length := by simp at hl; omega 
    have hb' : i < b.length := by simp at hl; omega
    simp -implicitDefEqProofs [s_l15Fields_L0, s_l15Fields_L0b, hl, hw, ha, hb', fldE]
  · have hz : (a.zip b).length = min a.length b.length := by simp 
    rw [hz] 
    by_cases hh : a.length ≤ b.length 
    · rw [Nat.min_eq_left hh]; simp -implicitDefEqProofs [s_l15Fields_L0, s_l15Fields_L0b] 
    have h1 : b.length ≤ a.length := by omega 
    have h2 : (b.length : Int) < a.length := by omega 
    have h3 : b.length < a.length := by omega 
    rw [Nat.min_eq_right h1] 
    simp -implicitDefEqProofs [s_l15Fields_L0, s_l15Fields_L0b, h2, h3]
theorem c_s_l15Fields (a : List Fld) (b : List Fld) (hb : a.length ≤ 9223372036854775807) (hb2 : b.length ≤ 9223372036854775807) : ev LI TT 23 [.row .bor 2 (a.map eFld), .row .bor 2 (b.map eFld)] = some (.bool (decide (a = b)), [.dead, .dead]) := by
  rw [ev_run (b := s_l15Fields_b) (rs := [.t 4]) (n := 2) rfl rfl]
  have h := L_s_l15Fields a b hb hb2 
  cases g : firstI (fun x : Fld × Fld => decide (x.1 ≠ x.2)) 0 (a.zip b) with 
  | some x => 
    obtain ⟨i, x⟩ := x 
    obtain ⟨_, h1, h2⟩ := firstI_some g 
    have h3 : ¬ a = b := zipG_diff (List.mem_of_getElem? h1) (by simpa using h2) 
    rw [g] at h; simp only [Option.elim] at h; simp -implicitDefEqProofs [s_l15Fields_b, h, h3] 
  | none => 
  have h1 := firstI_none.1 g 
  rw [g] at h 
  simp only [Option.elim] at h 
  try simp at h 
  by_cases hl : a.length = b.length 
  · have h2 := zipG_same h1 hl 
    subst h2 
    try simp at h 
    simp -implicitDefEqProofs [s_l15Fields_b, h] 
  have h3 : ¬ a = b := fun e => hl (by rw [e]) 
  have h4 : ¬ (a.length : Int) = b.length := by omega
  simp -implicitDefEqProofs [s_l15Fields_b, h, h3, h4]
  all_goals (repeat' split) <;> first | rfl | omega | (simp_all; done) | (simp_all; omega) | skip
theorem c_s_Alike (a : Rq) (b : Rq) (ha : wRq a ≤ 1073741824) (hb : wRq b ≤ 1073741824) : ev LI TT 7 [.agg (eRq .bor a), .agg (eRq .bor b)] = some (.bool (alikeB a b), [.dead, .dead]) := by
  rw [ev_run (b := s_Alike_b) (rs := [.t 4]) (n := 2) rfl rfl]
  have hw3 : wRq a = a.path.length + wL wFld a.fields + a.body.length := rfl 
  have hw4 : wRq b = b.path.length + wL wFld b.fields + b.body.length := rfl 
  have l2 := wL_len (w := wFld) a.fields 
  have l3 := wL_len (w := wFld) b.fields 
  unfold alikeB askedB
  have u1 := c_s_ReqOk  a ha
  try simp at u1
  have u2 := c_s_ReqOk  b hb
  try simp at u2
  have u3 := c_s_l15Fields  a.fields b.fields (by omega) (by omega)
  try simp at u3
  have u4 := c_s_CcOf  a.fields (by omega)
  try simp at u4
  generalize reqOk a = g1 at u1 
  generalize reqOk b = g2 at u2 
  cases g1 
  · simp -implicitDefEqProofs [s_Alike_b, u1] 
  cases g2 
  · simp -implicitDefEqProofs [s_Alike_b, u1, u2] 
  by_cases g4 : a.method = 1 
  rotate_left 
  · simp -implicitDefEqProofs [s_Alike_b, u1, u2, g4] 
  rw [g4] at u1 
  by_cases g5 : b.method = 1 
  rotate_left 
  · simp -implicitDefEqProofs [s_Alike_b, u1, u2, g4, g5] 
  rw [g5] at u2 
  by_cases g3 : a.path = b.path 
  rotate_left 
  · simp -implicitDefEqProofs [s_Alike_b, u1, u2, g4, g5, eq_false g3] 
  rw [← g3] at u2 
  by_cases g6 : a.fields = b.fields 
  rotate_left 
  · rw [decide_eq_false g6] at u3 
    simp -implicitDefEqProofs [s_Alike_b, u1, u2, u3, g4, g5, ← g3, eq_false g6] 
  rw [decide_eq_true g6] at u3 
  generalize hns : (ccOf a.fields).ns = g7 at u4 
  have hns' := hns 
  rw [g6] at hns' 
  cases g7 
  all_goals
  simp -implicitDefEqProofs [s_Alike_b, u1, u2, u3, u4, g4, g5, ← g3, eq_true g6, hns, hns']
  all_goals (repeat' split) <;> first | rfl | omega | (simp_all; done) | (simp_all; omega) | skip
end M
set_option linter.unusedVariables false
set_option linter.unusedSimpArgs false
set_option maxHeartbeats 4000000
namespace M
open Go
theorem law_FnExactAlike (a0 : Rq) (k0 : bRq a0) (a1 : Rq) (k1 : bRq a1) : ∃ ps, ev LI TT 3 [.agg (eRq .sl a0), .agg (eRq .sl a1)] = some (.bool true, ps) := by
  rw [ev_run (b := l_FnExactAlike_b) (rs := [.t 4]) (n := 2) rfl rfl]
  have s0 := c_l_szReq a0 1048576 k0 (by omega) (by omega)
  have w0 := subW_or 1048576 (wRq a0)
  obtain ⟨m0, e0⟩ : ∃ m, m = subW 1048576 (wRq a0) := ⟨_, rfl⟩
  rw [← e0] at s0 w0
  try simp at s0
  by_cases z0 : m0 < 0
  · simp -implicitDefEqProofs [l_FnExactAlike_b, s0, z0]
  have s1 := c_l_szReq a1 m0 k1 (by omega) (by omega)
  have w1 := subW_or m0 (wRq a1)
  obtain ⟨m1, e1⟩ : ∃ m, m = subW m0 (wRq a1) := ⟨_, rfl⟩
  rw [← e1] at s1 w1
  try simp at s1
  by_cases z1 : m1 < 0
  · simp -implicitDefEqProofs [l_FnExactAlike_b, s0, z0, s1, z1]
  have t0 := c_l_toReq a0 (by omega)
  try simp at t0
  have q0 := c_l_eqReq a0 a0 (by omega)
  try simp at q0
  have t1 := c_l_toReq a1 (by omega)
  try simp at t1
  have q1 := c_l_eqReq a1 a1 (by omega)
  try simp at q1
  have hS := c_s_Alike a0 a1 (by omega) (by omega)
  have hI := c_i_Alike a0 a1 (by omega) (by omega)
  try simp at hS
  try simp at hI
  simp -implicitDefEqProofs [l_FnExactAlike_b, s0, z0, s1, z1, t0, q0, t1, q1, hS, hI]
end M
