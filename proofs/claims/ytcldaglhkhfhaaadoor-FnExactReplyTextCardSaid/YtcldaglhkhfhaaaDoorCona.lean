/- What the functions come to in the machine; no conditions. -/
import Derived.Test.YtcldaglhkhfhaaaDoorTab
import Derived.Test.YtcldaglhkhfhaaaDoorMd
set_option linter.unusedSectionVars false
set_option linter.unusedVariables false
set_option linter.unusedSimpArgs false
namespace M
open Go
theorem c_l_szField (a : Fld) (n : Int) (hb : bFld a) (hn : 0 ≤ n) (hm : n ≤ 9223372036854775807) : ev LI TT 112 [.agg (eFld a), .int .i64 n] = some (.int .i64 (subW n (wFld a)), [.dead, .dead]) := by
  rw [ev_run (b := l_szField_b) (rs := [.t 4]) (n := 2) rfl rfl]
  have hw : wFld a = a.name.length + a.value.length := rfl 
  have ht := subW_or n (wFld a) 
  have hl1 : a.name.length ≤ 9223372036854775807 := hb.k_name 
  obtain ⟨m1, e1⟩ : ∃ m, m = n - (a.name.length : Int) := ⟨_, rfl⟩ 
  have c1 : IntKind.i64.wrap (n - (a.name.length : Int)) = m1 := by rw [e1]; exact wrap_id (by omega) (by omega) 
  by_cases h1 : m1 < 0 
  · have ef : subW n (wFld a) = -1 := by omega 
    simp -implicitDefEqProofs [l_szField_b, c1, h1, ef] 
  have hl2 : a.value.length ≤ 9223372036854775807 := hb.k_value 
  obtain ⟨m2, e2⟩ : ∃ m, m = m1 - (a.value.length : Int) := ⟨_, rfl⟩ 
  have c2 : IntKind.i64.wrap (m1 - (a.value.length : Int)) = m2 := by rw [e2]; exact wrap_id (by omega) (by omega) 
  by_cases h2 : m2 < 0 
  · have ef : subW n (wFld a) = -1 := by omega 
    simp -implicitDefEqProofs [l_szField_b, c1, h1, c2, h2, ef] 
  have ef : subW n (wFld a) = m2 := by omega
  simp -implicitDefEqProofs [l_szField_b, c1, h1, c2, h2, ef]
  all_goals (repeat' split) <;> first | rfl | omega | (simp_all; done) | (simp_all; omega) | skip
theorem c_l_toField (a : Fld) (hb : wFld a ≤ 1048576) : ev LI TT 113 [.agg (eFld a)] = some (.agg (eFld a), [.dead]) := by
  rw [ev_run (b := l_toField_b) (rs := [.c 2 2 true 130]) (n := 1) rfl rfl]
  have hw : wFld a = a.name.length + a.value.length := rfl
  simp -implicitDefEqProofs [l_toField_b, hw]
  all_goals (repeat' split) <;> first | rfl | omega | (simp_all; done) | (simp_all; omega) | skip
theorem c_l_eqField (a b : Fld) (hb : wFld a ≤ 1073741824) : ev LI TT 116 [.agg (eFld a), .agg (eFld b)] = some (.bool (decide (a = b)), [.dead, .dead]) := by
  rw [ev_run (b := l_eqField_b) (rs := [.t 4]) (n := 2) rfl rfl]
  have hw : wFld a = a.name.length + a.value.length := rfl 
  rw [dec_Fld] 
  by_cases g1 : a.name = b.name 
  rotate_left 
  · simp -implicitDefEqProofs [l_eqField_b, eq_false g1] 
  by_cases g2 : a.value = b.value 
  rotate_left 
  · simp -implicitDefEqProofs [l_eqField_b, eq_true g1, eq_false g2]
  simp -implicitDefEqProofs [l_eqField_b, eq_true g1, eq_true g2]
  all_goals (repeat' split) <;> first | rfl | omega | (simp_all; done) | (simp_all; omega) | skip
theorem L_l_szFieldS (l : List Fld) (hlen : l.length ≤ 9223372036854775807) (hb : bL bFld l) (n : Int) (hn : 0 ≤ n) (hm : n ≤ 9223372036854775807) : loopW (evA (ev LI TT) (okT TT) l_szFieldS_L0) [(0, .row .bor 2 (l.map (eFld))), (1, .int .i64 n), (5, .int .i64 0)] = if szL (fun b n => subW n (wFld b)) (l) n < 0 then some (.ret, [(4, .int .i64 (-1))]) else some (.exit 0, [(0, .row .bor 2 (l.map (eFld))), (1, .int .i64 (szL (fun b n => subW n (wFld b)) (l) n)), (5, .int .i64 (l).length), (15, .bool false)]) := by
  refine loop_sz (f := evA (ev LI TT) (okT TT) l_szFieldS_L0) (l) (fun i n => [(0, .row .bor 2 (l.map (eFld))), (1, .int .i64 n), (5, .int .i64 i)]) (fun b n => subW n (wFld b)) _ (fun n => [(0, .row .bor 2 (l.map (eFld))), (1, .int .i64 n), (5, .int .i64 (l).length), (15, .bool false)]) n hn hm (fun b n => subW_le _ n) (fun i b n hi hl hn hm => ?_) (fun n => ?_)
  · have hw := wrap_succ i (by first | omega | (simp at hl; omega))
    obtain ⟨_, rfl⟩ := List.getElem?_eq_some_iff.1 hi
    have h2 := c_l_szField  l[i] n (hb.2 _ (List.getElem_mem hl)) hn hm 
    obtain ⟨m, e1⟩ : ∃ m, m = subW n (wFld l[i]) := ⟨_, rfl⟩ 
    rw [← e1] at h2 ⊢ 
    try simp at h2
    simp -implicitDefEqProofs [l_szFieldS_L0, l_szFieldS_L0b, hl, hw, h2]
  · simp -implicitDefEqProofs [l_szFieldS_L0, l_szFieldS_L0b]
theorem c_l_szFieldS (l : List Fld) (n : Int) (hb : bL bFld l) (hn : 0 ≤ n) (hm : n ≤ 9223372036854775807) : ev LI TT 91 [.row .bor 2 (l.map (eFld)), .int .i64 n] = some (.int .i64 (subW n (wL wFld l)), [.dead, .dead]) := by
  rw [ev_run (b := l_szFieldS_b) (rs := [.t 4]) (n := 2) rfl rfl]
  have hl := hb.1 
  have hw : wL wFld l = l.length + (l.map wFld).sum := rfl 
  have ht := subW_or n (wL wFld l) 
  obtain ⟨m, e1⟩ : ∃ m, m = n - (l.length : Int) := ⟨_, rfl⟩ 
  have h2 : IntKind.i64.wrap (n - (l.length : Int)) = m := by rw [e1]; exact wrap_id (by omega) (by omega) 
  by_cases h : m < 0 
  · have ef : subW n (wL wFld l) = -1 := by omega 
    simp -implicitDefEqProofs [l_szFieldS_b, h2, h, ef] 
  have h3 := L_l_szFieldS  l hb.1 hb m (by omega) (by omega) 
  rw [szL_subW _ _ _ (by omega)] at h3 
  have hs := subW_or m (l.map wFld).sum 
  obtain ⟨q, e2⟩ : ∃ q, q = subW m (l.map wFld).sum := ⟨_, rfl⟩ 
  rw [← e2] at h3 hs 
  try simp at h3 
  by_cases h4 : q < 0 
  · have ef : subW n (wL wFld l) = -1 := by omega 
    simp only [h4, if_true] at h3 
    simp -implicitDefEqProofs [l_szFieldS_b, h2, h, h3, ef] 
  have ef : subW n (wL wFld l) = q := by omega 
  simp only [h4, if_false] at h3
  simp -implicitDefEqProofs [l_szFieldS_b, h2, h, h3, ef]
  all_goals (repeat' split) <;> first | rfl | omega | (simp_all; done) | (simp_all; omega) | skip
theorem L_l_toFieldS (l : List Fld) (hlen : l.length ≤ 1048576) (hb : wL wFld l ≤ 1048576) : loopW (evA (ev LI TT) (okT TT) l_toFieldS_L0) [(0, .row .bor 2 (l.map eFld)), (3, .row .own 2 (fillN (l.map eFld) 0 [.str ⟨#[]⟩, .str ⟨#[]⟩])), (4, .int .i64 0), (6, .int .i64 l.length)] = some (.exit 0, [(0, .row .bor 2 (l.map eFld)), (3, .row .own 2 (l.map eFld)), (4, .int .i64 (l).length), (6, .int .i64 l.length), (11, .bool false)]) := by
  refine loop_count (f := evA (ev LI TT) (okT TT) l_toFieldS_L0) (l) (fun i => [(0, .row .bor 2 (l.map eFld)), (3, .row .own 2 (fillN (l.map eFld) i [.str ⟨#[]⟩, .str ⟨#[]⟩])), (4, .int .i64 i), (6, .int .i64 l.length)]) _ (fun i b hi hl => ?_) ?_
  · have hw := wrap_succ i (by first | omega | (simp at hl; omega))
    obtain ⟨_, rfl⟩ := List.getElem?_eq_some_iff.1 hi
    have h := c_l_toField  l[i] (Nat.le_trans (wL_mem (List.getElem_mem hl)) hb) 
    try simp at h
    simp -implicitDefEqProofs [l_toFieldS_L0, l_toFieldS_L0b, hl, hw, h]
    first | done | (rw [fillN_set _ _ _ _ (by simpa using hl) (by simp)]; done) | (simp only [modify_two]; rw [fillN_set _ _ _ _ (by simpa using hl) (by simp)])
  · simp -implicitDefEqProofs [l_toFieldS_L0, l_toFieldS_L0b]
theorem c_l_toFieldS (l : List Fld) (hb : wL wFld l ≤ 1048576) : ev LI TT 94 [.row .bor 2 (l.map eFld)] = some (.row .own 2 (l.map eFld), [.dead]) := by
  rw [ev_run (b := l_toFieldS_b) (rs := [.t 2]) (n := 1) rfl rfl]
  have hlen := wL_len (w := wFld) l 
  have h := L_l_toFieldS  l (by omega) hb 
  try simp at h
  simp -implicitDefEqProofs [l_toFieldS_b, h, (by omega : (l.length : Int) * 32 ≤ 140737488355328)]
  all_goals (repeat' split) <;> first | rfl | omega | (simp_all; done) | (simp_all; omega) | skip
theorem L_l_eqFieldS (ps : List (Fld × Fld)) (hb : ps.length ≤ 9223372036854775807) (hb1 : ∀ x ∈ ps, wFld x.1 ≤ 1073741824) : loopW (evA (ev LI TT) (okT TT) l_eqFieldS_L0) [(0, .row .bor 2 (ps.map (fun x : Fld × Fld => eFld x.1))), (1, .row .bor 2 (ps.map (fun x : Fld × Fld => eFld x.2))), (5, .int .i64 0)] = if allB eqB (ps) = true then some (.exit 0, [(0, .row .bor 2 (ps.map (fun x : Fld × Fld => eFld x.1))), (1, .row .bor 2 (ps.map (fun x : Fld × Fld => eFld x.2))), (5, .int .i64 ps.length), (14, .bool false)]) else some (.ret, [(4, .bool false)]) := by
  refine loop_all (f := evA (ev LI TT) (okT TT) l_eqFieldS_L0) (ps) (fun i => [(0, .row .bor 2 (ps.map (fun x : Fld × Fld => eFld x.1))), (1, .row .bor 2 (ps.map (fun x : Fld × Fld => eFld x.2))), (5, .int .i64 i)]) eqB _ _ (fun i b hi hl => ?_) ?_
  · have hw := wrap_succ i (by first | omega | (simp at hl; omega))
    obtain ⟨_, rfl⟩ := List.getElem?_eq_some_iff.1 hi
    have h := c_l_eqField  (ps[i]).1 (ps[i]).2 (hb1 _ (List.getElem_mem hl)); try simp at h
    simp -implicitDefEqProofs [l_eqFieldS_L0, l_eqFieldS_L0b, hl, hw, eqB, h]
  · simp -implicitDefEqProofs [l_eqFieldS_L0, l_eqFieldS_L0b]
theorem c_l_eqFieldS (a b : List Fld) (hb : wL wFld a ≤ 1073741824) : ev LI TT 97 [.row .bor 2 (a.map eFld), .row .bor 2 (b.map eFld)] = some (.bool (decide (a = b)), [.dead, .dead]) := by
  rw [ev_run (b := l_eqFieldS_b) (rs := [.t 4]) (n := 2) rfl rfl]
  simp -implicitDefEqProofs [l_eqFieldS_b]
  have hlen := wL_len (w := wFld) a 
  by_cases h : a.length = b.length 
  · obtain ⟨ps, rfl, rfl⟩ := zip_ex h 
    have h1 := L_l_eqFieldS  ps (by simp at hlen; omega) (fun x hx => Nat.le_trans (wL_mem (List.mem_map_of_mem hx)) hb) 
    have h2 := allB_eq ps 
    simp at h1 
    cases h3 : allB eqB ps <;> rw [h3] at h1 h2 <;> simp [h1, Function.comp_def, ← h2] 
  · have : ¬ a = b := fun e => h (by rw [e]) 
    simp [this] 
    omega
theorem c_l_szReq (a : Rq) (n : Int) (hb : bRq a) (hn : 0 ≤ n) (hm : n ≤ 9223372036854775807) : ev LI TT 56 [.agg ((eRq .bor) a), .int .i64 n] = some (.int .i64 (subW n (wRq a)), [.dead, .dead]) := by
  rw [ev_run (b := l_szReq_b) (rs := [.t 4]) (n := 2) rfl rfl]
  have hw : wRq a = a.path.length + wL wFld a.fields + a.body.length := rfl 
  have ht := subW_or n (wRq a) 
  have hl1 : a.path.length ≤ 9223372036854775807 := hb.k_path 
  obtain ⟨m1, e1⟩ : ∃ m, m = n - (a.path.length : Int) := ⟨_, rfl⟩ 
  have c1 : IntKind.i64.wrap (n - (a.path.length : Int)) = m1 := by rw [e1]; exact wrap_id (by omega) (by omega) 
  by_cases h1 : m1 < 0 
  · have ef : subW n (wRq a) = -1 := by omega 
    simp -implicitDefEqProofs [l_szReq_b, c1, h1, ef] 
  have c2 := c_l_szFieldS  a.fields m1 hb.k_fields (by omega) (by omega) 
  have s2 := subW_or m1 (wL wFld a.fields) 
  obtain ⟨m2, e2⟩ : ∃ m, m = subW m1 (wL wFld a.fields) := ⟨_, rfl⟩ 
  rw [← e2] at c2 s2 
  try simp at c2 
  by_cases h2 : m2 < 0 
  · have ef : subW n (wRq a) = -1 := by omega 
    simp -implicitDefEqProofs [l_szReq_b, c1, h1, c2, h2, ef] 
  have hl3 : a.body.length ≤ 9223372036854775807 := hb.k_body 
  obtain ⟨m3, e3⟩ : ∃ m, m = m2 - (a.body.length : Int) := ⟨_, rfl⟩ 
  have c3 : IntKind.i64.wrap (m2 - (a.body.length : Int)) = m3 := by rw [e3]; exact wrap_id (by omega) (by omega) 
  by_cases h3 : m3 < 0 
  · have ef : subW n (wRq a) = -1 := by omega 
    simp -implicitDefEqProofs [l_szReq_b, c1, h1, c2, h2, c3, h3, ef] 
  have ef : subW n (wRq a) = m3 := by omega
  simp -implicitDefEqProofs [l_szReq_b, c1, h1, c2, h2, c3, h3, ef]
  all_goals (repeat' split) <;> first | rfl | omega | (simp_all; done) | (simp_all; omega) | skip
theorem c_l_toReq (a : Rq) (hb : wRq a ≤ 1048576) : ev LI TT 62 [.agg ((eRq .bor) a)] = some (.agg ((eRq .own) a), [.dead]) := by
  rw [ev_run (b := l_toReq_b) (rs := [.c 2 4 true 48]) (n := 1) rfl rfl]
  have hw : wRq a = a.path.length + wL wFld a.fields + a.body.length := rfl 
  have h1 := c_l_toFieldS  a.fields (by omega) 
  try simp at h1
  simp -implicitDefEqProofs [l_toReq_b, h1, hw]
  all_goals (repeat' split) <;> first | rfl | omega | (simp_all; done) | (simp_all; omega) | skip
theorem c_l_eqReq (a b : Rq) (hb : wRq a ≤ 1073741824) : ev LI TT 68 [.agg ((eRq .bor) a), .agg ((eRq .bor) b)] = some (.bool (decide (a = b)), [.dead, .dead]) := by
  rw [ev_run (b := l_eqReq_b) (rs := [.t 4]) (n := 2) rfl rfl]
  have hw : wRq a = a.path.length + wL wFld a.fields + a.body.length := rfl 
  rw [dec_Rq] 
  by_cases g1 : a.method = b.method 
  rotate_left 
  · simp -implicitDefEqProofs [l_eqReq_b, eq_false g1] 
  by_cases g2 : a.path = b.path 
  rotate_left 
  · simp -implicitDefEqProofs [l_eqReq_b, eq_true g1, eq_false g2] 
  have c3 := c_l_eqFieldS  a.fields b.fields (by omega) 
  cases g3 : decide (a.fields = b.fields) 
  · rw [g3] at c3 
    try simp at c3 
    simp -implicitDefEqProofs [l_eqReq_b, eq_true g1, eq_true g2, c3] 
  rw [g3] at c3 
  try simp at c3 
  by_cases g4 : a.body = b.body 
  rotate_left 
  · simp -implicitDefEqProofs [l_eqReq_b, eq_true g1, eq_true g2, c3, eq_false g4]
  simp -implicitDefEqProofs [l_eqReq_b, eq_true g1, eq_true g2, c3, eq_true g4]
  all_goals (repeat' split) <;> first | rfl | omega | (simp_all; done) | (simp_all; omega) | skip
theorem c_l_szResp (a : Rsp) (n : Int) (hb : bRsp a) (hn : 0 ≤ n) (hm : n ≤ 9223372036854775807) : ev LI TT 57 [.agg ((eRsp .bor) a), .int .i64 n] = some (.int .i64 (subW n (wRsp a)), [.dead, .dead]) := by
  rw [ev_run (b := l_szResp_b) (rs := [.t 4]) (n := 2) rfl rfl]
  have hw : wRsp a = wL wFld a.fields + a.body.length := rfl 
  have ht := subW_or n (wRsp a) 
  have c1 := c_l_szFieldS  a.fields n hb.k_fields (by omega) (by omega) 
  have s1 := subW_or n (wL wFld a.fields) 
  obtain ⟨m1, e1⟩ : ∃ m, m = subW n (wL wFld a.fields) := ⟨_, rfl⟩ 
  rw [← e1] at c1 s1 
  try simp at c1 
  by_cases h1 : m1 < 0 
  · have ef : subW n (wRsp a) = -1 := by omega 
    simp -implicitDefEqProofs [l_szResp_b, c1, h1, ef] 
  have hl2 : a.body.length ≤ 9223372036854775807 := hb.k_body 
  obtain ⟨m2, e2⟩ : ∃ m, m = m1 - (a.body.length : Int) := ⟨_, rfl⟩ 
  have c2 : IntKind.i64.wrap (m1 - (a.body.length : Int)) = m2 := by rw [e2]; exact wrap_id (by omega) (by omega) 
  by_cases h2 : m2 < 0 
  · have ef : subW n (wRsp a) = -1 := by omega 
    simp -implicitDefEqProofs [l_szResp_b, c1, h1, c2, h2, ef] 
  have ef : subW n (wRsp a) = m2 := by omega
  simp -implicitDefEqProofs [l_szResp_b, c1, h1, c2, h2, ef]
  all_goals (repeat' split) <;> first | rfl | omega | (simp_all; done) | (simp_all; omega) | skip
theorem c_l_toResp (a : Rsp) (hb : wRsp a ≤ 1048576) : ev LI TT 63 [.agg ((eRsp .bor) a)] = some (.agg ((eRsp .own) a), [.dead]) := by
  rw [ev_run (b := l_toResp_b) (rs := [.c 2 3 true 50]) (n := 1) rfl rfl]
  have hw : wRsp a = wL wFld a.fields + a.body.length := rfl 
  have h1 := c_l_toFieldS  a.fields (by omega) 
  try simp at h1
  simp -implicitDefEqProofs [l_toResp_b, h1, hw]
  all_goals (repeat' split) <;> first | rfl | omega | (simp_all; done) | (simp_all; omega) | skip
theorem c_l_eqResp (a b : Rsp) (hb : wRsp a ≤ 1073741824) : ev LI TT 69 [.agg ((eRsp .bor) a), .agg ((eRsp .bor) b)] = some (.bool (decide (a = b)), [.dead, .dead]) := by
  rw [ev_run (b := l_eqResp_b) (rs := [.t 4]) (n := 2) rfl rfl]
  have hw : wRsp a = wL wFld a.fields + a.body.length := rfl 
  rw [dec_Rsp] 
  by_cases g1 : a.status = b.status 
  rotate_left 
  · simp -implicitDefEqProofs [l_eqResp_b, eq_false g1] 
  have c2 := c_l_eqFieldS  a.fields b.fields (by omega) 
  cases g2 : decide (a.fields = b.fields) 
  · rw [g2] at c2 
    try simp at c2 
    simp -implicitDefEqProofs [l_eqResp_b, eq_true g1, c2] 
  rw [g2] at c2 
  try simp at c2 
  by_cases g3 : a.body = b.body 
  rotate_left 
  · simp -implicitDefEqProofs [l_eqResp_b, eq_true g1, c2, eq_false g3]
  simp -implicitDefEqProofs [l_eqResp_b, eq_true g1, c2, eq_true g3]
  all_goals (repeat' split) <;> first | rfl | omega | (simp_all; done) | (simp_all; omega) | skip
theorem L_l_szStringS (l : List Str) (hlen : l.length ≤ 9223372036854775807) (hb : bL bS l) (n : Int) (hn : 0 ≤ n) (hm : n ≤ 9223372036854775807) : loopW (evA (ev LI TT) (okT TT) l_szStringS_L0) [(0, .row .bor 1 (l.map (eS))), (1, .int .i64 n), (5, .int .i64 0)] = if szL (fun b n => subW n (wS b)) (l) n < 0 then some (.ret, [(4, .int .i64 (-1))]) else some (.exit 0, [(0, .row .bor 1 (l.map (eS))), (1, .int .i64 (szL (fun b n => subW n (wS b)) (l) n)), (5, .int .i64 (l).length), (15, .bool false)]) := by
  refine loop_sz (f := evA (ev LI TT) (okT TT) l_szStringS_L0) (l) (fun i n => [(0, .row .bor 1 (l.map (eS))), (1, .int .i64 n), (5, .int .i64 i)]) (fun b n => subW n (wS b)) _ (fun n => [(0, .row .bor 1 (l.map (eS))), (1, .int .i64 n), (5, .int .i64 (l).length), (15, .bool false)]) n hn hm (fun b n => subW_le _ n) (fun i b n hi hl hn hm => ?_) (fun n => ?_)
  · have hw := wrap_succ i (by first | omega | (simp at hl; omega))
    obtain ⟨_, rfl⟩ := List.getElem?_eq_some_iff.1 hi
    have h1 : (l[i]).length ≤ 9223372036854775807 := hb.2 _ (List.getElem_mem hl) 
    have h3 := subW_or n (wS l[i]) 
    have h4 : wS l[i] = (l[i]).length := rfl 
    obtain ⟨m, e1⟩ : ∃ m, m = n - ((l[i]).length : Int) := ⟨_, rfl⟩ 
    have h2 : IntKind.i64.wrap (n - ((l[i]).length : Int)) = m := by rw [e1]; exact wrap_id (by omega) (by omega) 
    by_cases h5 : m < 0 
    · have ef : subW n (wS l[i]) = -1 := by omega 
      simp -implicitDefEqProofs [l_szStringS_L0, l_szStringS_L0b, hl, hw, h2, h5, ef] 
    have ef : subW n (wS l[i]) = m := by omega
    simp -implicitDefEqProofs [l_szStringS_L0, l_szStringS_L0b, hl, hw, h2, h5, ef]
  · simp -implicitDefEqProofs [l_szStringS_L0, l_szStringS_L0b]
theorem c_l_szStringS (l : List Str) (n : Int) (hb : bL bS l) (hn : 0 ≤ n) (hm : n ≤ 9223372036854775807) : ev LI TT 92 [.row .bor 1 (l.map (eS)), .int .i64 n] = some (.int .i64 (subW n (wL wS l)), [.dead, .dead]) := by
  rw [ev_run (b := l_szStringS_b) (rs := [.t 4]) (n := 2) rfl rfl]
  have hl := hb.1 
  have hw : wL wS l = l.length + (l.map wS).sum := rfl 
  have ht := subW_or n (wL wS l) 
  obtain ⟨m, e1⟩ : ∃ m, m = n - (l.length : Int) := ⟨_, rfl⟩ 
  have h2 : IntKind.i64.wrap (n - (l.length : Int)) = m := by rw [e1]; exact wrap_id (by omega) (by omega) 
  by_cases h : m < 0 
  · have ef : subW n (wL wS l) = -1 := by omega 
    simp -implicitDefEqProofs [l_szStringS_b, h2, h, ef] 
  have h3 := L_l_szStringS  l hb.1 hb m (by omega) (by omega) 
  rw [szL_subW _ _ _ (by omega)] at h3 
  have hs := subW_or m (l.map wS).sum 
  obtain ⟨q, e2⟩ : ∃ q, q = subW m (l.map wS).sum := ⟨_, rfl⟩ 
  rw [← e2] at h3 hs 
  try simp at h3 
  by_cases h4 : q < 0 
  · have ef : subW n (wL wS l) = -1 := by omega 
    simp only [h4, if_true] at h3 
    simp -implicitDefEqProofs [l_szStringS_b, h2, h, h3, ef] 
  have ef : subW n (wL wS l) = q := by omega 
  simp only [h4, if_false] at h3
  simp -implicitDefEqProofs [l_szStringS_b, h2, h, h3, ef]
  all_goals (repeat' split) <;> first | rfl | omega | (simp_all; done) | (simp_all; omega) | skip
theorem L_l_toStringS (l : List Str) (hlen : l.length ≤ 1048576) (hb : wL wS l ≤ 1048576) : loopW (evA (ev LI TT) (okT TT) l_toStringS_L0) [(0, .row .bor 1 (l.map eS)), (3, .row .own 1 (fillN (l.map eS) 0 [.str ⟨#[]⟩])), (4, .int .i64 0), (6, .int .i64 l.length)] = some (.exit 0, [(0, .row .bor 1 (l.map eS)), (3, .row .own 1 (l.map eS)), (4, .int .i64 (l).length), (6, .int .i64 l.length), (11, .bool false)]) := by
  refine loop_count (f := evA (ev LI TT) (okT TT) l_toStringS_L0) (l) (fun i => [(0, .row .bor 1 (l.map eS)), (3, .row .own 1 (fillN (l.map eS) i [.str ⟨#[]⟩])), (4, .int .i64 i), (6, .int .i64 l.length)]) _ (fun i b hi hl => ?_) ?_
  · have hw := wrap_succ i (by first | omega | (simp at hl; omega))
    obtain ⟨_, rfl⟩ := List.getElem?_eq_some_iff.1 hi
    skip
    simp -implicitDefEqProofs [l_toStringS_L0, l_toStringS_L0b, hl, hw]
    first | done | (rw [fillN_set _ _ _ _ (by simpa using hl) (by simp)]; done) | (simp only [modify_two]; rw [fillN_set _ _ _ _ (by simpa using hl) (by simp)])
  · simp -implicitDefEqProofs [l_toStringS_L0, l_toStringS_L0b]
theorem c_l_toStringS (l : List Str) (hb : wL wS l ≤ 1048576) : ev LI TT 95 [.row .bor 1 (l.map eS)] = some (.row .own 1 (l.map eS), [.dead]) := by
  rw [ev_run (b := l_toStringS_b) (rs := [.t 2]) (n := 1) rfl rfl]
  have hlen := wL_len (w := wS) l 
  have h := L_l_toStringS  l (by omega) hb 
  try simp at h
  simp -implicitDefEqProofs [l_toStringS_b, h, (by omega : (l.length : Int) * 16 ≤ 140737488355328)]
  all_goals (repeat' split) <;> first | rfl | omega | (simp_all; done) | (simp_all; omega) | skip
theorem L_l_eqStringS (ps : List (Str × Str)) (hb : ps.length ≤ 9223372036854775807) (hb1 : ∀ x ∈ ps, wS x.1 ≤ 1073741824) : loopW (evA (ev LI TT) (okT TT) l_eqStringS_L0) [(0, .row .bor 1 (ps.map (fun x : Str × Str => eS x.1))), (1, .row .bor 1 (ps.map (fun x : Str × Str => eS x.2))), (5, .int .i64 0)] = if allB eqB (ps) = true then some (.exit 0, [(0, .row .bor 1 (ps.map (fun x : Str × Str => eS x.1))), (1, .row .bor 1 (ps.map (fun x : Str × Str => eS x.2))), (5, .int .i64 ps.length), (14, .bool false)]) else some (.ret, [(4, .bool false)]) := by
  refine loop_all (f := evA (ev LI TT) (okT TT) l_eqStringS_L0) (ps) (fun i => [(0, .row .bor 1 (ps.map (fun x : Str × Str => eS x.1))), (1, .row .bor 1 (ps.map (fun x : Str × Str => eS x.2))), (5, .int .i64 i)]) eqB _ _ (fun i b hi hl => ?_) ?_
  · have hw := wrap_succ i (by first | omega | (simp at hl; omega))
    obtain ⟨_, rfl⟩ := List.getElem?_eq_some_iff.1 hi
    simp -implicitDefEqProofs [l_eqStringS_L0, l_eqStringS_L0b, hl, hw, eqB]
    first | done | (split <;> simp_all)
  · simp -implicitDefEqProofs [l_eqStringS_L0, l_eqStringS_L0b]
theorem c_l_eqStringS (a b : List Str) (hb : wL wS a ≤ 1073741824) : ev LI TT 98 [.row .bor 1 (a.map eS), .row .bor 1 (b.map eS)] = some (.bool (decide (a = b)), [.dead, .dead]) := by
  rw [ev_run (b := l_eqStringS_b) (rs := [.t 4]) (n := 2) rfl rfl]
  simp -implicitDefEqProofs [l_eqStringS_b]
  have hlen := wL_len (w := wS) a 
  by_cases h : a.length = b.length 
  · obtain ⟨ps, rfl, rfl⟩ := zip_ex h 
    have h1 := L_l_eqStringS  ps (by simp at hlen; omega) (fun x hx => Nat.le_trans (wL_mem (List.mem_map_of_mem hx)) hb) 
    have h2 := allB_eq ps 
    simp at h1 
    cases h3 : allB eqB ps <;> rw [h3] at h1 h2 <;> simp [h1, Function.comp_def, ← h2] 
  · have : ¬ a = b := fun e => h (by rw [e]) 
    simp [this] 
    omega
theorem c_l_szObj (a : Ob) (n : Int) (hb : bOb a) (hn : 0 ≤ n) (hm : n ≤ 9223372036854775807) : ev LI TT 58 [.agg ((eOb .bor) a), .int .i64 n] = some (.int .i64 (subW n (wOb a)), [.dead, .dead]) := by
  rw [ev_run (b := l_szObj_b) (rs := [.t 4]) (n := 2) rfl rfl]
  have hw : wOb a = a.path.length + wL wS a.names + wL wS a.values + wRsp a.resp := rfl 
  have ht := subW_or n (wOb a) 
  have hl1 : a.path.length ≤ 9223372036854775807 := hb.k_path 
  obtain ⟨m1, e1⟩ : ∃ m, m = n - (a.path.length : Int) := ⟨_, rfl⟩ 
  have c1 : IntKind.i64.wrap (n - (a.path.length : Int)) = m1 := by rw [e1]; exact wrap_id (by omega) (by omega) 
  by_cases h1 : m1 < 0 
  · have ef : subW n (wOb a) = -1 := by omega 
    simp -implicitDefEqProofs [l_szObj_b, c1, h1, ef] 
  have c2 := c_l_szStringS  a.names m1 hb.k_names (by omega) (by omega) 
  have s2 := subW_or m1 (wL wS a.names) 
  obtain ⟨m2, e2⟩ : ∃ m, m = subW m1 (wL wS a.names) := ⟨_, rfl⟩ 
  rw [← e2] at c2 s2 
  try simp at c2 
  by_cases h2 : m2 < 0 
  · have ef : subW n (wOb a) = -1 := by omega 
    simp -implicitDefEqProofs [l_szObj_b, c1, h1, c2, h2, ef] 
  have c3 := c_l_szStringS  a.values m2 hb.k_values (by omega) (by omega) 
  have s3 := subW_or m2 (wL wS a.values) 
  obtain ⟨m3, e3⟩ : ∃ m, m = subW m2 (wL wS a.values) := ⟨_, rfl⟩ 
  rw [← e3] at c3 s3 
  try simp at c3 
  by_cases h3 : m3 < 0 
  · have ef : subW n (wOb a) = -1 := by omega 
    simp -implicitDefEqProofs [l_szObj_b, c1, h1, c2, h2, c3, h3, ef] 
  have c4 := c_l_szResp  a.resp m3 hb.k_resp (by omega) (by omega) 
  have s4 := subW_or m3 (wRsp a.resp) 
  obtain ⟨m4, e4⟩ : ∃ m, m = subW m3 (wRsp a.resp) := ⟨_, rfl⟩ 
  rw [← e4] at c4 s4 
  try simp at c4 
  by_cases h4 : m4 < 0 
  · have ef : subW n (wOb a) = -1 := by omega 
    simp -implicitDefEqProofs [l_szObj_b, c1, h1, c2, h2, c3, h3, c4, h4, ef] 
  have ef : subW n (wOb a) = m4 := by omega
  simp -implicitDefEqProofs [l_szObj_b, c1, h1, c2, h2, c3, h3, c4, h4, ef]
  all_goals (repeat' split) <;> first | rfl | omega | (simp_all; done) | (simp_all; omega) | skip
theorem c_l_toObj (a : Ob) (hb : wOb a ≤ 1048576) : ev LI TT 64 [.agg ((eOb .bor) a)] = some (.agg ((eOb .own) a), [.dead]) := by
  rw [ev_run (b := l_toObj_b) (rs := [.c 2 7 true 52]) (n := 1) rfl rfl]
  have hw : wOb a = a.path.length + wL wS a.names + wL wS a.values + wRsp a.resp := rfl 
  have h1 := c_l_toStringS  a.names (by omega) 
  try simp at h1 
  have h2 := c_l_toStringS  a.values (by omega) 
  try simp at h2 
  have h3 := c_l_toResp  a.resp (by omega) 
  try simp at h3
  simp -implicitDefEqProofs [l_toObj_b, h1, h2, h3, hw]
  all_goals (repeat' split) <;> first | rfl | omega | (simp_all; done) | (simp_all; omega) | skip
theorem c_l_eqObj (a b : Ob) (hb : wOb a ≤ 1073741824) : ev LI TT 70 [.agg ((eOb .bor) a), .agg ((eOb .bor) b)] = some (.bool (decide (a = b)), [.dead, .dead]) := by
  rw [ev_run (b := l_eqObj_b) (rs := [.t 4]) (n := 2) rfl rfl]
  have hw : wOb a = a.path.length + wL wS a.names + wL wS a.values + wRsp a.resp := rfl 
  rw [dec_Ob] 
  by_cases g1 : a.path = b.path 
  rotate_left 
  · simp -implicitDefEqProofs [l_eqObj_b, eq_false g1] 
  have c2 := c_l_eqStringS  a.names b.names (by omega) 
  cases g2 : decide (a.names = b.names) 
  · rw [g2] at c2 
    try simp at c2 
    simp -implicitDefEqProofs [l_eqObj_b, eq_true g1, c2] 
  rw [g2] at c2 
  try simp at c2 
  have c3 := c_l_eqStringS  a.values b.values (by omega) 
  cases g3 : decide (a.values = b.values) 
  · rw [g3] at c3 
    try simp at c3 
    simp -implicitDefEqProofs [l_eqObj_b, eq_true g1, c2, c3] 
  rw [g3] at c3 
  try simp at c3 
  have c4 := c_l_eqResp  a.resp b.resp (by omega) 
  cases g4 : decide (a.resp = b.resp) 
  · rw [g4] at c4 
    try simp at c4 
    simp -implicitDefEqProofs [l_eqObj_b, eq_true g1, c2, c3, c4] 
  rw [g4] at c4 
  try simp at c4 
  by_cases g5 : a.t = b.t 
  rotate_left 
  · simp -implicitDefEqProofs [l_eqObj_b, eq_true g1, c2, c3, c4, eq_false g5]
  simp -implicitDefEqProofs [l_eqObj_b, eq_true g1, c2, c3, c4, eq_true g5]
  all_goals (repeat' split) <;> first | rfl | omega | (simp_all; done) | (simp_all; omega) | skip
theorem c_l_szReply (a : Rp) (n : Int) (hb : bRp a) (hn : 0 ≤ n) (hm : n ≤ 9223372036854775807) : ev LI TT 20 [.agg ((eRp .bor) a), .int .i64 n] = some (.int .i64 (subW n (wRp a)), [.dead, .dead]) := by
  rw [ev_run (b := l_szReply_b) (rs := [.t 4]) (n := 2) rfl rfl]
  have hw : wRp a = wRq a.q + wRsp a.resp + wOb a.obj := rfl 
  have ht := subW_or n (wRp a) 
  have c1 := c_l_szReq  a.q n hb.k_q (by omega) (by omega) 
  have s1 := subW_or n (wRq a.q) 
  obtain ⟨m1, e1⟩ : ∃ m, m = subW n (wRq a.q) := ⟨_, rfl⟩ 
  rw [← e1] at c1 s1 
  try simp at c1 
  by_cases h1 : m1 < 0 
  · have ef : subW n (wRp a) = -1 := by omega 
    simp -implicitDefEqProofs [l_szReply_b, c1, h1, ef] 
  have c2 := c_l_szResp  a.resp m1 hb.k_resp (by omega) (by omega) 
  have s2 := subW_or m1 (wRsp a.resp) 
  obtain ⟨m2, e2⟩ : ∃ m, m = subW m1 (wRsp a.resp) := ⟨_, rfl⟩ 
  rw [← e2] at c2 s2 
  try simp at c2 
  by_cases h2 : m2 < 0 
  · have ef : subW n (wRp a) = -1 := by omega 
    simp -implicitDefEqProofs [l_szReply_b, c1, h1, c2, h2, ef] 
  have c3 := c_l_szObj  a.obj m2 hb.k_obj (by omega) (by omega) 
  have s3 := subW_or m2 (wOb a.obj) 
  obtain ⟨m3, e3⟩ : ∃ m, m = subW m2 (wOb a.obj) := ⟨_, rfl⟩ 
  rw [← e3] at c3 s3 
  try simp at c3 
  by_cases h3 : m3 < 0 
  · have ef : subW n (wRp a) = -1 := by omega 
    simp -implicitDefEqProofs [l_szReply_b, c1, h1, c2, h2, c3, h3, ef] 
  have ef : subW n (wRp a) = m3 := by omega
  simp -implicitDefEqProofs [l_szReply_b, c1, h1, c2, h2, c3, h3, ef]
  all_goals (repeat' split) <;> first | rfl | omega | (simp_all; done) | (simp_all; omega) | skip
theorem c_l_toReply (a : Rp) (hb : wRp a ≤ 1048576) : ev LI TT 22 [.agg ((eRp .bor) a)] = some (.agg ((eRp .own) a), [.dead]) := by
  rw [ev_run (b := l_toReply_b) (rs := [.c 2 18 true 54]) (n := 1) rfl rfl]
  have hw : wRp a = wRq a.q + wRsp a.resp + wOb a.obj := rfl 
  have h1 := c_l_toReq  a.q (by omega) 
  try simp at h1 
  have h2 := c_l_toResp  a.resp (by omega) 
  try simp at h2 
  have h3 := c_l_toObj  a.obj (by omega) 
  try simp at h3
  simp -implicitDefEqProofs [l_toReply_b, h1, h2, h3, hw]
  all_goals (repeat' split) <;> first | rfl | omega | (simp_all; done) | (simp_all; omega) | skip
theorem c_l_eqReply (a b : Rp) (hb : wRp a ≤ 1073741824) : ev LI TT 24 [.agg ((eRp .bor) a), .agg ((eRp .bor) b)] = some (.bool (decide (a = b)), [.dead, .dead]) := by
  rw [ev_run (b := l_eqReply_b) (rs := [.t 4]) (n := 2) rfl rfl]
  have hw : wRp a = wRq a.q + wRsp a.resp + wOb a.obj := rfl 
  rw [dec_Rp] 
  by_cases g1 : a.client = b.client 
  rotate_left 
  · simp -implicitDefEqProofs [l_eqReply_b, eq_false g1] 
  have c2 := c_l_eqReq  a.q b.q (by omega) 
  cases g2 : decide (a.q = b.q) 
  · rw [g2] at c2 
    try simp at c2 
    simp -implicitDefEqProofs [l_eqReply_b, eq_true g1, c2] 
  rw [g2] at c2 
  try simp at c2 
  have c3 := c_l_eqResp  a.resp b.resp (by omega) 
  cases g3 : decide (a.resp = b.resp) 
  · rw [g3] at c3 
    try simp at c3 
    simp -implicitDefEqProofs [l_eqReply_b, eq_true g1, c2, c3] 
  rw [g3] at c3 
  try simp at c3 
  by_cases g4 : a.kind = b.kind 
  rotate_left 
  · simp -implicitDefEqProofs [l_eqReply_b, eq_true g1, c2, c3, eq_false g4] 
  by_cases g5 : a.t = b.t 
  rotate_left 
  · simp -implicitDefEqProofs [l_eqReply_b, eq_true g1, c2, c3, eq_true g4, eq_false g5] 
  have c6 := c_l_eqObj  a.obj b.obj (by omega) 
  cases g6 : decide (a.obj = b.obj) 
  · rw [g6] at c6 
    try simp at c6 
    simp -implicitDefEqProofs [l_eqReply_b, eq_true g1, c2, c3, eq_true g4, eq_true g5, c6] 
  rw [g6] at c6 
  try simp at c6 
  by_cases g7 : a.bans = b.bans 
  rotate_left 
  · simp -implicitDefEqProofs [l_eqReply_b, eq_true g1, c2, c3, eq_true g4, eq_true g5, c6, eq_false g7]
  simp -implicitDefEqProofs [l_eqReply_b, eq_true g1, c2, c3, eq_true g4, eq_true g5, c6, eq_true g7]
  all_goals (repeat' split) <;> first | rfl | omega | (simp_all; done) | (simp_all; omega) | skip
end M
set_option linter.unusedVariables false
set_option linter.unusedSimpArgs false
namespace M
open Go
@[simp] theorem c_s_l1In (x : Int) (lo : Int) (hi : Int) : ev LI TT 54 [.int .i64 x, .int .i64 lo, .int .i64 hi] = some (.bool ((decide (lo ≤ x ∧ x ≤ hi))), [.dead, .dead, .dead]) := by
  rw [ev_run (b := s_l1In_b) (rs := [.t 6]) (n := 3) rfl rfl]
  simp -implicitDefEqProofs [s_l1In_b]
  try (by_cases h1 : lo ≤ x <;> by_cases h2 : x ≤ hi <;> simp [h1, h2])
@[simp] theorem c_i_inRange (x : Int) (lo : Int) (hi : Int) : ev LI TT 52 [.int .i64 x, .int .i64 lo, .int .i64 hi] = some (.bool ((decide (lo ≤ x ∧ x ≤ hi))), [.dead, .dead, .dead]) := by
  rw [ev_run (b := i_inRange_b) (rs := [.t 6]) (n := 3) rfl rfl]
  simp -implicitDefEqProofs [i_inRange_b]
  try (by_cases h1 : lo ≤ x <;> by_cases h2 : x ≤ hi <;> simp [h1, h2])
end M
set_option linter.unusedVariables false
set_option linter.unusedSimpArgs false
namespace M
open Go
def nsp (b : UInt8) : Bool := decide ¬ (b.toNat : Int) = 32
end M
set_option linter.unusedVariables false
set_option linter.unusedSimpArgs false
namespace M
open Go
theorem nsp_iff (b : UInt8) : nsp b = true ↔ b ≠ 32 := by
  unfold nsp
  have : ((b.toNat : Int) = 32) ↔ b = 32 := by
    constructor
    · intro h; exact UInt8.toNat_inj.1 (by have e : (32 : UInt8).toNat = 32 := rfl; omega)
    · rintro rfl; rfl
  simp [this]
theorem trimL_until (s : Str) : Lib.trimLeftB s 32 = s.drop (untilI nsp s) := by
  refine Lib.trimLeftB_drop s 32 _ (untilI_le _ _) (fun j b hj hb => ?_) fun b hb => (nsp_iff b).1 (untilI_at _ _ _ hb)
  have := untilI_before _ _ _ _ hj hb
  by_cases h : b = 32
  · exact h
  · rw [(nsp_iff b).2 h] at this; cases this
theorem trimR_until (s : Str) : Lib.trimRightB s 32 = s.take (s.length - untilI nsp s.reverse) := by
  have h := trimL_until s.reverse
  unfold Lib.trimLeftB at h
  unfold Lib.trimRightB
  rw [h, List.drop_reverse, List.reverse_reverse]
theorem trimS_cut (s : Str) : (s.drop (untilI nsp s)).take (s.length - untilI nsp (s.drop (untilI nsp s)).reverse - untilI nsp s) = trimS s := by
  rw [trimS_left, trimL_until, trimR_until, List.length_drop]
  congr 1
  omega
theorem c_i_NumText (n : Int) : ev LI TT 66 [.int .i64 n] = some (.str ⟨(numText n).toArray⟩, [.dead]) := by
  rw [ev_run (b := i_NumText_b) (rs := [.t 2]) (n := 1) rfl rfl]
  unfold numText 
  by_cases hn : 0 ≤ n ∧ n ≤ 1000000 
  rotate_left 
  · have hf : (decide (0 ≤ n) && decide (n ≤ 1000000)) = false := by simp; omega 
    simp -implicitDefEqProofs [i_NumText_b, hn, hf] 
  obtain ⟨k, rfl⟩ : ∃ k : Nat, n = k := ⟨n.toNat, by omega⟩
  have u1 := c_x_strconv_Itoa  k (by omega)
  try simp at u1
  simp -implicitDefEqProofs [i_NumText_b, u1, hn]
  all_goals (repeat' split) <;> first | rfl | omega | (simp_all; done) | (simp_all; omega) | skip
end M
set_option linter.unusedVariables false
set_option linter.unusedSimpArgs false
namespace M
open Go
def lowOut (s : Str) : Str := lowS s
theorem set_low (s : Str) (i : Nat) (h : i < s.length) (x : UInt8) (hx : x = lowB s[i]) : (lowS (s.take i) ++ s.drop i).set i x = lowS (s.take (i + 1)) ++ s.drop (i + 1) := by
  subst hx
  rw [List.set_append_right _ _ (by simp [lowS]; omega), List.drop_eq_getElem_cons h]
  have : i - (lowS (s.take i)).length = 0 := by simp [lowS]; omega
  rw [this, List.take_succ_eq_append_getElem h]
  simp only [List.set_cons_zero, lowS, List.map_append, List.map_cons, List.map_nil, List.append_assoc, List.cons_append, List.nil_append]
theorem set_same_low (s : Str) (i : Nat) (h : i < s.length) (hx : lowB s[i] = s[i]) : lowS (s.take i) ++ s.drop i = lowS (s.take (i + 1)) ++ s.drop (i + 1) := by
  rw [List.take_succ_eq_append_getElem h, List.drop_eq_getElem_cons h]
  simp only [lowS, hx, List.map_append, List.map_cons, List.map_nil, List.append_assoc, List.cons_append, List.nil_append]
theorem eU_set (l : Str) (i : Nat) (x : Int) (b : UInt8) (hx : x = (b.toNat : Int)) : (l.map eU).modify i (fun e => e.set 0 (X.int .u8 x)) = (l.set i b).map eU := by
  subst hx
  apply List.ext_getElem?
  intro j
  rw [List.getElem?_modify, List.getElem?_map, List.getElem?_map, List.getElem?_set]
  by_cases h : i = j
  · subst h
    by_cases h2 : i < l.length
    · simp [h2]
    · simp [h2, List.getElem?_eq_none (Nat.le_of_not_lt h2)]
  · simp only [h, if_false]
    cases l[j]? <;> rfl
end M
set_option linter.unusedVariables false
set_option linter.unusedSimpArgs false
namespace M
open Go
theorem L_s_NumText (n : Nat) (out : Str) (hn : out.length + n ≤ 9223372036854775807) : loopW (evA (ev LI TT) (okT TT) s_NumText_L0) [(0, .int .i64 n), (3, .str ⟨out.toArray⟩)] = some (.exit 0, [(0, .int .i64 0), (3, .str ⟨(markD n out).toArray⟩), (10, .bool false)]) := by
  have hs : ∀ s, evA (ev LI TT) (okT TT) s_NumText_L0 s = evA (ev LI TT) (okT TT) s_NumText_L0b s := fun _ => rfl
  induction n using Nat.strongRecOn generalizing out with
  | ind n ih =>
    rw [loopW_eq, hs]
    unfold markD
    by_cases h : n = 0
    · subst h
      simp -implicitDefEqProofs [s_NumText_L0b]
    · have hp : 0 < n := by omega
      have := ih (n / 10) (by omega) (UInt8.ofNat (48 + n % 10) :: out) (by rw [List.length_cons]; omega)
      have e1 : ((n : Int)).tmod 10 = ((n % 10 : Nat) : Int) := by rw [Int.tmod_eq_emod_of_nonneg (by omega)]; omega
      have e4 : ((n : Int)).tdiv 10 = ((n / 10 : Nat) : Int) := by rw [Int.tdiv_eq_ediv_of_nonneg (by omega)]; omega
      have e2 : IntKind.i64.wrap (48 + ((n % 10 : Nat) : Int)) = ((48 + n % 10 : Nat) : Int) := by rw [wrap_id (by omega) (by omega)]; omega
      have e3 : IntKind.u8.wrap ((48 + n % 10 : Nat) : Int) = ((48 + n % 10 : Nat) : Int) := wrap8_id' (by omega) (by omega)
      have e5 := u8s_one' (48 + n % 10) (by omega)
      have e6 : IntKind.i64.wrap ((n / 10 : Nat) : Int) = ((n / 10 : Nat) : Int) := wrap_id (by omega) (by omega)
      simp only [h, dite_false]
      rw [← this]
      simp -implicitDefEqProofs [s_NumText_L0b, hp, litB, e1, e2, e3, e4, e5, e6, -Int.natCast_emod, -Int.natCast_ediv, -Int.natCast_add, -UInt8.ofNat_add, str_append, (by omega : 1 + out.length ≤ 9223372036854775807)]
theorem c_s_NumText (n : Int) : ev LI TT 60 [.int .i64 n] = some (.str ⟨(numText n).toArray⟩, [.dead]) := by
  rw [ev_run (b := s_NumText_b) (rs := [.t 2]) (n := 1) rfl rfl]
  unfold numText 
  by_cases hn : 0 ≤ n ∧ n ≤ 1000000 
  rotate_left 
  · have hf : (decide (0 ≤ n) && decide (n ≤ 1000000)) = false := by simp; omega 
    simp -implicitDefEqProofs [s_NumText_b, hn, hf] 
  obtain ⟨k, rfl⟩ : ∃ k : Nat, n = k := ⟨n.toNat, by omega⟩ 
  by_cases h : k = 0 
  · subst h; simp -implicitDefEqProofs [s_NumText_b, digS_zero] 
  have h1 := L_s_NumText k [] (by simp; omega) 
  rw [markD_dig k [] h, List.append_nil] at h1
  simp -implicitDefEqProofs [s_NumText_b, hn, h, h1]
  all_goals (repeat' split) <;> first | rfl | omega | (simp_all; done) | (simp_all; omega) | skip
theorem numText_len (n : Int) : (numText n).length ≤ 7 := by
  unfold numText
  split
  · exact digS_len7 _ (by omega)
  · simp
theorem foldI_foldl {β γ : Type} (go : γ → β → γ) : ∀ (l : List β) (i : Nat) (g : γ), foldI (fun _ g b => go g b) i l g = l.foldl go g
  | [], _, _ => rfl
  | b :: l, i, g => by rw [foldI, foldI_foldl go l, List.foldl_cons]
end M
set_option linter.unusedVariables false
set_option linter.unusedSimpArgs false
namespace M
open Go
def spF (w : Str) : List Str := if trimS w ≠ [] then [trimS w] else []
theorem opt_cases (s : Str) (i : Nat) (h : i < (s.map some ++ [none]).length) : (∃ hi : i < s.length, (s.map some ++ [none])[i] = some s[i]) ∨ (i = s.length ∧ (s.map some ++ [none])[i] = none) := by
  by_cases hi : i < s.length
  · refine .inl ⟨hi, ?_⟩
    rw [List.getElem_append_left (by simpa using hi)]
    simp
  · simp at h
    obtain rfl : i = s.length := by omega
    refine .inr ⟨rfl, ?_⟩
    rw [List.getElem_append_right (by simp)]
    simp
theorem spF_len (w : Str) : (spF w).length ≤ 1 := by unfold spF; split <;> simp
theorem goW_inv (c : UInt8) (f : Str → List Str) (hf : ∀ w, (f w).length ≤ 1) (s : Str) (i : Nat) (g : List Str × Nat) (b : Option UInt8) (h : g.2 ≤ i ∧ g.1.length ≤ i) : (goW c f s i g b).2 ≤ i + 1 ∧ (goW c f s i g b).1.length ≤ i + 1 := by
  unfold goW
  have := hf ((s.take i).drop g.2)
  split
  · split
    · simp; omega
    · omega
  · simp; omega
end M
set_option linter.unusedVariables false
set_option linter.unusedSimpArgs false
namespace M
open Go
theorem L_s_l2At (fs : List Fld) (n : Str) (hb : fs.length ≤ 9223372036854775807) : loopW (evA (ev LI TT) (okT TT) s_l2At_L0) [(0, .row .bor 2 (fs.map eFld)), (1, .str ⟨n.toArray⟩), (5, .int .i64 0)] = (firstI (fun f => decide (f.name = n)) 0 (fs)).elim (some (.exit 0, [(0, .row .bor 2 (fs.map eFld)), (1, .str ⟨n.toArray⟩), (5, .int .i64 (fs).length), (9, .bool false)])) fun x => some (.ret, (fun (i : Nat) b => [(4, .int .i64 i)]) x.1 x.2) := by
  refine loop_first (f := evA (ev LI TT) (okT TT) s_l2At_L0) (fs) (fun i => [(0, .row .bor 2 (fs.map eFld)), (1, .str ⟨n.toArray⟩), (5, .int .i64 i)]) (fun f => decide (f.name = n)) (fun (i : Nat) b => [(4, .int .i64 i)]) _ (fun i b hi hl => ?_) ?_
  · have hw := wrap_succ i (by first | omega | (simp at hl; omega))
    obtain ⟨_, rfl⟩ := List.getElem?_eq_some_iff.1 hi
    simp -implicitDefEqProofs [s_l2At_L0, s_l2At_L0b, hl, hw]
  · simp -implicitDefEqProofs [s_l2At_L0, s_l2At_L0b]
theorem c_s_l2At (fs : List Fld) (n : Str) (hb : fs.length ≤ 9223372036854775807) : ev LI TT 93 [.row .bor 2 (fs.map eFld), .str ⟨n.toArray⟩] = some (.int .i64 (atI (atF fs n)), [.dead, .dead]) := by
  rw [ev_run (b := s_l2At_b) (rs := [.t 4]) (n := 2) rfl rfl]
  have h := L_s_l2At  fs n hb 
  rw [show firstI (fun f => decide (f.name = n)) 0 fs = atF fs n from rfl] at h 
  simp at h 
  cases g : atF fs n with 
  | none => rw [g] at h; simp at h; simp -implicitDefEqProofs [s_l2At_b, h, atI] 
  | some x => 
  rw [g] at h 
  simp at h
  simp -implicitDefEqProofs [s_l2At_b, h, atI]
  all_goals (repeat' split) <;> first | rfl | omega | (simp_all; done) | (simp_all; omega) | skip
theorem c_s_Get (fs : List Fld) (n : Str) (hb : fs.length ≤ 9223372036854775807) : ev LI TT 61 [.row .bor 2 (fs.map eFld), .str ⟨n.toArray⟩] = some (.tup [.str ⟨((gtF fs n).getD []).toArray⟩, .bool (gtF fs n).isSome], [.dead, .dead]) := by
  rw [ev_run (b := s_Get_b) (rs := [.t 4, .t 5]) (n := 2) rfl rfl]
  have h := c_s_l2At  fs n hb 
  unfold gtF 
  cases g : atF fs n with 
  | none => rw [g] at h; simp [atI] at h; simp -implicitDefEqProofs [s_Get_b, h] 
  | some x => 
  obtain ⟨i, b⟩ := x 
  rw [g] at h 
  obtain ⟨h1, h2, h3⟩ := firstI_some g 
  simp at h2 
  simp [atI] at h 
  have hi : i < fs.length := (List.getElem?_eq_some_iff.1 h2).1 
  obtain ⟨_, rfl⟩ := List.getElem?_eq_some_iff.1 h2
  simp -implicitDefEqProofs [s_Get_b, h, hi]
  all_goals (repeat' split) <;> first | rfl | omega | (simp_all; done) | (simp_all; omega) | skip
theorem c_i_fieldAt_1 (f : Fld) (n : Str) : ev LI TT 115 [.agg (eFld f), .ptr .bor [.str ⟨n.toArray⟩]] = some (.bool (decide (f.name = n)), [.dead, .dead]) := by
  rw [ev_run (b := i_fieldAt_1_b) (rs := [.t 3]) (n := 2) rfl rfl]
  simp -implicitDefEqProofs [i_fieldAt_1_b]
  all_goals (repeat' split) <;> first | rfl | omega | (simp_all; done) | (simp_all; omega) | skip
theorem L_x_slices_IndexFunc_impl_Field_impl_Field (fs : List Fld) (n : Str) (hb : fs.length ≤ 9223372036854775807) : loopW (evA (ev LI TT) (okT TT) x_slices_IndexFunc_impl_Field_impl_Field_L0) [(0, .row .bor 2 (fs.map eFld)), (1, .fn 115 [.ptr .bor [.str ⟨n.toArray⟩]]), (7, .int .i64 fs.length), (8, .int .i64 0)] = (firstI (fun f => decide (f.name = n)) 0 (fs)).elim (some (.exit 0, [(0, .row .bor 2 (fs.map eFld)), (1, .fn 115 [.ptr .bor [.str ⟨n.toArray⟩]]), (7, .int .i64 fs.length), (8, .int .i64 (fs).length), (9, .bool false)])) fun x => some (.ret, (fun (i : Nat) b => [(4, .int .i64 i)]) x.1 x.2) := by
  refine loop_first (f := evA (ev LI TT) (okT TT) x_slices_IndexFunc_impl_Field_impl_Field_L0) (fs) (fun i => [(0, .row .bor 2 (fs.map eFld)), (1, .fn 115 [.ptr .bor [.str ⟨n.toArray⟩]]), (7, .int .i64 fs.length), (8, .int .i64 i)]) (fun f => decide (f.name = n)) (fun (i : Nat) b => [(4, .int .i64 i)]) _ (fun i b hi hl => ?_) ?_
  · have hw := wrap_succ i (by first | omega | (simp at hl; omega))
    obtain ⟨_, rfl⟩ := List.getElem?_eq_some_iff.1 hi
    have ho : okT TT 115 = true := rfl 
    have hf := c_i_fieldAt_1  fs[i] n 
    simp at hf
    simp -implicitDefEqProofs [x_slices_IndexFunc_impl_Field_impl_Field_L0, x_slices_IndexFunc_impl_Field_impl_Field_L0b, hl, hw, ho, isFn, hf]
  · simp -implicitDefEqProofs [x_slices_IndexFunc_impl_Field_impl_Field_L0, x_slices_IndexFunc_impl_Field_impl_Field_L0b]
theorem c_x_slices_IndexFunc_impl_Field_impl_Field (fs : List Fld) (n : Str) (hb : fs.length ≤ 9223372036854775807) : ev LI TT 114 [.row .bor 2 (fs.map eFld), .fn 115 [.ptr .bor [.str ⟨n.toArray⟩]]] = some (.int .i64 (atI (atF fs n)), [.dead, .dead]) := by
  rw [ev_run (b := x_slices_IndexFunc_impl_Field_impl_Field_b) (rs := [.t 4]) (n := 2) rfl rfl]
  have h := L_x_slices_IndexFunc_impl_Field_impl_Field  fs n hb 
  rw [show firstI (fun f => decide (f.name = n)) 0 fs = atF fs n from rfl] at h 
  simp at h 
  cases g : atF fs n with 
  | none => rw [g] at h; simp at h; simp -implicitDefEqProofs [x_slices_IndexFunc_impl_Field_impl_Field_b, h, atI] 
  | some x => 
  rw [g] at h 
  simp at h
  simp -implicitDefEqProofs [x_slices_IndexFunc_impl_Field_impl_Field_b, h, atI]
  all_goals (repeat' split) <;> first | rfl | omega | (simp_all; done) | (simp_all; omega) | skip
theorem c_i_fieldAt (fs : List Fld) (n : Str) (hb : fs.length ≤ 9223372036854775807) : ev LI TT 96 [.row .bor 2 (fs.map eFld), .str ⟨n.toArray⟩] = some (.int .i64 (atI (atF fs n)), [.dead, .dead]) := by
  rw [ev_run (b := i_fieldAt_b) (rs := [.t 4]) (n := 2) rfl rfl]
  have h := c_x_slices_IndexFunc_impl_Field_impl_Field  fs n hb
  simp -implicitDefEqProofs [i_fieldAt_b, h, resAL, resA]
  all_goals (repeat' split) <;> first | rfl | omega | (simp_all; done) | (simp_all; omega) | skip
theorem c_i_Get (fs : List Fld) (n : Str) (hb : fs.length ≤ 9223372036854775807) : ev LI TT 67 [.row .bor 2 (fs.map eFld), .str ⟨n.toArray⟩] = some (.tup [.str ⟨((gtF fs n).getD []).toArray⟩, .bool (gtF fs n).isSome], [.dead, .dead]) := by
  rw [ev_run (b := i_Get_b) (rs := [.t 4, .t 5]) (n := 2) rfl rfl]
  have h := c_i_fieldAt  fs n hb 
  unfold gtF 
  cases g : atF fs n with 
  | none => rw [g] at h; simp [atI] at h; simp -implicitDefEqProofs [i_Get_b, h] 
  | some x => 
  obtain ⟨i, b⟩ := x 
  rw [g] at h 
  obtain ⟨h1, h2, h3⟩ := firstI_some g 
  simp at h2 
  simp [atI] at h 
  have hi : i < fs.length := (List.getElem?_eq_some_iff.1 h2).1 
  obtain ⟨_, rfl⟩ := List.getElem?_eq_some_iff.1 h2
  simp -implicitDefEqProofs [i_Get_b, h, hi]
  all_goals (repeat' split) <;> first | rfl | omega | (simp_all; done) | (simp_all; omega) | skip
end M
set_option linter.unusedVariables false
set_option linter.unusedSimpArgs false
namespace M
open Go
def kindT (k : Int) : Str := if k = 1 then [104, 101, 114, 101] else if k = 2 then [116, 104, 101, 114, 101] else if k = 3 then [115, 97, 109, 101] else if k = 4 then [110, 111, 116] else []
theorem kindT_len (k : Int) : (kindT k).length ≤ 5 := by
  unfold kindT
  (repeat' split) <;> simp
theorem c_i_KindText (k : Int) : ev LI TT 65 [.int .i64 k] = some (.str ⟨(kindT k).toArray⟩, [.dead]) := by
  rw [ev_run (b := i_KindText_b) (rs := [.t 2]) (n := 1) rfl rfl]
  have hk : (k < 1 ∨ 4 < k) ∨ k = 1 ∨ k = 2 ∨ k = 3 ∨ k = 4 := by omega 
  rcases hk with h | rfl | rfl | rfl | rfl 
  · have : kindT k = [] := by unfold kindT; rw [if_neg (by omega), if_neg (by omega), if_neg (by omega), if_neg (by omega)] 
    simp -implicitDefEqProofs [i_KindText_b, this, h] 
  all_goals
  simp -implicitDefEqProofs [i_KindText_b, kindT, solidsB, sizesB, litB, wrap_id]
  all_goals (repeat' split) <;> first | rfl | omega | (simp_all; done) | (simp_all; omega) | skip
theorem c_s_KindText (k : Int) : ev LI TT 59 [.int .i64 k] = some (.str ⟨(kindT k).toArray⟩, [.dead]) := by
  rw [ev_run (b := s_KindText_b) (rs := [.t 2]) (n := 1) rfl rfl]
  have hk : (k < 1 ∨ 4 < k) ∨ k = 1 ∨ k = 2 ∨ k = 3 ∨ k = 4 := by omega 
  rcases hk with h | rfl | rfl | rfl | rfl 
  · have : kindT k = [] := by unfold kindT; rw [if_neg (by omega), if_neg (by omega), if_neg (by omega), if_neg (by omega)] 
    simp -implicitDefEqProofs [s_KindText_b, this, h] 
  all_goals
  simp -implicitDefEqProofs [s_KindText_b, kindT, solidsB, sizesB, litB, wrap_id]
  all_goals (repeat' split) <;> first | rfl | omega | (simp_all; done) | (simp_all; omega) | skip
def nmAge0 : Str := [97, 103, 101]
def replyText (a : Rp) : Str := if kindT a.kind = [] then [] else
  let o := numText a.client ++ (32 :: kindT a.kind) ++ (32 :: numText a.resp.status)
  match gtF a.resp.fields nmAge0 with
  | some v => o ++ 32 :: v
  | none => o
theorem c_s_ReplyText (a : Rp) (h : wRp a ≤ 1048576) : ev LI TT 21 [.agg (eRp .bor a)] = some (.str ⟨(replyText a).toArray⟩, [.dead]) := by
  rw [ev_run (b := s_ReplyText_b) (rs := [.t 2]) (n := 1) rfl rfl]
  have q1 : wRp a = wRq a.q + wRsp a.resp + wOb a.obj := rfl 
  have q2 : wRsp a.resp = wL wFld a.resp.fields + a.resp.body.length := rfl 
  have q3 := wL_len (w := wFld) a.resp.fields 
  have q4 := gtF_len a.resp.fields nmAge0 
  have q5 := kindT_len a.kind 
  have q6 := numText_len a.client 
  have q7 := numText_len a.resp.status 
  have hag : (⟨#[97, 103, 101]⟩ : ByteArray) = ⟨nmAge0.toArray⟩ := rfl 
  have h32 : (⟨#[32]⟩ : ByteArray) = ⟨([32] : Str).toArray⟩ := rfl 
  unfold replyText
  have u1 := c_s_KindText  a.kind
  try simp at u1
  have u2 := c_s_NumText  a.client
  try simp at u2
  have u3 := c_s_NumText  a.resp.status
  try simp at u3
  have u4 := c_s_Get  a.resp.fields nmAge0 (by omega)
  try simp at u4
  by_cases g1 : kindT a.kind = [] 
  · simp -implicitDefEqProofs [s_ReplyText_b, u1, u2, u3, u4, g1] 
  cases g2 : gtF a.resp.fields nmAge0 with 
  | none => 
    rw [g2] at u4; simp at u4 
    simp -implicitDefEqProofs [s_ReplyText_b, u1, u2, u3, u4, g1, g2, hag, h32, str_append] 
    try omega 
  | some v => 
  rw [g2] at u4 q4; simp at u4 q4
  simp -implicitDefEqProofs [s_ReplyText_b, u1, u2, u3, u4, g1, g2, hag, h32, str_append]
  try omega
theorem c_i_ReplyText (a : Rp) (h : wRp a ≤ 1048576) : ev LI TT 23 [.agg (eRp .bor a)] = some (.str ⟨(replyText a).toArray⟩, [.dead]) := by
  rw [ev_run (b := i_ReplyText_b) (rs := [.t 2]) (n := 1) rfl rfl]
  have q1 : wRp a = wRq a.q + wRsp a.resp + wOb a.obj := rfl 
  have q2 : wRsp a.resp = wL wFld a.resp.fields + a.resp.body.length := rfl 
  have q3 := wL_len (w := wFld) a.resp.fields 
  have q4 := gtF_len a.resp.fields nmAge0 
  have q5 := kindT_len a.kind 
  have q6 := numText_len a.client 
  have q7 := numText_len a.resp.status 
  have hag : (⟨#[97, 103, 101]⟩ : ByteArray) = ⟨nmAge0.toArray⟩ := rfl 
  have h32 : (⟨#[32]⟩ : ByteArray) = ⟨([32] : Str).toArray⟩ := rfl 
  unfold replyText
  have u1 := c_i_KindText  a.kind
  try simp at u1
  have u2 := c_i_NumText  a.client
  try simp at u2
  have u3 := c_i_NumText  a.resp.status
  try simp at u3
  have u4 := c_i_Get  a.resp.fields nmAge0 (by omega)
  try simp at u4
  by_cases g1 : kindT a.kind = [] 
  · simp -implicitDefEqProofs [i_ReplyText_b, u1, u2, u3, u4, g1] 
  cases g2 : gtF a.resp.fields nmAge0 with 
  | none => 
    rw [g2] at u4; simp at u4 
    simp -implicitDefEqProofs [i_ReplyText_b, u1, u2, u3, u4, g1, g2, hag, h32, str_append] 
    try omega 
  | some v => 
  rw [g2] at u4 q4; simp at u4 q4
  simp -implicitDefEqProofs [i_ReplyText_b, u1, u2, u3, u4, g1, g2, hag, h32, str_append]
  try omega
end M
set_option linter.unusedVariables false
set_option linter.unusedSimpArgs false
set_option maxHeartbeats 4000000
namespace M
open Go
theorem law_FnExactReplyText (a0 : Rp) (k0 : bRp a0) : ∃ ps, ev LI TT 5 [.agg (eRp .sl a0)] = some (.bool true, ps) := by
  rw [ev_run (b := l_FnExactReplyText_b) (rs := [.t 2]) (n := 1) rfl rfl]
  have s0 := c_l_szReply a0 1048576 k0 (by omega) (by omega)
  have w0 := subW_or 1048576 (wRp a0)
  obtain ⟨m0, e0⟩ : ∃ m, m = subW 1048576 (wRp a0) := ⟨_, rfl⟩
  rw [← e0] at s0 w0
  try simp at s0
  by_cases z0 : m0 < 0
  · simp -implicitDefEqProofs [l_FnExactReplyText_b, s0, z0]
  have t0 := c_l_toReply a0 (by omega)
  try simp at t0
  have q0 := c_l_eqReply a0 a0 (by omega)
  try simp at q0
  have hS := c_s_ReplyText a0 (by omega)
  have hI := c_i_ReplyText a0 (by omega)
  try simp at hS
  try simp at hI
  simp -implicitDefEqProofs [l_FnExactReplyText_b, s0, z0, t0, q0, hS, hI]
end M
