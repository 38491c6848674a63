/- What the functions come to in the machine; no conditions. -/
import Derived.Test.YtcldaglhkhfhaaaGreatDoorTab
import Derived.Test.YtcldaglhkhfhaaaGreatDoorMd
set_option linter.unusedSectionVars false
set_option linter.unusedVariables false
set_option linter.unusedSimpArgs false
namespace M
open Go
end M
set_option linter.unusedVariables false
set_option linter.unusedSimpArgs false
namespace M
open Go
@[simp] theorem c_s_l1In (x : Int) (lo : Int) (hi : Int) : ev LI TT 36 [.int .i64 x, .int .i64 lo, .int .i64 hi] = some (.bool ((decide (lo ≤ x ∧ x ≤ hi))), [.dead, .dead, .dead]) := by
  rw [ev_run (b := s_l1In_b) (rs := [.t 6]) (n := 3) rfl rfl]
  simp -implicitDefEqProofs [s_l1In_b]
  try (by_cases h1 : lo ≤ x <;> by_cases h2 : x ≤ hi <;> simp [h1, h2])
@[simp] theorem c_i_inRange (x : Int) (lo : Int) (hi : Int) : ev LI TT 43 [.int .i64 x, .int .i64 lo, .int .i64 hi] = some (.bool ((decide (lo ≤ x ∧ x ≤ hi))), [.dead, .dead, .dead]) := by
  rw [ev_run (b := i_inRange_b) (rs := [.t 6]) (n := 3) rfl rfl]
  simp -implicitDefEqProofs [i_inRange_b]
  try (by_cases h1 : lo ≤ x <;> by_cases h2 : x ≤ hi <;> simp [h1, h2])
theorem L_s_TokenOk (s : Str) (hb : s.length ≤ 9223372036854775807) : loopW (evA (ev LI TT) (okT TT) s_TokenOk_L0) [(0, .str ⟨s.toArray⟩), (3, .int .i64 0)] = if allB tokB (s) = true then some (.exit 0, [(0, .str ⟨s.toArray⟩), (3, .int .i64 (s).length), (8, .bool false)]) else some (.ret, [(2, .bool false)]) := by
  refine loop_all (f := evA (ev LI TT) (okT TT) s_TokenOk_L0) (s) (fun i => [(0, .str ⟨s.toArray⟩), (3, .int .i64 i)]) tokB _ _ (fun i b hi hl => ?_) ?_
  · have hw := wrap_succ i (by first | omega | (simp at hl; omega))
    obtain ⟨_, rfl⟩ := List.getElem?_eq_some_iff.1 hi
    unfold tokB
    simp -implicitDefEqProofs [s_TokenOk_L0, s_TokenOk_L0b, hl, hw]
    all_goals (repeat' split) <;> first | rfl | omega | (simp_all; done) | (simp_all; omega) | skip
  · simp -implicitDefEqProofs [s_TokenOk_L0, s_TokenOk_L0b]
theorem c_s_TokenOk (s : Str) (hb : s.length ≤ 9223372036854775807) : ev LI TT 94 [.str ⟨s.toArray⟩] = some (.bool ((tokenOk s)), [.dead]) := by
  rw [ev_run (b := s_TokenOk_b) (rs := [.t 2]) (n := 1) rfl rfl]
  unfold tokenOk
  have u1 := L_s_TokenOk  s hb
  try simp at u1
  simp -implicitDefEqProofs [s_TokenOk_b, u1]
  all_goals (repeat' split) <;> first | rfl | omega | (simp_all; done) | (simp_all; omega) | skip
theorem L_i_TokenOk (s : Str) (hb : s.length ≤ 9223372036854775807) : loopW (evA (ev LI TT) (okT TT) i_TokenOk_L0) [(0, .str ⟨s.toArray⟩), (3, .int .i64 0)] = if allB tokB (s) = true then some (.exit 0, [(0, .str ⟨s.toArray⟩), (3, .int .i64 (s).length), (7, .bool false)]) else some (.ret, [(2, .bool false)]) := by
  refine loop_all (f := evA (ev LI TT) (okT TT) i_TokenOk_L0) (s) (fun i => [(0, .str ⟨s.toArray⟩), (3, .int .i64 i)]) tokB _ _ (fun i b hi hl => ?_) ?_
  · have hw := wrap_succ i (by first | omega | (simp at hl; omega))
    obtain ⟨_, rfl⟩ := List.getElem?_eq_some_iff.1 hi
    unfold tokB
    simp -implicitDefEqProofs [i_TokenOk_L0, i_TokenOk_L0b, hl, hw]
    all_goals (repeat' split) <;> first | rfl | omega | (simp_all; done) | (simp_all; omega) | skip
  · simp -implicitDefEqProofs [i_TokenOk_L0, i_TokenOk_L0b]
theorem c_i_TokenOk (s : Str) (hb : s.length ≤ 9223372036854775807) : ev LI TT 56 [.str ⟨s.toArray⟩] = some (.bool ((tokenOk s)), [.dead]) := by
  rw [ev_run (b := i_TokenOk_b) (rs := [.t 2]) (n := 1) rfl rfl]
  unfold tokenOk
  have u1 := L_i_TokenOk  s hb
  try simp at u1
  simp -implicitDefEqProofs [i_TokenOk_b, u1]
  all_goals (repeat' split) <;> first | rfl | omega | (simp_all; done) | (simp_all; omega) | skip
theorem L_i_areFrom (s : Str) (lo : UInt8) (hb : s.length ≤ 9223372036854775807) : loopW (evA (ev LI TT) (okT TT) i_areFrom_L0) [(0, .str ⟨s.toArray⟩), (1, .int .u8 (lo.toNat : Int)), (5, .int .i64 0)] = if allB (visB lo.toNat) (s) = true then some (.exit 0, [(0, .str ⟨s.toArray⟩), (1, .int .u8 (lo.toNat : Int)), (5, .int .i64 (s).length), (9, .bool false)]) else some (.ret, [(4, .bool false)]) := by
  refine loop_all (f := evA (ev LI TT) (okT TT) i_areFrom_L0) (s) (fun i => [(0, .str ⟨s.toArray⟩), (1, .int .u8 (lo.toNat : Int)), (5, .int .i64 i)]) (visB lo.toNat) _ _ (fun i b hi hl => ?_) ?_
  · have hw := wrap_succ i (by first | omega | (simp at hl; omega))
    obtain ⟨_, rfl⟩ := List.getElem?_eq_some_iff.1 hi
    unfold visB
    simp -implicitDefEqProofs [i_areFrom_L0, i_areFrom_L0b, hl, hw]
    all_goals (repeat' split) <;> first | rfl | omega | (simp_all; done) | (simp_all; omega) | skip
  · simp -implicitDefEqProofs [i_areFrom_L0, i_areFrom_L0b]
theorem c_i_areFrom (s : Str) (lo : UInt8) (hb : s.length ≤ 9223372036854775807) : ev LI TT 112 [.str ⟨s.toArray⟩, .int .u8 (lo.toNat : Int)] = some (.bool ((allB (visB lo.toNat) s)), [.dead, .dead]) := by
  rw [ev_run (b := i_areFrom_b) (rs := [.t 4]) (n := 2) rfl rfl]
  have u1 := L_i_areFrom  s lo hb
  try simp at u1
  simp -implicitDefEqProofs [i_areFrom_b, u1]
  all_goals (repeat' split) <;> first | rfl | omega | (simp_all; done) | (simp_all; omega) | skip
end M
set_option linter.unusedVariables false
set_option linter.unusedSimpArgs false
namespace M
open Go
def nsp (b : UInt8) : Bool := decide ¬ (b.toNat : Int) = 32
theorem L_s_Trim (s : Str) (hb : s.length ≤ 9223372036854775807) : loopW (evA (ev LI TT) (okT TT) s_Trim_L0) [(0, .str ⟨s.toArray⟩), (3, .int .i64 0), (4, .int .i64 s.length)] = some (.exit 0, (fun (i : Nat) => [(0, .str ⟨s.toArray⟩), (3, .int .i64 i), (4, .int .i64 s.length), (15, .bool false)]) (untilI nsp (s))) := by
  refine loop_until (f := evA (ev LI TT) (okT TT) s_Trim_L0) (s) (fun i => [(0, .str ⟨s.toArray⟩), (3, .int .i64 i), (4, .int .i64 s.length)]) nsp (fun (i : Nat) => [(0, .str ⟨s.toArray⟩), (3, .int .i64 i), (4, .int .i64 s.length), (15, .bool false)]) (fun i b hi hl => ?_) ?_
  · have hw := wrap_succ i (by first | omega | (simp at hl; omega))
    obtain ⟨_, rfl⟩ := List.getElem?_eq_some_iff.1 hi
    simp -implicitDefEqProofs [s_Trim_L0, s_Trim_L0b, hl, hw, nsp]
    all_goals (repeat' split) <;> first | rfl | omega | (simp_all; done) | (simp_all; omega) | skip
  · simp -implicitDefEqProofs [s_Trim_L0, s_Trim_L0b]
theorem L_s_Trim_L1 (s : Str) (k : Nat) (hk : k ≤ s.length) (hb : s.length ≤ 9223372036854775807) : loopW (evA (ev LI TT) (okT TT) s_Trim_L1) [(0, .str ⟨s.toArray⟩), (3, .int .i64 k), (4, .int .i64 ((s.length - 0 : Nat) : Int))] = some (.exit 2, (fun (i : Nat) => [(0, .str ⟨s.toArray⟩), (3, .int .i64 k), (4, .int .i64 ((s.length - i : Nat) : Int)), (27, .bool false)]) (untilI nsp ((s.drop k).reverse))) := by
  refine loop_until (f := evA (ev LI TT) (okT TT) s_Trim_L1) ((s.drop k).reverse) (fun i => [(0, .str ⟨s.toArray⟩), (3, .int .i64 k), (4, .int .i64 ((s.length - i : Nat) : Int))]) nsp (fun (i : Nat) => [(0, .str ⟨s.toArray⟩), (3, .int .i64 k), (4, .int .i64 ((s.length - i : Nat) : Int)), (27, .bool false)]) (fun i b hi hl => ?_) ?_
  · have hw := wrap_succ i (by first | omega | (simp at hl; omega))
    obtain ⟨_, rfl⟩ := List.getElem?_eq_some_iff.1 hi
    simp at hl 
    obtain ⟨m, hm⟩ : ∃ m, s.length - i = m + 1 := ⟨s.length - i - 1, by omega⟩ 
    have e1 : s.length - (i + 1) = m := by omega 
    have e2 : IntKind.i64.wrap (m : Int) = m := wrap_id (by omega) (by omega) 
    have e3 : m < s.length := by omega 
    have e4 : ((s.drop k).reverse)[i] = s[m] := by simp; congr 1; omega 
    have e5 : (k : Int) < (m : Int) + 1 := by omega 
    rw [e4, hm, e1]
    simp -implicitDefEqProofs [s_Trim_L1, s_Trim_L1b, hl, hw, nsp, e2, e3, e5]
    try (rw [List.getElem?_eq_getElem e3]; simp [e2]) 
    all_goals (repeat' split) <;> first | rfl | omega | (simp_all; done) | (simp_all; omega) | skip
  · simp only [List.length_reverse, List.length_drop, show s.length - (s.length - k) = k by omega] 
    simp -implicitDefEqProofs [s_Trim_L1, s_Trim_L1b]
end M
set_option linter.unusedVariables false
set_option linter.unusedSimpArgs false
namespace M
open Go
theorem nsp_iff (b : UInt8) : nsp b = true ↔ b ≠ 32 := by
  unfold nsp
  have : ((b.toNat : Int) = 32) ↔ b = 32 := by
    constructor
    · intro h; exact UInt8.toNat_inj.1 (by have e : (32 : UInt8).toNat = 32 := rfl; omega)
    · rintro rfl; rfl
  simp [this]
theorem trimL_until (s : Str) : Lib.trimLeftB s 32 = s.drop (untilI nsp s) := by
  refine Lib.trimLeftB_drop s 32 _ (untilI_le _ _) (fun j b hj hb => ?_) fun b hb => (nsp_iff b).1 (untilI_at _ _ _ hb)
  have := untilI_before _ _ _ _ hj hb
  by_cases h : b = 32
  · exact h
  · rw [(nsp_iff b).2 h] at this; cases this
theorem trimR_until (s : Str) : Lib.trimRightB s 32 = s.take (s.length - untilI nsp s.reverse) := by
  have h := trimL_until s.reverse
  unfold Lib.trimLeftB at h
  unfold Lib.trimRightB
  rw [h, List.drop_reverse, List.reverse_reverse]
theorem trimS_cut (s : Str) : (s.drop (untilI nsp s)).take (s.length - untilI nsp (s.drop (untilI nsp s)).reverse - untilI nsp s) = trimS s := by
  rw [trimS_left, trimL_until, trimR_until, List.length_drop]
  congr 1
  omega
theorem c_s_Trim (s : Str) (hb : s.length ≤ 9223372036854775807) : ev LI TT 135 [.str ⟨s.toArray⟩] = some (.str ⟨(trimS s).toArray⟩, [.dead]) := by
  rw [ev_run (b := s_Trim_b) (rs := [.t 2]) (n := 1) rfl rfl]
  have h1 := untilI_le nsp s 
  have h2 := untilI_le nsp (s.drop (untilI nsp s)).reverse 
  simp only [List.length_reverse, List.length_drop] at h2 
  have h3 := trimS_cut s
  have u1 := L_s_Trim  s hb
  try simp at u1
  have u2 := L_s_Trim_L1  s (untilI nsp s) (untilI_le _ _) hb
  try simp at u2
  simp -implicitDefEqProofs [s_Trim_b, u1, u2, (by omega : (untilI nsp s : Int) ≤ ((s.length - untilI nsp (s.drop (untilI nsp s)).reverse : Nat) : Int)), (by omega : ((s.length - untilI nsp (s.drop (untilI nsp s)).reverse : Nat) : Int) ≤ s.length), Lib.extract_mk, h3]
  all_goals (repeat' split) <;> first | rfl | omega | (simp_all; done) | (simp_all; omega) | skip
theorem c_i_Trim (s : Str) (hb : s.length ≤ 9223372036854775807) : ev LI TT 113 [.str ⟨s.toArray⟩] = some (.str ⟨(trimS s).toArray⟩, [.dead]) := by
  rw [ev_run (b := i_Trim_b) (rs := [.t 2]) (n := 1) rfl rfl]
  have u1 := c_x_strings_Trim  s hb
  try simp at u1
  simp -implicitDefEqProofs [i_Trim_b, u1]
  all_goals (repeat' split) <;> first | rfl | omega | (simp_all; done) | (simp_all; omega) | skip
theorem L_s_ValueOk (s : Str) (hb : s.length ≤ 9223372036854775807) : loopW (evA (ev LI TT) (okT TT) s_ValueOk_L0) [(0, .str ⟨s.toArray⟩), (3, .int .i64 0)] = if allB (visB 32) (s) = true then some (.exit 0, [(0, .str ⟨s.toArray⟩), (3, .int .i64 (s).length), (7, .bool false)]) else some (.ret, [(2, .bool false)]) := by
  refine loop_all (f := evA (ev LI TT) (okT TT) s_ValueOk_L0) (s) (fun i => [(0, .str ⟨s.toArray⟩), (3, .int .i64 i)]) (visB 32) _ _ (fun i b hi hl => ?_) ?_
  · have hw := wrap_succ i (by first | omega | (simp at hl; omega))
    obtain ⟨_, rfl⟩ := List.getElem?_eq_some_iff.1 hi
    unfold visB
    simp -implicitDefEqProofs [s_ValueOk_L0, s_ValueOk_L0b, hl, hw]
    all_goals (repeat' split) <;> first | rfl | omega | (simp_all; done) | (simp_all; omega) | skip
  · simp -implicitDefEqProofs [s_ValueOk_L0, s_ValueOk_L0b]
theorem c_s_ValueOk (s : Str) (hb : s.length ≤ 9223372036854775807) : ev LI TT 95 [.str ⟨s.toArray⟩] = some (.bool ((valueOk s)), [.dead]) := by
  rw [ev_run (b := s_ValueOk_b) (rs := [.t 2]) (n := 1) rfl rfl]
  unfold valueOk
  have u1 := L_s_ValueOk  s hb
  try simp at u1
  have u2 := c_s_Trim  s hb
  try simp at u2
  by_cases g1 : allB (visB 32) s = true
  rotate_left
  · simp -implicitDefEqProofs [s_ValueOk_b, u1, u2, g1]
  by_cases g2 : 1 ≤ (s.length : Int)
  rotate_left
  · simp -implicitDefEqProofs [s_ValueOk_b, u1, u2, g1, eq_false g2]
  by_cases g3 : (s.length : Int) ≤ 60
  rotate_left
  · simp -implicitDefEqProofs [s_ValueOk_b, u1, u2, g1, eq_true g2, eq_false g3]
  simp -implicitDefEqProofs [s_ValueOk_b, u1, u2, g1, eq_true g2, eq_true g3]
  all_goals (repeat' split) <;> first | rfl | omega | (simp_all; done) | (simp_all; omega) | skip
theorem c_i_ValueOk (s : Str) (hb : s.length ≤ 9223372036854775807) : ev LI TT 57 [.str ⟨s.toArray⟩] = some (.bool ((valueOk s)), [.dead]) := by
  rw [ev_run (b := i_ValueOk_b) (rs := [.t 2]) (n := 1) rfl rfl]
  unfold valueOk 
  have e32 : (32 : UInt8).toNat = 32 := rfl
  have u1 := c_i_areFrom  s 32 hb
  try simp at u1
  have u2 := c_i_Trim  s hb
  try simp at u2
  by_cases g1 : 1 ≤ (s.length : Int)
  rotate_left
  · simp -implicitDefEqProofs [i_ValueOk_b, u1, u2, eq_false g1]
  by_cases g2 : (s.length : Int) ≤ 60
  rotate_left
  · simp -implicitDefEqProofs [i_ValueOk_b, u1, u2, eq_true g1, eq_false g2]
  by_cases g3 : allB (visB 32) s = true
  rotate_left
  · simp -implicitDefEqProofs [i_ValueOk_b, u1, u2, eq_true g1, eq_true g2, g3]
  simp -implicitDefEqProofs [i_ValueOk_b, u1, u2, eq_true g1, eq_true g2, g3]
  all_goals (repeat' split) <;> first | rfl | omega | (simp_all; done) | (simp_all; omega) | skip
theorem L_s_l3Path (s : Str) (hb : s.length ≤ 9223372036854775807) : loopW (evA (ev LI TT) (okT TT) s_l3Path_L0) [(0, .str ⟨s.toArray⟩), (3, .int .i64 0)] = if allB (visB 33) (s) = true then some (.exit 0, [(0, .str ⟨s.toArray⟩), (3, .int .i64 (s).length), (7, .bool false)]) else some (.ret, [(2, .bool false)]) := by
  refine loop_all (f := evA (ev LI TT) (okT TT) s_l3Path_L0) (s) (fun i => [(0, .str ⟨s.toArray⟩), (3, .int .i64 i)]) (visB 33) _ _ (fun i b hi hl => ?_) ?_
  · have hw := wrap_succ i (by first | omega | (simp at hl; omega))
    obtain ⟨_, rfl⟩ := List.getElem?_eq_some_iff.1 hi
    unfold visB
    simp -implicitDefEqProofs [s_l3Path_L0, s_l3Path_L0b, hl, hw]
    all_goals (repeat' split) <;> first | rfl | omega | (simp_all; done) | (simp_all; omega) | skip
  · simp -implicitDefEqProofs [s_l3Path_L0, s_l3Path_L0b]
theorem c_s_l3Path (s : Str) (hb : s.length ≤ 9223372036854775807) : ev LI TT 93 [.str ⟨s.toArray⟩] = some (.bool ((pathOk s)), [.dead]) := by
  rw [ev_run (b := s_l3Path_b) (rs := [.t 2]) (n := 1) rfl rfl]
  unfold pathOk
  have u1 := L_s_l3Path  s hb
  try simp at u1
  by_cases g1 : allB (visB 33) s = true
  rotate_left
  · simp -implicitDefEqProofs [s_l3Path_b, u1, g1]
  by_cases g2 : 1 ≤ (s.length : Int)
  rotate_left
  · simp -implicitDefEqProofs [s_l3Path_b, u1, g1, eq_false g2]
  by_cases g3 : (s.length : Int) ≤ 60
  rotate_left
  · simp -implicitDefEqProofs [s_l3Path_b, u1, g1, eq_true g2, eq_false g3]
  obtain ⟨b, hb0⟩ : ∃ b, s[0]? = some b := ⟨s[0]'(by omega), by simp⟩
  simp -implicitDefEqProofs [s_l3Path_b, u1, g1, eq_true g2, eq_true g3, hb0]
  all_goals (repeat' split) <;> first | rfl | omega | (simp_all; done) | (simp_all; omega) | skip
theorem c_i_pathOk (s : Str) (hb : s.length ≤ 9223372036854775807) : ev LI TT 55 [.str ⟨s.toArray⟩] = some (.bool ((pathOk s)), [.dead]) := by
  rw [ev_run (b := i_pathOk_b) (rs := [.t 2]) (n := 1) rfl rfl]
  unfold pathOk 
  have e33 : (33 : UInt8).toNat = 33 := rfl
  have u1 := c_i_areFrom  s 33 hb
  try simp at u1
  by_cases g1 : 1 ≤ (s.length : Int)
  rotate_left
  · simp -implicitDefEqProofs [i_pathOk_b, u1, eq_false g1]
  by_cases g2 : (s.length : Int) ≤ 60
  rotate_left
  · simp -implicitDefEqProofs [i_pathOk_b, u1, eq_true g1, eq_false g2]
  obtain ⟨b, hb0⟩ : ∃ b, s[0]? = some b := ⟨s[0]'(by omega), by simp⟩ 
  by_cases h47 : (b.toNat : Int) = 47 
  all_goals
  simp -implicitDefEqProofs [i_pathOk_b, u1, eq_true g1, eq_true g2, hb0, h47]
  all_goals (repeat' split) <;> first | rfl | omega | (simp_all; done) | (simp_all; omega) | skip
@[simp] theorem c_i_isTime (t : Int) : ev LI TT 54 [.int .i64 t] = some (.bool ((decide (0 ≤ t ∧ t ≤ 1000000))), [.dead]) := by
  rw [ev_run (b := i_isTime_b) (rs := [.t 2]) (n := 1) rfl rfl]
  simp -implicitDefEqProofs [i_isTime_b]
  all_goals (repeat' split) <;> first | rfl | omega | (simp_all; done) | (simp_all; omega) | skip
theorem c_i_NumText (n : Int) : ev LI TT 52 [.int .i64 n] = some (.str ⟨(numText n).toArray⟩, [.dead]) := by
  rw [ev_run (b := i_NumText_b) (rs := [.t 2]) (n := 1) rfl rfl]
  unfold numText 
  by_cases hn : 0 ≤ n ∧ n ≤ 1000000 
  rotate_left 
  · have hf : (decide (0 ≤ n) && decide (n ≤ 1000000)) = false := by simp; omega 
    simp -implicitDefEqProofs [i_NumText_b, hn, hf] 
  obtain ⟨k, rfl⟩ : ∃ k : Nat, n = k := ⟨n.toNat, by omega⟩
  have u1 := c_x_strconv_Itoa  k (by omega)
  try simp at u1
  simp -implicitDefEqProofs [i_NumText_b, u1, hn]
  all_goals (repeat' split) <;> first | rfl | omega | (simp_all; done) | (simp_all; omega) | skip
end M
set_option linter.unusedVariables false
set_option linter.unusedSimpArgs false
namespace M
open Go
def lowOut (s : Str) : Str := lowS s
theorem set_low (s : Str) (i : Nat) (h : i < s.length) (x : UInt8) (hx : x = lowB s[i]) : (lowS (s.take i) ++ s.drop i).set i x = lowS (s.take (i + 1)) ++ s.drop (i + 1) := by
  subst hx
  rw [List.set_append_right _ _ (by simp [lowS]; omega), List.drop_eq_getElem_cons h]
  have : i - (lowS (s.take i)).length = 0 := by simp [lowS]; omega
  rw [this, List.take_succ_eq_append_getElem h]
  simp only [List.set_cons_zero, lowS, List.map_append, List.map_cons, List.map_nil, List.append_assoc, List.cons_append, List.nil_append]
theorem set_same_low (s : Str) (i : Nat) (h : i < s.length) (hx : lowB s[i] = s[i]) : lowS (s.take i) ++ s.drop i = lowS (s.take (i + 1)) ++ s.drop (i + 1) := by
  rw [List.take_succ_eq_append_getElem h, List.drop_eq_getElem_cons h]
  simp only [lowS, hx, List.map_append, List.map_cons, List.map_nil, List.append_assoc, List.cons_append, List.nil_append]
theorem eU_set (l : Str) (i : Nat) (x : Int) (b : UInt8) (hx : x = (b.toNat : Int)) : (l.map eU).modify i (fun e => e.set 0 (X.int .u8 x)) = (l.set i b).map eU := by
  subst hx
  apply List.ext_getElem?
  intro j
  rw [List.getElem?_modify, List.getElem?_map, List.getElem?_map, List.getElem?_set]
  by_cases h : i = j
  · subst h
    by_cases h2 : i < l.length
    · simp [h2]
    · simp [h2, List.getElem?_eq_none (Nat.le_of_not_lt h2)]
  · simp only [h, if_false]
    cases l[j]? <;> rfl
end M
set_option linter.unusedVariables false
set_option linter.unusedSimpArgs false
namespace M
open Go
theorem L_s_NumText (n : Nat) (out : Str) (hn : out.length + n ≤ 9223372036854775807) : loopW (evA (ev LI TT) (okT TT) s_NumText_L0) [(0, .int .i64 n), (3, .str ⟨out.toArray⟩)] = some (.exit 0, [(0, .int .i64 0), (3, .str ⟨(markD n out).toArray⟩), (10, .bool false)]) := by
  have hs : ∀ s, evA (ev LI TT) (okT TT) s_NumText_L0 s = evA (ev LI TT) (okT TT) s_NumText_L0b s := fun _ => rfl
  induction n using Nat.strongRecOn generalizing out with
  | ind n ih =>
    rw [loopW_eq, hs]
    unfold markD
    by_cases h : n = 0
    · subst h
      simp -implicitDefEqProofs [s_NumText_L0b]
    · have hp : 0 < n := by omega
      have := ih (n / 10) (by omega) (UInt8.ofNat (48 + n % 10) :: out) (by rw [List.length_cons]; omega)
      have e1 : ((n : Int)).tmod 10 = ((n % 10 : Nat) : Int) := by rw [Int.tmod_eq_emod_of_nonneg (by omega)]; omega
      have e4 : ((n : Int)).tdiv 10 = ((n / 10 : Nat) : Int) := by rw [Int.tdiv_eq_ediv_of_nonneg (by omega)]; omega
      have e2 : IntKind.i64.wrap (48 + ((n % 10 : Nat) : Int)) = ((48 + n % 10 : Nat) : Int) := by rw [wrap_id (by omega) (by omega)]; omega
      have e3 : IntKind.u8.wrap ((48 + n % 10 : Nat) : Int) = ((48 + n % 10 : Nat) : Int) := wrap8_id' (by omega) (by omega)
      have e5 := u8s_one' (48 + n % 10) (by omega)
      have e6 : IntKind.i64.wrap ((n / 10 : Nat) : Int) = ((n / 10 : Nat) : Int) := wrap_id (by omega) (by omega)
      simp only [h, dite_false]
      rw [← this]
      simp -implicitDefEqProofs [s_NumText_L0b, hp, litB, e1, e2, e3, e4, e5, e6, -Int.natCast_emod, -Int.natCast_ediv, -Int.natCast_add, -UInt8.ofNat_add, str_append, (by omega : 1 + out.length ≤ 9223372036854775807)]
theorem c_s_NumText (n : Int) : ev LI TT 53 [.int .i64 n] = some (.str ⟨(numText n).toArray⟩, [.dead]) := by
  rw [ev_run (b := s_NumText_b) (rs := [.t 2]) (n := 1) rfl rfl]
  unfold numText 
  by_cases hn : 0 ≤ n ∧ n ≤ 1000000 
  rotate_left 
  · have hf : (decide (0 ≤ n) && decide (n ≤ 1000000)) = false := by simp; omega 
    simp -implicitDefEqProofs [s_NumText_b, hn, hf] 
  obtain ⟨k, rfl⟩ : ∃ k : Nat, n = k := ⟨n.toNat, by omega⟩ 
  by_cases h : k = 0 
  · subst h; simp -implicitDefEqProofs [s_NumText_b, digS_zero] 
  have h1 := L_s_NumText k [] (by simp; omega) 
  rw [markD_dig k [] h, List.append_nil] at h1
  simp -implicitDefEqProofs [s_NumText_b, hn, h, h1]
  all_goals (repeat' split) <;> first | rfl | omega | (simp_all; done) | (simp_all; omega) | skip
theorem numText_len (n : Int) : (numText n).length ≤ 7 := by
  unfold numText
  split
  · exact digS_len7 _ (by omega)
  · simp
theorem L_s_NumRead0 (s : Str) (hb : s.length ≤ 7) (hd : allB digB s = true) (g : Nat) (hinv : g < 10 ^ 0) : loopW (evA (ev LI TT) (okT TT) s_NumRead_L0) [(0, .str ⟨s.toArray⟩), (4, .int .i64 (g : Nat)), (5, .int .i64 0)] = some (.exit 0, [(0, .str ⟨s.toArray⟩), (4, .int .i64 ((foldI (fun _ g b => 10 * g + b.toNat - 48) 0 (s) g) : Nat)), (5, .int .i64 (s).length), (16, .bool false)]) := by
  refine loop_foldI (f := evA (ev LI TT) (okT TT) s_NumRead_L0) (s) (fun i (g : Nat) => [(0, .str ⟨s.toArray⟩), (4, .int .i64 (g : Nat)), (5, .int .i64 i)]) (fun _ g b => 10 * g + b.toNat - 48) (fun g => [(0, .str ⟨s.toArray⟩), (4, .int .i64 (g : Nat)), (5, .int .i64 (s).length), (16, .bool false)]) (fun i (g : Nat) => g < 10 ^ i) g hinv (fun i b g hi hl hinv => ?_) (fun i b g hi hinv => ?_) (fun g hinv => ?_)
  · have hw := wrap_succ i (by first | omega | (simp at hl; omega))
    obtain ⟨_, rfl⟩ := List.getElem?_eq_some_iff.1 hi
    have hx := allB_iff.1 hd s[i] (List.getElem_mem hl) 
    simp only [digB, decide_eq_true_eq] at hx 
    have hp : 10 ^ i ≤ 10 ^ 6 := Nat.pow_le_pow_right (by omega) (by omega) 
    have h1 : ¬ ((s[i]).toNat : Int) < 48 := by omega 
    have h2 : ¬ 57 < ((s[i]).toNat : Int) := by omega 
    have e1 : IntKind.i64.wrap (10 * (g : Int)) = 10 * g := wrap_id (by omega) (by omega) 
    have e0 : IntKind.i64.wrap ((s[i]).toNat : Int) = (s[i]).toNat := wrap_id (by omega) (by omega) 
    have e2 : IntKind.i64.wrap (10 * (g : Int) + (s[i]).toNat) = 10 * g + (s[i]).toNat := wrap_id (by omega) (by omega) 
    have e3 : IntKind.i64.wrap (10 * (g : Int) + (s[i]).toNat - 48) = ((10 * g + (s[i]).toNat - 48 : Nat) : Int) := by rw [wrap_id (by omega) (by omega)]; omega
    simp -implicitDefEqProofs [s_NumRead_L0, s_NumRead_L0b, hl, hw, h1, h2, e0, e1, e2, e3]
  · obtain ⟨hl, rfl⟩ := List.getElem?_eq_some_iff.1 hi 
    have hx := allB_iff.1 hd s[i] (List.getElem_mem hl) 
    simp only [digB, decide_eq_true_eq] at hx 
    rw [Nat.pow_succ]; omega
  · simp -implicitDefEqProofs [s_NumRead_L0, s_NumRead_L0b]
theorem L_s_NumRead1 (s : Str) (hb : s.length ≤ 7) (hd : ¬ allB digB s = true) : loopW (evA (ev LI TT) (okT TT) s_NumRead_L0) [(0, .str ⟨s.toArray⟩), (4, .int .i64 0), (5, .int .i64 0)] = some (.ret, [(2, .int .i64 0), (3, .bool false)]) := by
  have key := loop_list (xt := 0) (f := evA (ev LI TT) (okT TT) s_NumRead_L0) s (fun i (g : Nat) => [(0, .str ⟨s.toArray⟩), (4, .int .i64 (g : Int)), (5, .int .i64 i)]) (fun b g => if digB b = true then .inl (10 * g + b.toNat - 48) else .inr (.ret, [(2, .int .i64 0), (3, .bool false)])) (fun g => [(0, .str ⟨s.toArray⟩), (4, .int .i64 (g : Int)), (5, .int .i64 s.length), (16, .bool false)]) (fun i g => g < 10 ^ i) 0 (by decide) (fun i b g hi hl hinv => ?_) (fun i b g g' hi hinv hg => ?_) (fun g hg => ?_)
  · have hr : ∀ (r : Str) (g : Nat), ¬ allB digB r = true → runL (fun (b : UInt8) (g : Nat) => if digB b = true then (.inl (10 * g + b.toNat - 48) : Nat ⊕ (Ex × Slots)) else .inr (.ret, [(2, .int .i64 0), (3, .bool false)])) r g = .inr (.ret, [(2, .int .i64 0), (3, .bool false)]) := by
      intro r
      induction r with
      | nil => intro g h; exact absurd rfl h
      | cons b r ih =>
        intro g h
        simp only [runL]
        by_cases hb : digB b = true
        · simp only [hb, if_true]
          exact ih _ fun h' => h (by rw [allB_iff] at h' ⊢; intro x hx; rcases List.mem_cons.1 hx with rfl | hx; exact hb; exact h' x hx)
        · simp [hb]
    rw [hr s 0 hd] at key
    simpa [lv] using key
  · have hw := wrap_succ i (by omega)
    obtain ⟨_, rfl⟩ := List.getElem?_eq_some_iff.1 hi
    by_cases h : digB s[i] = true
    · have hx := h
      simp only [digB, decide_eq_true_eq] at hx
      have hp : 10 ^ i ≤ 10 ^ 6 := Nat.pow_le_pow_right (by omega) (by omega)
      have h1 : ¬ ((s[i]).toNat : Int) < 48 := by omega
      have h2 : ¬ 57 < ((s[i]).toNat : Int) := by omega
      have e1 : IntKind.i64.wrap (10 * (g : Int)) = 10 * g := wrap_id (by omega) (by omega)
      have e0 : IntKind.i64.wrap ((s[i]).toNat : Int) = (s[i]).toNat := wrap_id (by omega) (by omega)
      have e2 : IntKind.i64.wrap (10 * (g : Int) + (s[i]).toNat) = 10 * g + (s[i]).toNat := wrap_id (by omega) (by omega)
      have e3 : IntKind.i64.wrap (10 * (g : Int) + (s[i]).toNat - 48) = ((10 * g + (s[i]).toNat - 48 : Nat) : Int) := by rw [wrap_id (by omega) (by omega)]; omega
      simp -implicitDefEqProofs [s_NumRead_L0, s_NumRead_L0b, hl, hw, h, h1, h2, e0, e1, e2, e3]
    · have hx := h
      simp only [digB, decide_eq_true_eq] at hx
      by_cases h1 : ((s[i]).toNat : Int) < 48
      · simp -implicitDefEqProofs [s_NumRead_L0, s_NumRead_L0b, hl, hw, h, h1, lv]
      · have h2 : 57 < ((s[i]).toNat : Int) := by omega
        simp -implicitDefEqProofs [s_NumRead_L0, s_NumRead_L0b, hl, hw, h, h1, h2, lv]
  · obtain ⟨hl, rfl⟩ := List.getElem?_eq_some_iff.1 hi
    split at hg
    · rename_i hx
      simp only [digB, decide_eq_true_eq] at hx
      injection hg with hg
      rw [Nat.pow_succ]; omega
    · cases hg
  · simp -implicitDefEqProofs [s_NumRead_L0, s_NumRead_L0b]
theorem foldI_foldl {β γ : Type} (go : γ → β → γ) : ∀ (l : List β) (i : Nat) (g : γ), foldI (fun _ g b => go g b) i l g = l.foldl go g
  | [], _, _ => rfl
  | b :: l, i, g => by rw [foldI, foldI_foldl go l, List.foldl_cons]
theorem c_s_NumRead (s : Str) (hb : s.length ≤ 9223372036854775807) : ev LI TT 66 [.str ⟨s.toArray⟩] = some (.tup [.int .i64 ((((numRead s).getD 0 : Nat) : Int)), .bool ((numRead s).isSome)], [.dead]) := by
  rw [ev_run (b := s_NumRead_b) (rs := [.t 2, .t 3]) (n := 1) rfl rfl]
  by_cases h7 : 7 < s.length 
  · have h7' : 7 < (s.length : Int) := by omega 
    have hn : ¬ s = [] := by rintro rfl; simp at h7 
    simp -implicitDefEqProofs [s_NumRead_b, numRead_long s h7, h7', hn] 
  have h7' : ¬ 7 < (s.length : Int) := by omega 
  rw [numRead_eq s (by omega)] 
  by_cases h0 : s = [] 
  · subst h0; simp -implicitDefEqProofs [s_NumRead_b] 
  by_cases hd : allB digB s = true 
  rotate_left 
  · have u1 := L_s_NumRead1 s (by omega) hd 
    simp -implicitDefEqProofs [s_NumRead_b, h7', h0, hd, u1] 
  have u1 := L_s_NumRead0 s (by omega) hd 0 (by decide) 
  rw [show foldI (fun _ (g : Nat) (b : UInt8) => 10 * g + b.toNat - 48) 0 s 0 = valS s from foldI_foldl _ s 0 0] at u1 
  simp only [Int.ofNat_zero] at u1 
  have u2 := c_s_NumText (valS s) 
  by_cases ht : numText (valS s) = s 
  rotate_left 
  · simp -implicitDefEqProofs [s_NumRead_b, h7', h0, hd, u1, u2, eq_false ht]
  simp -implicitDefEqProofs [s_NumRead_b, h7', h0, hd, u1, u2, eq_true ht]
  all_goals (repeat' split) <;> first | rfl | omega | (simp_all; done) | (simp_all; omega) | skip
end M
set_option linter.unusedVariables false
set_option linter.unusedSimpArgs false
namespace M
open Go
def spF (w : Str) : List Str := if trimS w ≠ [] then [trimS w] else []
theorem opt_cases (s : Str) (i : Nat) (h : i < (s.map some ++ [none]).length) : (∃ hi : i < s.length, (s.map some ++ [none])[i] = some s[i]) ∨ (i = s.length ∧ (s.map some ++ [none])[i] = none) := by
  by_cases hi : i < s.length
  · refine .inl ⟨hi, ?_⟩
    rw [List.getElem_append_left (by simpa using hi)]
    simp
  · simp at h
    obtain rfl : i = s.length := by omega
    refine .inr ⟨rfl, ?_⟩
    rw [List.getElem_append_right (by simp)]
    simp
theorem spF_len (w : Str) : (spF w).length ≤ 1 := by unfold spF; split <;> simp
theorem goW_inv (c : UInt8) (f : Str → List Str) (hf : ∀ w, (f w).length ≤ 1) (s : Str) (i : Nat) (g : List Str × Nat) (b : Option UInt8) (h : g.2 ≤ i ∧ g.1.length ≤ i) : (goW c f s i g b).2 ≤ i + 1 ∧ (goW c f s i g b).1.length ≤ i + 1 := by
  unfold goW
  have := hf ((s.take i).drop g.2)
  split
  · split
    · simp; omega
    · omega
  · simp; omega
end M
set_option linter.unusedVariables false
set_option linter.unusedSimpArgs false
namespace M
open Go
end M
set_option linter.unusedVariables false
set_option linter.unusedSimpArgs false
namespace M
open Go
theorem nmCL_eq : (⟨#[99, 111, 110, 116, 101, 110, 116, 45, 108, 101, 110, 103, 116, 104]⟩ : ByteArray) = ⟨nmCL.toArray⟩ := rfl
theorem fld_modify (fs : List Fld) (i : Nat) (h : i < fs.length) (v : Str) : (fs.map eFld).modify i (fun e => e.set 1 (X.str ⟨v.toArray⟩)) = (fs.set i ⟨fs[i].name, v⟩).map eFld := by
  apply List.ext_getElem?
  intro j
  rw [List.getElem?_modify, List.getElem?_map, List.getElem?_map, List.getElem?_set]
  by_cases hij : i = j
  · subst hij
    simp [h]
  · simp only [hij, if_false]
    cases fs[j]? <;> rfl
theorem fld_scalars (fs : List Fld) : scalarsB (fs.map eFld) = true := by induction fs <;> simp_all [scalarsB, scalar]
end M
set_option linter.unusedVariables false
set_option linter.unusedSimpArgs false
namespace M
open Go
theorem words_len (s : Str) : (wordsC s).length ≤ s.length + 1 := by
  unfold wordsC
  have h1 := List.length_filter_le (fun w : Str => decide (w ≠ [])) ((splitC 44 s).map trimS)
  have h2 := splitC_len 44 s
  simp only [List.length_map] at h1
  omega
theorem words_mem (s : Str) : ∀ w ∈ wordsC s, w.length ≤ s.length := by
  intro w hw
  unfold wordsC at hw
  obtain ⟨x, hx, rfl⟩ := List.mem_map.1 (List.mem_filter.1 hw).1
  have h1 := splitC_mem 44 s x hx
  have h2 := trimS_len x
  omega
theorem lowS_len (s : Str) : (lowS s).length = s.length := by simp [lowS]
theorem varyOf_len (fs : List Fld) : (varyOf fs).length ≤ wL wFld fs + 1 := by
  have h1 := words_len ((gtF fs nmVary).getD [])
  have h2 := gtF_len fs nmVary
  simp [varyOf]; omega
end M
set_option linter.unusedVariables false
set_option linter.unusedSimpArgs false
namespace M
open Go
theorem zip_same : ∀ {a b : List Str}, (∀ x ∈ a.zip b, ¬ (decide (x.1 ≠ x.2)) = true) → a.length = b.length → a = b
  | [], [], _, _ => rfl
  | x :: a, y :: b, h, hl => by
    have h1 := h (x, y) (by simp)
    simp at h1
    have h2 : a = b := zip_same (fun z hz => h z (by simp only [List.zip_cons_cons]; exact List.mem_cons_of_mem _ hz)) (by simpa using hl)
    rw [h1, h2]
theorem zip_diff {a b : List Str} {x : Str × Str} (hx : x ∈ a.zip b) (h : x.1 ≠ x.2) : a ≠ b := by
  rintro rfl
  have : ∀ {l : List Str} {x : Str × Str}, x ∈ l.zip l → x.1 = x.2 := by
    intro l
    induction l with
    | nil => intro x h; simp at h
    | cons y l ih =>
      intro x h
      simp only [List.zip_cons_cons, List.mem_cons] at h
      rcases h with rfl | h
      · rfl
      · exact ih h
  exact h (this hx)
end M
set_option linter.unusedVariables false
set_option linter.unusedSimpArgs false
namespace M
open Go
theorem c_s_BanOk (b : Bn) (hb : wBn b ≤ 1073741824) : ev LI TT 37 [.agg (eBn b)] = some (.bool ((banOk b)), [.dead]) := by
  rw [ev_run (b := s_BanOk_b) (rs := [.t 2]) (n := 1) rfl rfl]
  have hw : wBn b = b.a.length + b.b.length := rfl 
  unfold banOk
  have u1 := c_s_l3Path  b.a (by omega)
  try simp at u1
  have u2 := c_s_TokenOk  b.a (by omega)
  try simp at u2
  have u3 := c_s_ValueOk  b.b (by omega)
  try simp at u3
  by_cases g1 : 0 ≤ b.t
  rotate_left
  · simp -implicitDefEqProofs [s_BanOk_b, u1, u2, u3, eq_false g1]
  by_cases g2 : b.t ≤ 1000000
  rotate_left
  · simp -implicitDefEqProofs [s_BanOk_b, u1, u2, u3, eq_true g1, eq_false g2]
  by_cases h1 : b.kind = 1 
  · by_cases h2 : pathOk b.a = true <;> simp -implicitDefEqProofs [s_BanOk_b, u1, u2, u3, eq_true g1, eq_true g2, h1, h2] 
  by_cases h2 : b.kind = 2 
  · by_cases h3 : pathOk b.a = true <;> simp -implicitDefEqProofs [s_BanOk_b, u1, u2, u3, eq_true g1, eq_true g2, h2, h3] 
  by_cases h3 : b.kind = 3 
  · by_cases h4 : tokenOk b.a = true <;> simp -implicitDefEqProofs [s_BanOk_b, u1, u2, u3, eq_true g1, eq_true g2, h3, h4]
  simp -implicitDefEqProofs [s_BanOk_b, u1, u2, u3, eq_true g1, eq_true g2, h1, h2, h3]
  all_goals (repeat' split) <;> first | rfl | omega | (simp_all; done) | (simp_all; omega) | skip
theorem c_i_BanOk (b : Bn) (hb : wBn b ≤ 1073741824) : ev LI TT 15 [.agg (eBn b)] = some (.bool ((banOk b)), [.dead]) := by
  rw [ev_run (b := i_BanOk_b) (rs := [.t 2]) (n := 1) rfl rfl]
  have hw : wBn b = b.a.length + b.b.length := rfl 
  unfold banOk
  have u1 := c_i_pathOk  b.a (by omega)
  try simp at u1
  have u2 := c_i_TokenOk  b.a (by omega)
  try simp at u2
  have u3 := c_i_ValueOk  b.b (by omega)
  try simp at u3
  by_cases g1 : 0 ≤ b.t
  rotate_left
  · simp -implicitDefEqProofs [i_BanOk_b, u1, u2, u3, eq_false g1]
  by_cases g2 : b.t ≤ 1000000
  rotate_left
  · simp -implicitDefEqProofs [i_BanOk_b, u1, u2, u3, eq_true g1, eq_false g2]
  by_cases h1 : b.kind = 1 
  · by_cases h2 : pathOk b.a = true <;> simp -implicitDefEqProofs [i_BanOk_b, u1, u2, u3, eq_true g1, eq_true g2, h1, h2] 
  by_cases h2 : b.kind = 2 
  · by_cases h3 : pathOk b.a = true <;> simp -implicitDefEqProofs [i_BanOk_b, u1, u2, u3, eq_true g1, eq_true g2, h2, h3] 
  by_cases h3 : b.kind = 3 
  · by_cases h4 : tokenOk b.a = true <;> simp -implicitDefEqProofs [i_BanOk_b, u1, u2, u3, eq_true g1, eq_true g2, h3, h4]
  simp -implicitDefEqProofs [i_BanOk_b, u1, u2, u3, eq_true g1, eq_true g2, h1, h2, h3]
  all_goals (repeat' split) <;> first | rfl | omega | (simp_all; done) | (simp_all; omega) | skip
end M
set_option linter.unusedVariables false
set_option linter.unusedSimpArgs false
namespace M
open Go
def sumS (g : Nat × Nat) (b : UInt8) : Nat × Nat := ((g.1 + b.toNat) % 65521, (g.2 + (g.1 + b.toNat) % 65521) % 65521)
theorem sumS_lt (g : Nat × Nat) (b : UInt8) : (sumS g b).1 < 65521 ∧ (sumS g b).2 < 65521 := ⟨Nat.mod_lt _ (by decide), Nat.mod_lt _ (by decide)⟩
theorem sum_step (g : Nat × Nat) (b : UInt8) (h : g.1 < 65521 ∧ g.2 < 65521) : (IntKind.i64.wrap (↑g.1 + IntKind.i64.wrap ↑b.toNat)).tmod 65521 = ↑(sumS g b).1 ∧
    (IntKind.i64.wrap (↑g.2 + (IntKind.i64.wrap (↑g.1 + IntKind.i64.wrap ↑b.toNat)).tmod 65521)).tmod 65521 = ↑(sumS g b).2 := by
  have hb := b.toNat_lt
  have e1 : IntKind.i64.wrap (↑g.1 + IntKind.i64.wrap ↑b.toNat) = ((g.1 + b.toNat : Nat) : Int) := by rw [wrap_id (n := (b.toNat : Int)) (by omega) (by omega), wrap_id (by omega) (by omega)]; omega
  have e2 : (((g.1 + b.toNat : Nat) : Int)).tmod 65521 = ↑(sumS g b).1 := by rw [Int.tmod_eq_emod_of_nonneg (by omega)]; unfold sumS; omega
  have h1 := (sumS_lt g b).1
  have e3 : IntKind.i64.wrap (↑g.2 + (↑(sumS g b).1 : Int)) = ((g.2 + (sumS g b).1 : Nat) : Int) := by rw [wrap_id (by omega) (by omega)]; omega
  rw [e1, e2, e3]
  refine ⟨rfl, ?_⟩
  rw [Int.tmod_eq_emod_of_nonneg (by omega)]
  unfold sumS
  omega
def sumP (s : Str) : Nat × Nat := foldI (fun _ g b => sumS g b) 0 s (1, 0)
theorem foldI_inv {γ β : Type} {go : Nat → γ → β → γ} {I : γ → Prop} (h : ∀ i g b, I g → I (go i g b)) : ∀ (l : List β) (i : Nat) (g : γ), I g → I (foldI go i l g)
  | [], _, _, hg => hg
  | b :: l, i, g, hg => foldI_inv h l (i + 1) _ (h i g b hg)
theorem sumP_lt (s : Str) : (sumP s).1 < 65521 ∧ (sumP s).2 < 65521 := foldI_inv (I := fun g => g.1 < 65521 ∧ g.2 < 65521) (fun _ g b _ => sumS_lt g b) s 0 _ (by simp)
def sumN (s : Str) : Nat := 65521 * (sumP s).2 + (sumP s).1
theorem sumN_lt (s : Str) : sumN s < 10 ^ 10 := by have := sumP_lt s; unfold sumN; omega
def recT (n : Nat) (b : Str) : Str := digS (sumN (digS n ++ 32 :: (digS b.length ++ 10 :: b))) ++ 32 :: (digS n ++ 32 :: (digS b.length ++ 10 :: b))
def recS (n : Int) (b : Str) : Str := if 1 ≤ n ∧ n ≤ 100000 ∧ b.length ≤ 2000 then recT n.toNat b else []
end M
set_option linter.unusedVariables false
set_option linter.unusedSimpArgs false
namespace M
open Go
theorem L_s_l3Words (s : Str) (hb : s.length ≤ 1073741824) (g : List Str × Nat) (hinv : g.2 ≤ 0 ∧ g.1.length ≤ 0) : loopW (evA (ev LI TT) (okT TT) s_l3Words_L0) [(0, .str ⟨s.toArray⟩), (3, .row .own 1 ((g).1.map eS)), (4, .int .i64 ((g).2 : Nat)), (5, .int .i64 0)] = some (.exit 0, [(0, .str ⟨s.toArray⟩), (3, .row .own 1 (((foldI (goW 32 (fun w => [w]) s) 0 (s.map some ++ [none]) g)).1.map eS)), (4, .int .i64 (((foldI (goW 32 (fun w => [w]) s) 0 (s.map some ++ [none]) g)).2 : Nat)), (5, .int .i64 (s.map some ++ [none]).length), (10, .bool false)]) := by
  refine loop_foldI (f := evA (ev LI TT) (okT TT) s_l3Words_L0) (s.map some ++ [none]) (fun i (g : List Str × Nat) => [(0, .str ⟨s.toArray⟩), (3, .row .own 1 ((g).1.map eS)), (4, .int .i64 ((g).2 : Nat)), (5, .int .i64 i)]) (goW 32 (fun w => [w]) s) (fun g => [(0, .str ⟨s.toArray⟩), (3, .row .own 1 ((g).1.map eS)), (4, .int .i64 ((g).2 : Nat)), (5, .int .i64 (s.map some ++ [none]).length), (10, .bool false)]) (fun i (g : List Str × Nat) => g.2 ≤ i ∧ g.1.length ≤ i) g hinv (fun i b g hi hl hinv => ?_) (fun i b g hi hinv => ?_) (fun g hinv => ?_)
  · have hw := wrap_succ i (by first | omega | (simp at hl; omega))
    obtain ⟨_, rfl⟩ := List.getElem?_eq_some_iff.1 hi
    have hlz : (g.1.length + 1) * 16 ≤ 140737488355328 := by simp at hl; omega 
    have h44 : ∀ b : UInt8, ((b.toNat : Int) = 32) ↔ b = 32 := fun b => ⟨fun h => UInt8.toNat_inj.1 (by have e : (32 : UInt8).toNat = 32 := rfl; omega), fun h => by subst h; rfl⟩ 
    rcases opt_cases s i hl with ⟨hi', e⟩ | ⟨rfl, e⟩ 
    · rw [e] 
      have k1 : (i : Int) ≤ s.length := by omega 
      have k2 : i ≤ s.length := by omega 
      have k3 : ¬ i = s.length := by omega 
      have k4 : ¬ (i : Int) = s.length := by omega 
      by_cases hx : s[i] = 32 
      rotate_left 
      · have hx' := mt (h44 s[i]).1 hx 
        simp -implicitDefEqProofs [s_l3Words_L0, s_l3Words_L0b, k1, k2, k3, k4, hi', hw, goW, hx, hx'] 
      have hx' := (h44 s[i]).2 hx 
      have e3 : (s.take i).drop g.2 = (s.drop g.2).take (i - g.2) := List.drop_take .. 
      simp -implicitDefEqProofs [s_l3Words_L0, s_l3Words_L0b, k1, k2, k3, k4, hi', hw, goW, eq_true hx, hx', hinv, Lib.extract_mk, e3, takeE, hlz] 
    rw [e] 
    have e3 : (s.take s.length).drop g.2 = (s.drop g.2).take (s.length - g.2) := List.drop_take .. 
    simp only [goW, e3]
    simp -implicitDefEqProofs [s_l3Words_L0, s_l3Words_L0b, hl, hw, hinv, Lib.extract_mk, takeE, hlz]
  · exact goW_inv 32 (fun w => [w]) (fun _ => Nat.le_refl 1) s i g b hinv
  · have hfin : ¬ ((s.length : Int) + 1 ≤ s.length) := by omega 
    simp -implicitDefEqProofs [s_l3Words_L0, s_l3Words_L0b, hfin]
theorem c_s_l3Words (s : Str) (hb : s.length ≤ 1073741824) : ev LI TT 65 [.str ⟨s.toArray⟩] = some (.row .own 1 ((splitC 32 s).map eS), [.dead]) := by
  rw [ev_run (b := s_l3Words_b) (rs := [.t 2]) (n := 1) rfl rfl]
  have u1 := L_s_l3Words s hb ([], 0) ⟨by omega, by simp⟩ 
  rw [foldSplit, List.flatMap_singleton' (splitC 32 s)] at u1 
  simp at u1
  simp -implicitDefEqProofs [s_l3Words_b, u1]
  all_goals (repeat' split) <;> first | rfl | omega | (simp_all; done) | (simp_all; omega) | skip
theorem cutC_first (c : UInt8) : ∀ (s : Str) (k : Nat), (firstI (fun b => decide ((b.toNat : Int) = c.toNat)) k s).map (fun x => (x.1 - k)) = (cutC c s).map fun p => p.1.length
  | [], k => rfl
  | b :: s, k => by
    have hb : ((b.toNat : Int) = c.toNat) ↔ b = c := ⟨fun h => UInt8.toNat_inj.1 (by omega), fun h => by subst h; rfl⟩
    unfold firstI cutC
    by_cases h : b = c
    · simp [hb, h]
    · have ih := cutC_first c s (k + 1)
      simp only [hb, h, decide_false, Bool.false_eq_true, if_false]
      cases hf : firstI (fun b => decide ((b.toNat : Int) = c.toNat)) (k + 1) s with
      | none =>
        rw [hf] at ih
        cases hc : cutC c s with
        | none => rfl
        | some p => rw [hc] at ih; simp at ih
      | some x =>
        rw [hf] at ih
        cases hc : cutC c s with
        | none => rw [hc] at ih; simp at ih
        | some p =>
          rw [hc] at ih
          have hx := (firstI_some (i := x.1) (b := x.2) hf).1
          simp at ih ⊢
          omega
theorem cutC_eq {c : UInt8} : ∀ {s : Str} {p : Str × Str}, cutC c s = some p → s = p.1 ++ c :: p.2
  | [], p, h => by cases h
  | b :: s, p, h => by
    unfold cutC at h
    split at h
    · rename_i hb
      cases h
      simp [hb]
    · cases hc : cutC c s with
      | none => rw [hc] at h; cases h
      | some q =>
        rw [hc] at h
        cases h
        simp [← cutC_eq hc]
theorem L_s_l10Line (s : Str) (k : Nat) (hk : k ≤ s.length) (hb : s.length ≤ 1073741824) : loopW (evA (ev LI TT) (okT TT) s_l10Line_L0) [(0, .str ⟨s.toArray⟩), (1, .int .i64 (k : Nat)), (6, .int .i64 ((k + 0 : Nat) : Int))] = (firstI (fun b => decide ((b.toNat : Int) = (10 : UInt8).toNat)) 0 (s.drop k)).elim (some (.exit 0, [(0, .str ⟨s.toArray⟩), (1, .int .i64 (k : Nat)), (6, .int .i64 ((k + (s.drop k).length : Nat) : Int)), (11, .bool false)])) fun x => some (.ret, (fun (i : Nat) b => [(4, .str ⟨((s.drop k).take i).toArray⟩), (5, .int .i64 ((k + i + 1 : Nat) : Int))]) x.1 x.2) := by
  refine loop_first (f := evA (ev LI TT) (okT TT) s_l10Line_L0) (s.drop k) (fun i => [(0, .str ⟨s.toArray⟩), (1, .int .i64 (k : Nat)), (6, .int .i64 ((k + i : Nat) : Int))]) (fun b => decide ((b.toNat : Int) = (10 : UInt8).toNat)) (fun (i : Nat) b => [(4, .str ⟨((s.drop k).take i).toArray⟩), (5, .int .i64 ((k + i + 1 : Nat) : Int))]) _ (fun i b hi hl => ?_) ?_
  · have hw := wrap_succ i (by simp at hl; omega)
    obtain ⟨_, rfl⟩ := List.getElem?_eq_some_iff.1 hi
    simp at hl 
    have h1 : k + i < s.length := by omega 
    have h2 := wrap_succ (k + i) (by omega) 
    have h3 : ((k + i : Nat) : Int) < s.length := by omega 
    have h4 : (10 : UInt8).toNat = 10 := rfl 
    have h5 : (k : Int) ≤ ((k + i : Nat) : Int) := by omega 
    have h6 : ((k + i : Nat) : Int) ≤ s.length := by omega 
    simp at h2 h3 h5 h6 
    have h7 : ((k : Int) + (i : Int)).toNat = k + i := by omega 
    have h8 : (0 : Int) ≤ (k : Int) + (i : Int) := by omega 
    have h9 : (s.take (k + i)).drop k = (s.drop k).take i := by rw [List.drop_take]; congr 1; omega
    simp -implicitDefEqProofs [s_l10Line_L0, s_l10Line_L0b, hl, hw, h1, h2, h3, h4, h5, h6, h7, h8, h9, Lib.extract_mk]
    all_goals (repeat' split) <;> first | rfl | omega | (simp_all; done) | (simp_all; omega) | skip
  · have hz : k + (s.length - k) = s.length := by omega 
    have hz' : (k : Int) + ((s.length - k : Nat) : Int) = s.length := by omega 
    simp -implicitDefEqProofs [s_l10Line_L0, s_l10Line_L0b, hz, hz']
def lineN (s : Str) (k : Nat) : Int := match cutC 10 (s.drop k) with
  | some p => ((s.length - p.2.length : Nat) : Int)
  | none => -1
def lineS (s : Str) (k : Nat) : Str := match cutC 10 (s.drop k) with
  | some p => p.1
  | none => []
theorem c_s_l10Line (s : Str) (k : Nat) (hk : k ≤ s.length) (hb : s.length ≤ 1073741824) : ev LI TT 64 [.str ⟨s.toArray⟩, .int .i64 (k : Int)] = some (.tup [.str ⟨(lineS s k).toArray⟩, .int .i64 (lineN s k)], [.dead, .dead]) := by
  rw [ev_run (b := s_l10Line_b) (rs := [.t 4, .t 5]) (n := 2) rfl rfl]
  have hc := cutC_first 10 (s.drop k) 0 
  unfold lineS lineN
  have u1 := L_s_l10Line  s k hk hb
  try simp at u1
  cases g : firstI (fun b : UInt8 => decide ((b.toNat : Int) = 10)) 0 (s.drop k) with 
  | none => 
    have h4 : (10 : UInt8).toNat = 10 := rfl 
    rw [h4] at hc 
    simp only [Int.cast_ofNat_Int] at hc 
    rw [g] at u1 hc 
    cases hq : cutC 10 (s.drop k) with 
    | some p => rw [hq] at hc; simp at hc 
    | none => simp at u1; simp -implicitDefEqProofs [s_l10Line_b, u1] 
  | some x => 
  have h4 : (10 : UInt8).toNat = 10 := rfl 
  rw [h4] at hc 
  simp only [Int.cast_ofNat_Int] at hc 
  rw [g] at u1 hc 
  cases hq : cutC 10 (s.drop k) with 
  | none => rw [hq] at hc; simp at hc 
  | some p => 
  rw [hq] at hc 
  have he := cutC_eq hq 
  have hx : x.1 = p.1.length := by simpa using hc 
  have ht : (s.drop k).take x.1 = p.1 := by rw [hx, he]; simp 
  have hl := congrArg List.length he 
  simp at hl 
  have hn : ((s.length - p.2.length : Nat) : Int) = ((k + x.1 + 1 : Nat) : Int) := by omega 
  simp only [Option.elim, ht] at u1 
  try simp at u1
  simp -implicitDefEqProofs [s_l10Line_b, u1, hn]
  all_goals (repeat' split) <;> first | rfl | omega | (simp_all; done) | (simp_all; omega) | skip
theorem cutC_drop {s : Str} {p : Str × Str} (h : cutC 10 s = some p) : p.2.length < s.length ∧ s.drop (s.length - p.2.length) = p.2 ∧ p.1.length < s.length := by
  have he := cutC_eq h
  have hl := congrArg List.length he
  simp at hl
  refine ⟨by omega, ?_, by omega⟩
  have : s.length - p.2.length = (p.1 ++ [10]).length := by simp; omega
  rw [this, he]
  have e : p.1 ++ 10 :: p.2 = (p.1 ++ [10]) ++ p.2 := by simp
  rw [e, List.drop_left]
end M
set_option linter.unusedVariables false
set_option linter.unusedSimpArgs false
set_option maxHeartbeats 4000000
namespace M
open Go
def wPath : Str := [112, 97, 116, 104]
def wBelow : Str := [98, 101, 108, 111, 119]
def wField : Str := [102, 105, 101, 108, 100]
def wordB (k : Int) : Str := if k = 1 then wPath else if k = 2 then wBelow else wField
def kindB (w : Str) : Int := if w = wPath then 1 else if w = wBelow then 2 else if w = wField then 3 else 0
def banText (b : Bn) : Str := if banOk b = true then [98, 97, 110] ++ 32 :: (wordB b.kind ++ 32 :: (numText b.t ++ 32 :: (b.a ++ if b.kind = 3 then 10 :: b.b else []))) else []
theorem banOk_kind {b : Bn} (h : banOk b = true) : b.kind = 1 ∨ b.kind = 2 ∨ b.kind = 3 := by
  unfold banOk at h
  by_cases h1 : b.kind = 1
  · exact Or.inl h1
  by_cases h2 : b.kind = 2
  · exact Or.inr (Or.inl h2)
  by_cases h3 : b.kind = 3
  · exact Or.inr (Or.inr h3)
  simp [h1, h2, h3] at h
theorem wordB_len (k : Int) : (wordB k).length ≤ 5 := by
  unfold wordB
  (repeat' split) <;> simp [wPath, wBelow, wField]
theorem c_i_banWord (k : Int) (hk : k = 1 ∨ k = 2 ∨ k = 3) : ev LI TT 51 [.int .i64 k] = some (.str ⟨(wordB k).toArray⟩, [.dead]) := by
  rw [ev_run (b := i_banWord_b) (rs := [.t 2]) (n := 1) rfl rfl]
  rcases hk with rfl | rfl | rfl 
  all_goals
  simp -implicitDefEqProofs [i_banWord_b, wordB, wPath, wBelow, wField, solidsB, sizesB, litB, wrap_id]
  all_goals (repeat' split) <;> first | rfl | omega | (simp_all; done) | (simp_all; omega) | skip
theorem c_s_BanText (b : Bn) (hb : wBn b ≤ 1073741824) : ev LI TT 14 [.agg (eBn b)] = some (.str ⟨(banText b).toArray⟩, [.dead]) := by
  rw [ev_run (b := s_BanText_b) (rs := [.t 2]) (n := 1) rfl rfl]
  obtain ⟨kd, a0, b0, t0⟩ := b 
  have hw : wBn ⟨kd, a0, b0, t0⟩ = a0.length + b0.length := rfl 
  have l1 := numText_len t0 
  unfold banText
  have u1 := c_s_BanOk  ⟨kd, a0, b0, t0⟩ hb
  try simp at u1
  have u2 := c_s_NumText  t0
  try simp at u2
  by_cases g : banOk ⟨kd, a0, b0, t0⟩ = true 
  rotate_left 
  · simp -implicitDefEqProofs [s_BanText_b, u1, u2, g] 
  rw [g] at u1 
  rcases banOk_kind g with h | h | h 
  all_goals simp only at h 
  all_goals subst h 
  all_goals
  simp -implicitDefEqProofs [s_BanText_b, u1, u2, g, wordB, wPath, wBelow, wField, solidsB, sizesB, litB, wrap_id, str_append, s_BanText_d0]
  all_goals (try simp only [*, not_false_eq_true, if_false, List.append_nil]) 
  all_goals (repeat rw [if_pos (by omega)]) 
  all_goals (try simp) 
  all_goals first | done | omega | (refine ⟨by omega, by omega, ?_⟩; rw [show (⟨#[10]⟩ : ByteArray) = ⟨([10] : Str).toArray⟩ from rfl, str_append, str_append]; simp; done) | skip
theorem c_i_BanText (b : Bn) (hb : wBn b ≤ 1073741824) : ev LI TT 13 [.agg (eBn b)] = some (.str ⟨(banText b).toArray⟩, [.dead]) := by
  rw [ev_run (b := i_BanText_b) (rs := [.t 2]) (n := 1) rfl rfl]
  obtain ⟨kd, a0, b0, t0⟩ := b 
  have hw : wBn ⟨kd, a0, b0, t0⟩ = a0.length + b0.length := rfl 
  have l1 := numText_len t0 
  have l2 := wordB_len kd 
  unfold banText
  have u1 := c_i_BanOk  ⟨kd, a0, b0, t0⟩ hb
  try simp at u1
  have u2 := c_i_NumText  t0
  try simp at u2
  by_cases g : banOk ⟨kd, a0, b0, t0⟩ = true 
  rotate_left 
  · simp -implicitDefEqProofs [i_BanText_b, u1, u2, g] 
  rw [g] at u1 
  have u3 := c_i_banWord kd (banOk_kind g) 
  try simp at u3 
  by_cases h : kd = 3 
  all_goals (try subst h) 
  all_goals
  simp -implicitDefEqProofs [i_BanText_b, u1, u2, u3, g, str_append]
  all_goals (try simp only [*, not_false_eq_true, if_false, List.append_nil]) 
  all_goals (repeat rw [if_pos (by omega)]) 
  all_goals (try simp) 
  all_goals first | done | omega | (refine ⟨by omega, by omega, ?_⟩; rw [show (⟨#[10]⟩ : ByteArray) = ⟨([10] : Str).toArray⟩ from rfl, str_append, str_append]; simp; done) | skip
end M
set_option linter.unusedVariables false
set_option linter.unusedSimpArgs false
set_option maxHeartbeats 4000000
namespace M
open Go
def banWs : List Str := [wPath, wBelow, wField]
def kindG (w : Str) (i : Nat) (g : Int) (b : Str) : Int := if b = w then ((1 + i : Nat) : Int) else g
theorem kindG_all (w : Str) : foldI (kindG w) 0 banWs 0 = kindB w := by
  unfold kindB kindG
  simp only [banWs, foldI]
  by_cases h1 : w = wPath
  · subst h1; rfl
  by_cases h2 : w = wBelow
  · subst h2; rfl
  by_cases h3 : w = wField
  · subst h3; rfl
  simp [h1, h2, h3, Ne.symm h1, Ne.symm h2, Ne.symm h3, eq_comm (b := w)]
theorem L_s_BanRead (s w0 w1 w2 w3 v : Str) (g : Int) (hinv : True) : loopW (evA (ev LI TT) (okT TT) s_BanRead_L0) [(0, .str ⟨s.toArray⟩), (2, .ptr .own [.int .i64 0, .str ⟨#[]⟩, .str ⟨#[]⟩, .int .i64 0]), (6, .ptr .own [.int .i64 g, .str ⟨#[]⟩, .str ⟨v.toArray⟩, .int .i64 0]), (7, .row .own 1 ([w0, w1, w2, w3].map eS)), (8, .row .own 1 (([] :: banWs).map eS)), (9, .int .i64 ((1 + 0 : Nat) : Int))] = some (.exit 0, [(0, .str ⟨s.toArray⟩), (2, .ptr .own [.int .i64 0, .str ⟨#[]⟩, .str ⟨#[]⟩, .int .i64 0]), (6, .ptr .own [.int .i64 (foldI (kindG w1) 0 (banWs) g), .str ⟨#[]⟩, .str ⟨v.toArray⟩, .int .i64 0]), (7, .row .own 1 ([w0, w1, w2, w3].map eS)), (8, .row .own 1 (([] :: banWs).map eS)), (9, .int .i64 4), (33, .bool false)]) := by
  refine loop_foldI (f := evA (ev LI TT) (okT TT) s_BanRead_L0) (banWs) (fun i (g : Int) => [(0, .str ⟨s.toArray⟩), (2, .ptr .own [.int .i64 0, .str ⟨#[]⟩, .str ⟨#[]⟩, .int .i64 0]), (6, .ptr .own [.int .i64 g, .str ⟨#[]⟩, .str ⟨v.toArray⟩, .int .i64 0]), (7, .row .own 1 ([w0, w1, w2, w3].map eS)), (8, .row .own 1 (([] :: banWs).map eS)), (9, .int .i64 ((1 + i : Nat) : Int))]) (kindG w1) (fun g => [(0, .str ⟨s.toArray⟩), (2, .ptr .own [.int .i64 0, .str ⟨#[]⟩, .str ⟨#[]⟩, .int .i64 0]), (6, .ptr .own [.int .i64 g, .str ⟨#[]⟩, .str ⟨v.toArray⟩, .int .i64 0]), (7, .row .own 1 ([w0, w1, w2, w3].map eS)), (8, .row .own 1 (([] :: banWs).map eS)), (9, .int .i64 4), (33, .bool false)]) (fun i (g : Int) => True) g hinv (fun i b g hi hl hinv => ?_) (fun i b g hi hinv => ?_) (fun g hinv => ?_)
  · have hw := wrap_succ i (by simp [banWs] at hl; omega)
    obtain ⟨_, rfl⟩ := List.getElem?_eq_some_iff.1 hi
    have h3 : i = 0 ∨ i = 1 ∨ i = 2 := by simp [banWs] at hl; omega 
    by_cases hq : banWs[i] = w1 
    all_goals rcases h3 with rfl | rfl | rfl 
    all_goals simp only [banWs, List.getElem_cons_zero, List.getElem_cons_succ] at hq 
    all_goals
    simp -implicitDefEqProofs [s_BanRead_L0, s_BanRead_L0b, hl, hw, kindG, hq, banWs, wrap_id]
  · trivial
  · simp -implicitDefEqProofs [s_BanRead_L0, s_BanRead_L0b, banWs]
theorem L_i_BanRead (s w0 w1 w2 w3 v : Str) (is : Bool) (n : Int) (g : Int) (hinv : True) : loopW (evA (ev LI TT) (okT TT) i_BanRead_L0) [(0, .str ⟨s.toArray⟩), (2, .ptr .own [.int .i64 0, .str ⟨#[]⟩, .str ⟨#[]⟩, .int .i64 0]), (7, .row .own 1 ([w0, w1, w2, w3].map eS)), (9, .bool is), (10, .ptr .own [.int .i64 g, .str ⟨w3.toArray⟩, .str ⟨v.toArray⟩, .int .i64 n]), (11, .int .i64 ((1 + 0 : Nat) : Int))] = some (.exit 0, [(0, .str ⟨s.toArray⟩), (2, .ptr .own [.int .i64 0, .str ⟨#[]⟩, .str ⟨#[]⟩, .int .i64 0]), (7, .row .own 1 ([w0, w1, w2, w3].map eS)), (9, .bool is), (10, .ptr .own [.int .i64 (foldI (kindG w1) 0 (banWs) g), .str ⟨w3.toArray⟩, .str ⟨v.toArray⟩, .int .i64 n]), (11, .int .i64 4), (38, .bool false)]) := by
  refine loop_foldI (f := evA (ev LI TT) (okT TT) i_BanRead_L0) (banWs) (fun i (g : Int) => [(0, .str ⟨s.toArray⟩), (2, .ptr .own [.int .i64 0, .str ⟨#[]⟩, .str ⟨#[]⟩, .int .i64 0]), (7, .row .own 1 ([w0, w1, w2, w3].map eS)), (9, .bool is), (10, .ptr .own [.int .i64 g, .str ⟨w3.toArray⟩, .str ⟨v.toArray⟩, .int .i64 n]), (11, .int .i64 ((1 + i : Nat) : Int))]) (kindG w1) (fun g => [(0, .str ⟨s.toArray⟩), (2, .ptr .own [.int .i64 0, .str ⟨#[]⟩, .str ⟨#[]⟩, .int .i64 0]), (7, .row .own 1 ([w0, w1, w2, w3].map eS)), (9, .bool is), (10, .ptr .own [.int .i64 g, .str ⟨w3.toArray⟩, .str ⟨v.toArray⟩, .int .i64 n]), (11, .int .i64 4), (38, .bool false)]) (fun i (g : Int) => True) g hinv (fun i b g hi hl hinv => ?_) (fun i b g hi hinv => ?_) (fun g hinv => ?_)
  · have hw := wrap_succ i (by simp [banWs] at hl; omega)
    obtain ⟨_, rfl⟩ := List.getElem?_eq_some_iff.1 hi
    have h3 : i = 0 ∨ i = 1 ∨ i = 2 := by simp [banWs] at hl; omega 
    have b1 := c_i_banWord 1 (by omega) 
    have b2 := c_i_banWord 2 (by omega) 
    have b3 := c_i_banWord 3 (by omega) 
    simp only [wordB, if_true, show ¬ ((2 : Int) = 1) by omega, show ¬ ((3 : Int) = 1) by omega, show ¬ ((3 : Int) = 2) by omega, if_false] at b1 b2 b3 
    try simp at b1 
    try simp at b2 
    try simp at b3 
    by_cases hq : banWs[i] = w1 
    all_goals rcases h3 with rfl | rfl | rfl 
    all_goals simp only [banWs, List.getElem_cons_zero, List.getElem_cons_succ] at hq 
    all_goals
    simp -implicitDefEqProofs [i_BanRead_L0, i_BanRead_L0b, hl, hw, kindG, hq, banWs, wrap_id, b1, b2, b3]
  · trivial
  · simp -implicitDefEqProofs [i_BanRead_L0, i_BanRead_L0b, banWs]
def zB : Bn := ⟨0, [], [], 0⟩
def banLine (s : Str) : Str × Str := match cutC 10 s with
  | some p => p
  | none => (s, [])
def banW (s v : Str) (ws : List Str) : Bn × Bool := match ws with
  | [_, w, t, a] => if banText ⟨kindB w, a, v, ((numRead t).getD 0 : Nat)⟩ = s then (⟨kindB w, a, v, ((numRead t).getD 0 : Nat)⟩, true) else (zB, false)
  | _ => (zB, false)
def banRead (s : Str) : Bn × Bool := banW s (banLine s).2 (splitC 32 (banLine s).1)
theorem banW_not {s v : Str} {ws : List Str} (h : ws.length ≠ 4) : banW s v ws = (zB, false) := by
  unfold banW
  split
  · simp at h
  · rfl
theorem len4 {ws : List Str} (h : ws.length = 4) : ∃ a b c d, ws = [a, b, c, d] := by
  match ws, h with
  | [a, b, c, d], _ => exact ⟨a, b, c, d, rfl⟩
theorem banLine_len (s : Str) : (banLine s).1.length ≤ s.length ∧ (banLine s).2.length ≤ s.length := by
  unfold banLine
  cases h : cutC 10 s with
  | none => simp
  | some p =>
    have := congrArg List.length (cutC_eq h)
    simp at this ⊢
    omega
theorem cutC_app : ∀ (p r : Str), (∀ b ∈ p, b ≠ 10) → cutC 10 (p ++ r) = (cutC 10 r).map fun q => (p ++ q.1, q.2)
  | [], r, _ => by simp
  | b :: p, r, h => by
    rw [List.cons_append, cutC, if_neg (h b (List.mem_cons_self ..)), cutC_app p r fun x hx => h x (List.mem_cons_of_mem _ hx)]
    cases cutC 10 r <;> simp
theorem banLine_app (p r : Str) (h : ∀ b ∈ p, b ≠ 10) : (banLine (p ++ r)).1 = p ++ (banLine r).1 := by
  unfold banLine
  rw [cutC_app p r h]
  cases cutC 10 r <;> simp
theorem splitC_word (w r : Str) (h : ∀ b ∈ w, b ≠ 32) : splitC 32 (w ++ 32 :: r) = w :: splitC 32 r := by
  rw [splitC_append 32 w _ h]
  simp [splitC]
theorem wordB_ne (k : Int) : ∀ b ∈ wordB k, b ≠ 32 ∧ b ≠ 10 := by
  unfold wordB
  (repeat' split) <;> simp [wPath, wBelow, wField]
/-- A ban's text that reads back with time 0 has the word 0 there. -/
theorem ban_zero {s w0 w1 w2 w3 v a : Str} {k : Int} (h : banText ⟨k, a, v, 0⟩ = s) (hs : splitC 32 (banLine s).1 = [w0, w1, w2, w3]) : numRead w2 ≠ none ∨ s = [] := by
  unfold banText at h
  split at h
  · left
    have e : numText 0 = [48] := by simp [numText, digS_zero]
    rw [e] at h
    simp only at h
    have e2 : s = ([98, 97, 110, 32] ++ (wordB k ++ [32, 48, 32])) ++ (a ++ if k = 3 then 10 :: v else []) := by rw [← h]; simp
    rw [e2, banLine_app _ _ (by intro b hb; simp at hb; rcases hb with rfl | rfl | rfl | rfl | hb | rfl | rfl | rfl <;> first | decide | exact (wordB_ne k b hb).2)] at hs
    have e3 : [98, 97, 110, 32] ++ (wordB k ++ [32, 48, 32]) ++ (banLine (a ++ if k = 3 then 10 :: v else [])).1 = [98, 97, 110] ++ 32 :: (wordB k ++ 32 :: ([48] ++ 32 :: (banLine (a ++ if k = 3 then 10 :: v else [])).1)) := by simp
    rw [e3, splitC_word _ _ (by decide), splitC_word _ _ (fun b hb => (wordB_ne k b hb).1), splitC_word _ _ (by decide)] at hs
    simp only [List.cons.injEq] at hs
    obtain ⟨_, _, rfl, _⟩ := hs
    simp [numRead, valS, digS_zero]
  · right; exact h.symm
theorem c_s_BanRead (s : Str) (hb : s.length ≤ 1048576) : ev LI TT 18 [.str ⟨s.toArray⟩] = some (.tup [.agg (eBn ((banRead s).1)), .bool ((banRead s).2)], [.dead]) := by
  rw [ev_run (b := s_BanRead_b) (rs := [.c 2 4 true 45, .t 3]) (n := 1) rfl rfl]
  have u1 := c_s_l10Line s 0 (by omega) (by omega) 
  have bl := banLine_len s 
  simp only [lineS, lineN, List.drop_zero] at u1 
  unfold banRead 
  have hX : ∃ l v e, banLine s = (l, v) ∧ ((e = -1 ∧ v = [] ∧ l = s ∧ ev LI TT 64 [.str ⟨s.toArray⟩, .int .i64 0] = some (.tup [.str ⟨#[]⟩, .int .i64 (-1)], [.dead, .dead])) ∨ (∃ m : Nat, e = (m : Int) ∧ m ≤ s.length ∧ s.length - m = v.length ∧ s.drop m = v ∧ ev LI TT 64 [.str ⟨s.toArray⟩, .int .i64 0] = some (.tup [.str ⟨l.toArray⟩, .int .i64 m], [.dead, .dead]))) := by 
    unfold banLine 
    cases hc : cutC 10 s with 
    | none => rw [hc] at u1; exact ⟨s, [], -1, rfl, Or.inl ⟨rfl, rfl, rfl, by simpa using u1⟩⟩ 
    | some p => 
      obtain ⟨l, v⟩ := p 
      rw [hc] at u1 
      obtain ⟨d1, d2, d3⟩ := cutC_drop hc 
      exact ⟨l, v, _, rfl, Or.inr ⟨s.length - v.length, rfl, by omega, by simp only at d1; omega, d2, by simpa using u1⟩⟩ 
  clear u1 
  obtain ⟨l, v, e, he, hX⟩ := hX 
  rw [he] at bl ⊢ 
  simp only at bl ⊢ 
  have u2 := c_s_l3Words l (by omega) 
  have hm := splitC_mem 32 l 
  by_cases h4 : (splitC 32 l).length = 4 
  rotate_left 
  · rw [banW_not h4] 
    have h4' : ¬ (((splitC 32 l).length : Int) = 4) := by omega 
    try simp at u2 
    rcases hX with ⟨rfl, rfl, rfl, u1⟩ | ⟨m, rfl, k1, k2, k3, u1⟩ 
    · simp -implicitDefEqProofs [s_BanRead_b, u1, u2, h4', zB] 
    · have k4 : ¬ ((m : Int) < 0) := by omega 
      have k5 : (m : Int) ≤ s.length := by omega 
      simp -implicitDefEqProofs [s_BanRead_b, u1, u2, h4', zB, k1, k2, k3, k4, k5, Lib.extract_mk] 
  obtain ⟨w0, w1, w2, w3, hw⟩ := len4 h4 
  rw [hw] at u2 hm ⊢ 
  have u3 := c_s_NumRead w2 (by have := hm w2 (by simp); omega) 
  have u4 := c_s_BanText ⟨kindB w1, w3, v, ((numRead w2).getD 0 : Nat)⟩ (by have := hm w3 (by simp); simp only [wBn]; omega) 
  have u5 := L_s_BanRead s w0 w1 w2 w3 v 0 trivial 
  rw [kindG_all] at u5 
  obtain ⟨n, hn⟩ : ∃ n, (numRead w2).getD 0 = n := ⟨_, rfl⟩ 
  unfold banW 
  simp only [hn] at u3 u4 ⊢ 
  simp [banWs, wPath, wBelow, wField] at u2 u3 u4 u5 
  by_cases g : banText ⟨kindB w1, w3, v, (n : Int)⟩ = s 
  all_goals rcases hX with ⟨rfl, rfl, rfl, u1⟩ | ⟨m, rfl, k1, k2, k3, u1⟩ 
  · simp -implicitDefEqProofs [s_BanRead_b, u1, u2, u3, u4, u5, eq_true g, zB] 
  · have k4 : ¬ ((m : Int) < 0) := by omega 
    have k5 : (m : Int) ≤ s.length := by omega 
    simp -implicitDefEqProofs [s_BanRead_b, u1, u2, u3, u4, u5, eq_true g, zB, k1, k2, k3, k4, k5, Lib.extract_mk] 
  · simp -implicitDefEqProofs [s_BanRead_b, u1, u2, u3, u4, u5, eq_false g, zB] 
  have k4 : ¬ ((m : Int) < 0) := by omega 
  have k5 : (m : Int) ≤ s.length := by omega
  simp -implicitDefEqProofs [s_BanRead_b, u1, u2, u3, u4, u5, eq_false g, zB, k1, k2, k3, k4, k5, Lib.extract_mk]
  all_goals (repeat' split) <;> first | rfl | omega | (simp_all; done) | (simp_all; omega) | skip
theorem c_i_BanRead (s : Str) (hb : s.length ≤ 1048576) : ev LI TT 16 [.str ⟨s.toArray⟩] = some (.tup [.agg (eBn ((banRead s).1)), .bool ((banRead s).2)], [.dead]) := by
  rw [ev_run (b := i_BanRead_b) (rs := [.c 2 4 true 45, .t 3]) (n := 1) rfl rfl]
  have u1 := c_x_strings_Cut s [10] (by omega) 
  have ec := cut_one 10 s 
  have bl := banLine_len s 
  unfold banRead 
  have hX : ∃ l v k, banLine s = (l, v) ∧ ev LI TT 58 [.str ⟨s.toArray⟩, .str ⟨#[10]⟩] = some (.tup [.str ⟨l.toArray⟩, .str ⟨v.toArray⟩, .bool k], [.dead, .dead]) := by 
    unfold banLine 
    cases hc : cutC 10 s with 
    | none => rw [hc] at ec; simp only at ec; rw [ec] at u1; exact ⟨s, [], _, rfl, u1⟩ 
    | some p => rw [hc] at ec; simp only at ec; rw [ec] at u1; exact ⟨p.1, p.2, _, rfl, u1⟩ 
  clear u1 ec 
  obtain ⟨l, v, k, he, u1⟩ := hX 
  have hz := fun w0 w1 w2 w3 v a k => ban_zero (s := s) (w0 := w0) (w1 := w1) (w2 := w2) (w3 := w3) (v := v) (a := a) (k := k) 
  rw [he] at bl hz ⊢ 
  simp only at bl hz ⊢ 
  have u2 := c_x_strings_Split l 32 (by omega) 
  have hm := splitC_mem 32 l 
  by_cases h4 : (splitC 32 l).length = 4 
  rotate_left 
  · rw [banW_not h4] 
    have h4' : ¬ (((splitC 32 l).length : Int) = 4) := by omega 
    try simp at u2 
    simp -implicitDefEqProofs [i_BanRead_b, u1, u2, h4', zB] 
  obtain ⟨w0, w1, w2, w3, hw⟩ := len4 h4 
  rw [hw] at u2 hm hz ⊢ 
  have u3 := c_i_NumRead w2 (by have := hm w2 (by simp); omega) 
  have u4 := c_i_BanText ⟨kindB w1, w3, v, ((numRead w2).getD 0 : Nat)⟩ (by have := hm w3 (by simp); simp only [wBn]; omega) 
  have u5 := L_i_BanRead s w0 w1 w2 w3 v (numRead w2).isSome ((numRead w2).getD 0 : Nat) 0 trivial 
  rw [kindG_all] at u5 
  unfold banW 
  cases hn : numRead w2 with 
  | none => 
    rw [hn] at u3 u4 u5 
    have g : ¬ banText ⟨kindB w1, w3, v, 0⟩ = s := by 
      intro g 
      rcases hz _ _ _ _ _ _ _ g rfl with h | h 
      · exact h hn 
      · subst h 
        rw [show banLine [] = ([], []) from rfl] at he 
        obtain ⟨rfl, rfl⟩ := Prod.mk.inj he 
        simp [splitC] at h4 
    simp [banWs, wPath, wBelow, wField] at u2 u3 u4 u5 g 
    simp -implicitDefEqProofs [i_BanRead_b, u1, u2, u3, u4, u5, hn, eq_false g, zB] 
  | some n => 
  rw [hn] at u3 u4 u5 
  simp [banWs, wPath, wBelow, wField] at u2 u3 u4 u5 
  by_cases g : banText ⟨kindB w1, w3, v, (n : Int)⟩ = s 
  · simp -implicitDefEqProofs [i_BanRead_b, u1, u2, u3, u4, u5, hn, eq_true g, zB]
  simp -implicitDefEqProofs [i_BanRead_b, u1, u2, u3, u4, u5, hn, eq_false g, zB]
  all_goals (repeat' split) <;> first | rfl | omega | (simp_all; done) | (simp_all; omega) | skip
end M
set_option linter.unusedVariables false
set_option linter.unusedSimpArgs false
namespace M
open Go
/-! Draws. -/
theorem x_s_l1Byte (c : Cur) : ∃ (x : Int) (c' : Cur), ev LI TT 117 [.ptr .own (eCur c)] = some (.int .i64 x, [.ptr .own (eCur c')]) ∧ 0 ≤ x ∧ x ≤ 255 := by
  obtain ⟨code, i, h, hi, hl⟩ := c
  by_cases hlt : i < code.length
  · have hw := wrap_succ i (by omega)
    have H : ∃ (x h' : Int), ev LI TT 117 [.ptr .own [.row .sl 1 (code.map eU), .int .i64 i, .int .i64 h]] = some (.int .i64 x, [.ptr .own [.row .sl 1 (code.map eU), .int .i64 (i + 1), .int .i64 h']]) ∧ 0 ≤ x ∧ x ≤ 255 := by
      rw [ev_run (b := s_l1Byte_b) (rs := [.t 2]) (n := 1) rfl rfl]
      simp -implicitDefEqProofs [s_l1Byte_b, hlt, hw, and_255']
      omega
    obtain ⟨x, h', e, b⟩ := H
    exact ⟨x, ⟨code, i + 1, h', hlt, hl⟩, e, b⟩
  · have H : ∃ (x h' : Int), ev LI TT 117 [.ptr .own [.row .sl 1 (code.map eU), .int .i64 i, .int .i64 h]] = some (.int .i64 x, [.ptr .own [.row .sl 1 (code.map eU), .int .i64 i, .int .i64 h']]) ∧ 0 ≤ x ∧ x ≤ 255 := by
      rw [ev_run (b := s_l1Byte_b) (rs := [.t 2]) (n := 1) rfl rfl]
      simp -implicitDefEqProofs [s_l1Byte_b, hlt, and_255']
      omega
    obtain ⟨x, h', e, b⟩ := H
    exact ⟨x, ⟨code, i, h', hi, hl⟩, e, b⟩
noncomputable def byteV (c : Cur) : Int := (x_s_l1Byte c).choose
noncomputable def byteN (c : Cur) : Cur := (x_s_l1Byte c).choose_spec.choose
theorem byteV_b (c : Cur) : 0 ≤ byteV c ∧ byteV c ≤ 255 := (x_s_l1Byte c).choose_spec.choose_spec.2
@[simp] theorem c_s_l1Byte (c : Cur) : ev LI TT 117 [.ptr .own (eCur c)] = some (.int .i64 (byteV c), [.ptr .own (eCur (byteN c))]) := (x_s_l1Byte c).choose_spec.choose_spec.1
theorem tmod_b (a n : Int) (ha : 0 ≤ a) (hn : 0 < n) : 0 ≤ a.tmod n ∧ a.tmod n < n := by
  rw [Int.tmod_eq_emod_of_nonneg ha]
  exact ⟨Int.emod_nonneg _ (by omega), Int.emod_lt_of_pos _ hn⟩
theorem x_s_l1Below (c : Cur) (n : Int) (hn : 0 < n) (hn' : n ≤ 9223372036854775807) : ∃ (x : Int) (c' : Cur), ev LI TT 63 [.ptr .own (eCur c), .int .i64 n] = some (.int .i64 x, [.ptr .own (eCur c'), .dead]) ∧ 0 ≤ x ∧ x < n := by
  rw [ev_run (b := s_l1Below_b) (rs := [.t 4]) (n := 2) rfl rfl]
  have h0 : ¬ n ≤ 0 := by omega
  have h1 : ¬ n = 0 := by omega
  by_cases h : n ≤ 256
  · refine ⟨(byteV c).tmod n, byteN c, ?_, tmod_b _ _ (byteV_b c).1 hn⟩
    simp -implicitDefEqProofs [s_l1Below_b, h, h0, h1]
  · have b1 := byteV_b c
    have b2 := byteV_b (byteN c)
    have b3 := byteV_b (byteN (byteN c))
    have b4 := byteV_b (byteN (byteN (byteN c)))
    have w1 := wrap_id (n := byteV c * 16777216) (by omega) (by omega)
    have w2 := wrap_id (n := byteV (byteN c) * 65536) (by omega) (by omega)
    have w3 := wrap_id (n := byteV (byteN (byteN c)) * 256) (by omega) (by omega)
    have w4 := wrap_id (n := byteV c * 16777216 + byteV (byteN c) * 65536) (by omega) (by omega)
    have w5 := wrap_id (n := byteV c * 16777216 + byteV (byteN c) * 65536 + byteV (byteN (byteN c)) * 256) (by omega) (by omega)
    have w6 := wrap_id (n := byteV c * 16777216 + byteV (byteN c) * 65536 + byteV (byteN (byteN c)) * 256 + byteV (byteN (byteN (byteN c)))) (by omega) (by omega)
    refine ⟨(byteV c * 16777216 + byteV (byteN c) * 65536 + byteV (byteN (byteN c)) * 256 + byteV (byteN (byteN (byteN c)))).tmod n, byteN (byteN (byteN (byteN c))), ?_, tmod_b _ _ (by omega) hn⟩
    simp -implicitDefEqProofs [s_l1Below_b, h, h0, h1, w1, w2, w3, w4, w5, w6]
theorem x_s_l1Below0 (c : Cur) (n : Int) (hn : n ≤ 0) : ev LI TT 63 [.ptr .own (eCur c), .int .i64 n] = some (.int .i64 0, [.ptr .own (eCur c), .dead]) := by
  rw [ev_run (b := s_l1Below_b) (rs := [.t 4]) (n := 2) rfl rfl]
  simp -implicitDefEqProofs [s_l1Below_b, hn]
/-- What a draw below n comes to, and the cursor behind it. -/
noncomputable def belowV (c : Cur) (n : Int) : Int := if h : 0 < n ∧ n ≤ 9223372036854775807 then (x_s_l1Below c n h.1 h.2).choose else 0
noncomputable def belowN (c : Cur) (n : Int) : Cur := if h : 0 < n ∧ n ≤ 9223372036854775807 then (x_s_l1Below c n h.1 h.2).choose_spec.choose else c
theorem belowV_b (c : Cur) (n : Int) (h1 : 0 < n) (h2 : n ≤ 9223372036854775807) : 0 ≤ belowV c n ∧ belowV c n < n := by
  unfold belowV
  rw [dif_pos ⟨h1, h2⟩]
  exact (x_s_l1Below c n h1 h2).choose_spec.choose_spec.2
theorem c_s_l1Below (c : Cur) (n : Int) (h2 : n ≤ 9223372036854775807) : ev LI TT 63 [.ptr .own (eCur c), .int .i64 n] = some (.int .i64 (belowV c n), [.ptr .own (eCur (belowN c n)), .dead]) := by
  unfold belowV belowN
  by_cases h1 : 0 < n
  · rw [dif_pos ⟨h1, h2⟩, dif_pos ⟨h1, h2⟩]
    exact (x_s_l1Below c n h1 h2).choose_spec.choose_spec.1
  · rw [dif_neg (fun h => h1 h.1), dif_neg (fun h => h1 h.1)]
    exact x_s_l1Below0 c n (by omega)
theorem c_s_l1Once (c : Cur) (n : Int) (h2 : n ≤ 9223372036854775807) : ev LI TT 144 [.ptr .own (eCur c), .int .i64 n] = some (.bool (decide (belowV c n = 0)), [.ptr .own (eCur (belowN c n)), .dead]) := by
  rw [ev_run (b := s_l1Once_b) (rs := [.t 4]) (n := 2) rfl rfl]
  simp -implicitDefEqProofs [s_l1Once_b, c_s_l1Below c n h2]
  all_goals (repeat' split) <;> first | rfl | omega | (simp_all; done) | (simp_all; omega) | skip
theorem c_s_l1Pick (c : Cur) (l : List Str) (h1 : 0 < l.length) (h2 : l.length ≤ 9223372036854775807) : ev LI TT 110 [.ptr .own (eCur c), .row .bor 1 (l.map eS)] = some (.str ⟨(l.getD (belowV c l.length).toNat []).toArray⟩, [.ptr .own (eCur (belowN c l.length)), .dead]) := by
  rw [ev_run (b := s_l1Pick_b) (rs := [.t 4]) (n := 2) rfl rfl]
  have b := belowV_b c l.length (by omega) (by omega) 
  have b2 : (belowV c l.length).toNat < l.length := by omega
  simp -implicitDefEqProofs [s_l1Pick_b, c_s_l1Below c l.length (by omega), b, b2]
  all_goals (repeat' split) <;> first | rfl | omega | (simp_all; done) | (simp_all; omega) | skip
theorem c_s_l1PickInt (c : Cur) (l : List Int) (h1 : 0 < l.length) (h2 : l.length ≤ 9223372036854775807) : ev LI TT 145 [.ptr .own (eCur c), .row .bor 1 (l.map eI)] = some (.int .i64 (l.getD (belowV c l.length).toNat 0), [.ptr .own (eCur (belowN c l.length)), .dead]) := by
  rw [ev_run (b := s_l1PickInt_b) (rs := [.t 4]) (n := 2) rfl rfl]
  have b := belowV_b c l.length (by omega) (by omega) 
  have b2 : (belowV c l.length).toNat < l.length := by omega
  simp -implicitDefEqProofs [s_l1PickInt_b, c_s_l1Below c l.length (by omega), b, b2]
  all_goals (repeat' split) <;> first | rfl | omega | (simp_all; done) | (simp_all; omega) | skip
theorem L_s_l1New (code : List UInt8) (hl : code.length ≤ 1048576) (h : Int) : ∃ h' : Int, loopW (evA (ev LI TT) (okT TT) s_l1New_L0) [(0, .row .sl 1 (code.map eU)), (3, .int .i64 h), (4, .int .i64 0), (100000, .row .sl 1 (code.map eU))] = some (.exit 0, [(0, .row .sl 1 (code.map eU)), (3, .int .i64 h'), (4, .int .i64 (min code.length 4000 : Nat)), (15, .bool false), (100000, .row .sl 1 (code.map eU))]) := by
  refine Exists.elim (loop_ex (f := evA (ev LI TT) (okT TT) s_l1New_L0) (min code.length 4000) (fun i (h : Int) => [(0, .row .sl 1 (code.map eU)), (3, .int .i64 h), (4, .int .i64 i), (100000, .row .sl 1 (code.map eU))]) (fun _ _ => True) (fun h' => [(0, .row .sl 1 (code.map eU)), (3, .int .i64 h'), (4, .int .i64 (min code.length 4000 : Nat)), (15, .bool false), (100000, .row .sl 1 (code.map eU))]) h trivial (fun i g hi _ => ?_) (fun g _ => ?_)) fun g h => ⟨g, h.2⟩
  · have h1 : i < code.length := by omega
    have h2 : (i : Int) < 4000 := by omega
    have hw := wrap_succ i (by omega)
    simp -implicitDefEqProofs [s_l1New_L0, s_l1New_L0b, h1, h2, hw]
  · by_cases h1 : code.length ≤ 4000
    · have : min code.length 4000 = code.length := by omega
      rw [this]
      simp -implicitDefEqProofs [s_l1New_L0, s_l1New_L0b]
    · have : min code.length 4000 = 4000 := by omega
      rw [this]
      have h2 : 4000 < code.length := by omega
      have h3 : (4000 : Int) < code.length := by omega
      simp -implicitDefEqProofs [s_l1New_L0, s_l1New_L0b, h2, h3]
theorem x_s_l1New (code : List UInt8) (hl : code.length ≤ 1048576) : ∃ c : Cur, ev LI TT 50 [.row .sl 1 (code.map eU)] = some (.ptr .own (eCur c), [.dead]) := by
  have hw := wrap_id (n := 18850 + code.length) (by omega) (by omega)
  obtain ⟨h', e⟩ := L_s_l1New code hl (18850 + code.length)
  refine ⟨⟨code, 0, h', Nat.zero_le _, by omega⟩, ?_⟩
  rw [ev_run (b := s_l1New_b) (rs := [.t 2]) (n := 1) rfl rfl]
  simp -implicitDefEqProofs [s_l1New_b, hw, e, eCur, movP]
theorem c_l_big (code : List UInt8) : ev LI TT 11 [.row .bor 1 (code.map eU)] = some (.bool (decide (1048576 < code.length)), [.dead]) := by
  rw [ev_run (b := l_big_b) (rs := [.t 2]) (n := 1) rfl rfl]
  simp -implicitDefEqProofs [l_big_b]
  omega
theorem x_s_l3Dent (c : Cur) (s : Str) (bits : List Str) (hb : s.length ≤ 1000000) (h0 : 0 < bits.length) (h1 : bits.length ≤ 100) (hbl : ∀ b ∈ bits, b.length ≤ 1000) : ∃ (c' : Cur) (t : Str), t.length ≤ s.length + 1000 ∧ ev LI TT 61 [.ptr .own (eCur c), .str ⟨s.toArray⟩, .row .bor 1 (bits.map eS)] = some (.str ⟨t.toArray⟩, [.ptr .own (eCur c'), .dead, .dead]) := by
  have u1 := c_s_l1Below c (s.length + 1) (by omega)
  have b1 := belowV_b c (s.length + 1) (by omega) (by omega)
  obtain ⟨a, ha⟩ : ∃ a : Nat, belowV c (s.length + 1) = a := ⟨(belowV c (s.length + 1)).toNat, by omega⟩
  have u2 := c_s_l1Below (belowN c (s.length + 1)) 5 (by omega)
  have b2 := belowV_b (belowN c (s.length + 1)) 5 (by omega) (by omega)
  have u3 := c_s_l1Pick (belowN (belowN c (s.length + 1)) 5) bits h0 (by omega)
  have b3 := belowV_b (belowN (belowN c (s.length + 1)) 5) bits.length (by omega) (by omega)
  have hw := wrap_succ s.length (by omega)
  rw [ha] at u1 b1
  generalize hx : bits.getD (belowV (belowN (belowN c (s.length + 1)) 5) bits.length).toNat [] = x at u3
  have hxl : x.length ≤ 1000 := by
    rw [← hx]
    have hlt : (belowV (belowN (belowN c (s.length + 1)) 5) bits.length).toNat < bits.length := by omega
    rw [List.getD_eq_getElem?_getD, List.getElem?_eq_getElem hlt]
    exact hbl _ (List.getElem_mem hlt)
  have ka : (a : Int) ≤ s.length := by omega
  have ka' : a ≤ s.length := by omega
  have kx1 : a + x.length ≤ 9223372036854775807 := by omega
  have kx2 : a + x.length + (s.length - a) ≤ 9223372036854775807 := by omega
  try simp at u1
  try simp at u2
  try simp at u3
  by_cases g0 : belowV (belowN c (s.length + 1)) 5 = 0
  · refine ⟨belowN (belowN c (s.length + 1)) 5, s.take a, by simp; omega, ?_⟩
    rw [ev_run (b := s_l3Dent_b) (rs := [.t 6]) (n := 3) rfl rfl]
    rw [g0] at u2
    simp -implicitDefEqProofs [s_l3Dent_b, s_l3Dent_d0, s_l3Dent_d1, s_l3Dent_d2, s_l3Dent_d3, s_l3Dent_d4, s_l3Dent_d5, s_l3Dent_d6, s_l3Dent_d7, s_l3Dent_d8, s_l3Dent_d9, s_l3Dent_d10, s_l3Dent_d11, s_l3Dent_d12, s_l3Dent_d13, s_l3Dent_d14, s_l3Dent_d15, s_l3Dent_d16, s_l3Dent_d17, s_l3Dent_d18, s_l3Dent_d19, s_l3Dent_d20, s_l3Dent_d21, s_l3Dent_d22, s_l3Dent_d23, s_l3Dent_d24, s_l3Dent_d25, s_l3Dent_d26, s_l3Dent_d27, s_l3Dent_d28, s_l3Dent_d29, s_l3Dent_d30, s_l3Dent_d31, s_l3Dent_d32, s_l3Dent_d33, s_l3Dent_d34, s_l3Dent_d35, u1, u2, hw, ka, ka', Lib.extract_mk]
  by_cases g1 : belowV (belowN c (s.length + 1)) 5 = 1
  · refine ⟨belowN (belowN (belowN c (s.length + 1)) 5) bits.length, s.take a ++ x ++ s.drop a, by simp; omega, ?_⟩
    rw [ev_run (b := s_l3Dent_b) (rs := [.t 6]) (n := 3) rfl rfl]
    rw [g1] at u2
    simp -implicitDefEqProofs [s_l3Dent_b, s_l3Dent_d0, s_l3Dent_d1, s_l3Dent_d2, s_l3Dent_d3, s_l3Dent_d4, s_l3Dent_d5, s_l3Dent_d6, s_l3Dent_d7, s_l3Dent_d8, s_l3Dent_d9, s_l3Dent_d10, s_l3Dent_d11, s_l3Dent_d12, s_l3Dent_d13, s_l3Dent_d14, s_l3Dent_d15, s_l3Dent_d16, s_l3Dent_d17, s_l3Dent_d18, s_l3Dent_d19, s_l3Dent_d20, s_l3Dent_d21, s_l3Dent_d22, s_l3Dent_d23, s_l3Dent_d24, s_l3Dent_d25, s_l3Dent_d26, s_l3Dent_d27, s_l3Dent_d28, s_l3Dent_d29, s_l3Dent_d30, s_l3Dent_d31, s_l3Dent_d32, s_l3Dent_d33, s_l3Dent_d34, s_l3Dent_d35, u1, u2, u3, hw, ka, ka', Lib.extract_mk, str_append, kx1, kx2]
    exact List.take_of_length_le (by simp)
  · refine ⟨belowN (belowN c (s.length + 1)) 5, s, by omega, ?_⟩
    rw [ev_run (b := s_l3Dent_b) (rs := [.t 6]) (n := 3) rfl rfl]
    simp -implicitDefEqProofs [s_l3Dent_b, s_l3Dent_d0, s_l3Dent_d1, s_l3Dent_d2, s_l3Dent_d3, s_l3Dent_d4, s_l3Dent_d5, s_l3Dent_d6, s_l3Dent_d7, s_l3Dent_d8, s_l3Dent_d9, s_l3Dent_d10, s_l3Dent_d11, s_l3Dent_d12, s_l3Dent_d13, s_l3Dent_d14, s_l3Dent_d15, s_l3Dent_d16, s_l3Dent_d17, s_l3Dent_d18, s_l3Dent_d19, s_l3Dent_d20, s_l3Dent_d21, s_l3Dent_d22, s_l3Dent_d23, s_l3Dent_d24, s_l3Dent_d25, s_l3Dent_d26, s_l3Dent_d27, s_l3Dent_d28, s_l3Dent_d29, s_l3Dent_d30, s_l3Dent_d31, s_l3Dent_d32, s_l3Dent_d33, s_l3Dent_d34, s_l3Dent_d35, u1, u2, hw, g0, g1]
end M
set_option linter.unusedVariables false
set_option linter.unusedSimpArgs false
set_option maxHeartbeats 4000000
namespace M
open Go
theorem pick_len (l : List Str) (k : Nat) (n : Nat) (h : ∀ s ∈ l, s.length ≤ n) : (l.getD k []).length ≤ n := by
  rw [List.getD_eq_getElem?_getD]
  cases hk : l[k]? with
  | none => simp
  | some s => exact h s (List.mem_of_getElem? hk)
theorem x_s_l1Pick (c : Cur) (l : List Str) (n : Nat) (h1 : 0 < l.length) (h2 : l.length ≤ 1000) (h : ∀ s ∈ l, s.length ≤ n) : ∃ (c' : Cur) (s : Str), s.length ≤ n ∧ ev LI TT 110 [.ptr .own (eCur c), .row .bor 1 (l.map eS)] = some (.str ⟨s.toArray⟩, [.ptr .own (eCur c'), .dead]) :=
  ⟨_, _, pick_len _ _ n h, c_s_l1Pick c l h1 (by omega)⟩
theorem x_below (c : Cur) (m : Int) (h1 : 0 < m) (h2 : m ≤ 9223372036854775807) : ∃ (c' : Cur) (n : Int), 0 ≤ n ∧ n < m ∧ ev LI TT 63 [.ptr .own (eCur c), .int .i64 m] = some (.int .i64 n, [.ptr .own (eCur c'), .dead]) :=
  ⟨_, _, (belowV_b c m h1 h2).1, (belowV_b c m h1 h2).2, c_s_l1Below c m h2⟩
theorem x_s_l1Once (c : Cur) (m : Int) (h2 : m ≤ 9223372036854775807) : ∃ (c' : Cur) (b : Bool), ev LI TT 144 [.ptr .own (eCur c), .int .i64 m] = some (.bool b, [.ptr .own (eCur c'), .dead]) :=
  ⟨_, _, c_s_l1Once c m h2⟩
theorem x_s_l1PickInt (c : Cur) (l : List Int) (h1 : 0 < l.length) (h2 : l.length ≤ 1000) : ∃ (c' : Cur) (s : Int), s ∈ l ∧ ev LI TT 145 [.ptr .own (eCur c), .row .bor 1 (l.map eI)] = some (.int .i64 s, [.ptr .own (eCur c'), .dead]) := by
  refine ⟨_, _, ?_, c_s_l1PickInt c l h1 (by omega)⟩
  have b := belowV_b c l.length (by omega) (by omega)
  rw [List.getD_eq_getElem?_getD, List.getElem?_eq_getElem (by omega)]
  exact List.getElem_mem _
theorem x_s_l7DrawTime (c : Cur) : ∃ (c' : Cur) (n : Int), bI n ∧ ev LI TT 109 [.ptr .own (eCur c)] = some (.int .i64 n, [.ptr .own (eCur c')]) := by
  obtain ⟨c1, b, u1⟩ := x_s_l1Once c 15 (by omega)
  cases b
  · obtain ⟨c2, n, h1, h2, u2⟩ := x_below c1 40 (by omega) (by omega)
    refine ⟨c2, n, (by unfold bI; omega), ?_⟩
    rw [ev_run (b := s_l7DrawTime_b) (rs := [.t 2]) (n := 1) rfl rfl]
    simp -implicitDefEqProofs [s_l7DrawTime_b, u1, u2]
  · obtain ⟨c2, n, hn, u2⟩ := x_s_l1PickInt c1 [-1, 1000000, 1000001, 9223372036854775807, -9223372036854775808] (by simp) (by simp)
    refine ⟨c2, n, (by unfold bI; simp at hn; omega), ?_⟩
    simp at u2
    rw [ev_run (b := s_l7DrawTime_b) (rs := [.t 2]) (n := 1) rfl rfl]
    simp -implicitDefEqProofs [s_l7DrawTime_b, u1, u2, solidsB, sizesB]
theorem x_s_l11DrawRight (c : Cur) (t : Int) : ∃ (c' : Cur) (b : Bn), wBn b ≤ 100 ∧ ev LI TT 62 [.ptr .own (eCur c), .int .i64 t] = some (.agg (eBn b), [.ptr .own (eCur c'), .dead]) := by
  obtain ⟨c1, k, h1, h2, u1⟩ := x_below c 3 (by omega) (by omega)
  by_cases g0 : k = 0
  · subst g0
    obtain ⟨c2, s, hs, u2⟩ := x_s_l1Pick c1 [[47], [47, 97], [47, 97, 47, 98], [47, 98]] 4 (by simp) (by simp) (by simp)
    refine ⟨c2, ⟨1, s, [], t⟩, (by simp [wBn]; omega), ?_⟩
    simp at u2
    rw [ev_run (b := s_l11DrawRight_b) (rs := [.c 4 4 true 45]) (n := 2) rfl rfl]
    simp -implicitDefEqProofs [s_l11DrawRight_b, u1, u2, solidsB, sizesB, litB]
  by_cases g1 : k = 1
  · subst g1
    obtain ⟨c2, s, hs, u2⟩ := x_s_l1Pick c1 [[47], [47, 97], [47, 98, 47, 99]] 4 (by simp) (by simp) (by simp)
    refine ⟨c2, ⟨2, s, [], t⟩, (by simp [wBn]; omega), ?_⟩
    simp at u2
    rw [ev_run (b := s_l11DrawRight_b) (rs := [.c 4 4 true 45]) (n := 2) rfl rfl]
    simp -implicitDefEqProofs [s_l11DrawRight_b, u1, u2, solidsB, sizesB, litB]
  · obtain ⟨c2, s, hs, u2⟩ := x_s_l1Pick c1 [[101, 116, 97, 103], [120, 45, 97]] 4 (by simp) (by simp) (by simp)
    obtain ⟨c3, s3, hs3, u3⟩ := x_s_l1Pick c2 [[97], [98], [49]] 4 (by simp) (by simp) (by simp)
    refine ⟨c3, ⟨3, s, s3, t⟩, (by simp [wBn]; omega), ?_⟩
    simp at u2 u3
    rw [ev_run (b := s_l11DrawRight_b) (rs := [.c 4 4 true 45]) (n := 2) rfl rfl]
    simp -implicitDefEqProofs [s_l11DrawRight_b, u1, u2, u3, g0, g1, solidsB, sizesB, litB]
theorem x_s_l11Draw (c : Cur) : ∃ (c' : Cur) (b : Bn), wBn b ≤ 200 ∧ ev LI TT 49 [.ptr .own (eCur c)] = some (.agg (eBn b), [.ptr .own (eCur c')]) := by
  obtain ⟨c1, k1, _, _, u1⟩ := x_below c 40 (by omega) (by omega)
  obtain ⟨c2, ⟨kd, a, b, t⟩, hb, u2⟩ := x_s_l11DrawRight c1 k1
  obtain ⟨c3, k, h1, h2, u3⟩ := x_below c2 15 (by omega) (by omega)
  simp at u2
  simp only [wBn] at hb
  by_cases g0 : k = 0
  · subst g0
    obtain ⟨c4, n, h4, h5, u4⟩ := x_below c3 6 (by omega) (by omega)
    have hw : IntKind.i64.wrap (n - 1) = n - 1 := wrap_id (by omega) (by omega)
    refine ⟨c4, ⟨n - 1, a, b, t⟩, (by simp only [wBn]; omega), ?_⟩
    rw [ev_run (b := s_l11Draw_b) (rs := [.c 2 4 true 45]) (n := 1) rfl rfl]
    simp -implicitDefEqProofs [s_l11Draw_b, u1, u2, u3, u4, hw]
  by_cases g1 : k = 1
  · subst g1
    obtain ⟨c4, n, h4, u4⟩ := x_s_l7DrawTime c3
    refine ⟨c4, ⟨kd, a, b, n⟩, (by simp only [wBn]; omega), ?_⟩
    rw [ev_run (b := s_l11Draw_b) (rs := [.c 2 4 true 45]) (n := 1) rfl rfl]
    simp -implicitDefEqProofs [s_l11Draw_b, u1, u2, u3, u4]
  by_cases g2 : k = 2
  · subst g2
    obtain ⟨c4, x, hx, u4⟩ := x_s_l1Pick c3 [[], [65], [47, 32]] 2 (by simp) (by simp) (by simp)
    simp at u4
    refine ⟨c4, ⟨kd, x, b, t⟩, (by simp only [wBn]; omega), ?_⟩
    rw [ev_run (b := s_l11Draw_b) (rs := [.c 2 4 true 45]) (n := 1) rfl rfl]
    simp -implicitDefEqProofs [s_l11Draw_b, u1, u2, u3, u4, solidsB, sizesB, litB]
  by_cases g3 : k = 3
  · subst g3
    obtain ⟨c4, x, hx, u4⟩ := x_s_l1Pick c3 [[], [113], [32, 113]] 2 (by simp) (by simp) (by simp)
    simp at u4
    refine ⟨c4, ⟨kd, a, x, t⟩, (by simp only [wBn]; omega), ?_⟩
    rw [ev_run (b := s_l11Draw_b) (rs := [.c 2 4 true 45]) (n := 1) rfl rfl]
    simp -implicitDefEqProofs [s_l11Draw_b, u1, u2, u3, u4, solidsB, sizesB, litB]
  refine ⟨c3, ⟨kd, a, b, t⟩, (by simp only [wBn]; omega), ?_⟩
  rw [ev_run (b := s_l11Draw_b) (rs := [.c 2 4 true 45]) (n := 1) rfl rfl]
  simp -implicitDefEqProofs [s_l11Draw_b, u1, u2, u3, g0, g1, g2, g3]
theorem x_s_DrawBanText (code : List UInt8) (hl : code.length ≤ 1048576) : ∃ (b : Bn), wBn b ≤ 200 ∧ ∃ ps, ev LI TT 12 [.row .sl 1 (code.map eU)] = some (.agg (eBn b), ps) := by
  obtain ⟨c, hc⟩ := x_s_l1New code hl
  obtain ⟨c2, b, hb, u2⟩ := x_s_l11Draw c
  simp at u2
  refine ⟨b, hb, ?_⟩
  rw [ev_run (b := s_DrawBanText_b) (rs := [.c 2 4 true 45]) (n := 1) rfl rfl]
  simp -implicitDefEqProofs [s_DrawBanText_b, hc, u2]
theorem banText_len (b : Bn) : (banText b).length ≤ wBn b + 30 := by
  unfold banText
  have l1 := numText_len b.t
  have l2 := wordB_len b.kind
  simp only [wBn]
  split
  · split <;> simp <;> omega
  · simp
theorem x_s_DrawBanRead (code : List UInt8) (hl : code.length ≤ 1048576) : ∃ (s : Str), s.length ≤ 2000 ∧ ∃ ps, ev LI TT 17 [.row .sl 1 (code.map eU)] = some (.str ⟨s.toArray⟩, ps) := by
  obtain ⟨c, hc⟩ := x_s_l1New code hl
  obtain ⟨c1, k1, _, _, u1⟩ := x_below c 40 (by omega) (by omega)
  obtain ⟨c2, b, hb, u2⟩ := x_s_l11DrawRight c1 k1
  have u3 := c_s_BanText b (by omega)
  have hbl := banText_len b
  obtain ⟨c3, s, hs, u4⟩ := x_s_l3Dent c2 (banText b) [[32], [10], [48], [120], [47]] (by omega) (by simp) (by simp) (by simp)
  simp at u2 u3 u4
  refine ⟨s, by omega, ?_⟩
  rw [ev_run (b := s_DrawBanRead_b) (rs := [.t 2]) (n := 1) rfl rfl]
  simp -implicitDefEqProofs [s_DrawBanRead_b, hc, u1, u2, u3, u4, solidsB, sizesB, litB]
end M
set_option linter.unusedVariables false
set_option linter.unusedSimpArgs false
set_option maxHeartbeats 4000000
namespace M
open Go
theorem numText_digs (n : Int) : ∀ b ∈ numText n, 48 ≤ b.toNat ∧ b.toNat ≤ 57 := by
  unfold numText
  split
  · intro b hb
    have := allB_iff.1 (digS_digs n.toNat) b hb
    simpa [digB] using this
  · simp
theorem numRead_num {t : Int} (h0 : 0 ≤ t) (h1 : t ≤ 1000000) : ((numRead (numText t)).getD 0 : Nat) = t.toNat ∧ numRead (numText t) ≠ none := by
  obtain ⟨n, rfl⟩ : ∃ n : Nat, t = n := ⟨t.toNat, by omega⟩
  rw [numRead_text n (by omega)]
  simp
theorem banText_ne (b : Bn) : banText b = [] ↔ ¬ banOk b = true := by
  unfold banText
  by_cases h : banOk b = true
  · simp [h]
  · simp [h]
theorem vis_ne {s : Str} {lo : Nat} (h : allB (visB lo) s = true) : ∀ b ∈ s, lo ≤ b.toNat := by
  intro b hb
  have := allB_iff.1 h b hb
  simp [visB] at this
  exact this.1
theorem kindB_word {k : Int} (h : k = 1 ∨ k = 2 ∨ k = 3) : kindB (wordB k) = k := by
  rcases h with rfl | rfl | rfl <;> decide
theorem ban_a {b : Bn} (h : banOk b = true) : (∀ x ∈ b.a, x ≠ 32 ∧ x ≠ 10) ∧ (b.kind = 3 ∨ b.b = []) ∧ 0 ≤ b.t ∧ b.t ≤ 1000000 := by
  have hk := banOk_kind h
  unfold banOk at h
  simp only [Bool.and_eq_true, decide_eq_true_eq] at h
  obtain ⟨ht, h⟩ := h
  by_cases h3 : b.kind = 3
  · rw [if_neg (by omega), if_pos h3] at h
    simp only [Bool.and_eq_true, tokenOk] at h
    refine ⟨fun x hx => ?_, Or.inl h3, ht⟩
    have := allB_iff.1 h.1.1 x hx
    simp only [tokB, decide_eq_true_eq] at this
    constructor
    · rintro rfl; revert this; decide
    · rintro rfl; revert this; decide
  · rw [if_pos (by omega)] at h
    simp only [Bool.and_eq_true, decide_eq_true_eq, pathOk] at h
    refine ⟨fun x hx => ?_, Or.inr h.2, ht⟩
    have := vis_ne h.1.1.1 x hx
    constructor
    · rintro rfl; revert this; decide
    · rintro rfl; revert this; decide
theorem banRead_text {b : Bn} (h : banOk b = true) : banRead (banText b) = (b, true) := by
  obtain ⟨ha, hb, ht0, ht1⟩ := ban_a h
  have hk := banOk_kind h
  have hn := numText_digs b.t
  have hd : ∀ x ∈ numText b.t, x ≠ 32 ∧ x ≠ 10 := by
    intro x hx
    have := hn x hx
    constructor
    · rintro rfl; revert this; decide
    · rintro rfl; revert this; decide
  have e : banText b = ([98, 97, 110] ++ 32 :: (wordB b.kind ++ 32 :: (numText b.t ++ 32 :: b.a))) ++ (if b.kind = 3 then 10 :: b.b else []) := by
    unfold banText
    rw [if_pos h]
    simp
  have hP : ∀ x ∈ ([98, 97, 110] ++ 32 :: (wordB b.kind ++ 32 :: (numText b.t ++ 32 :: b.a)) : Str), x ≠ 10 := by
    intro x hx
    simp only [List.mem_append, List.mem_cons, List.not_mem_nil, or_false] at hx
    rcases hx with (rfl | rfl | rfl) | rfl | hx | rfl | hx | rfl | hx
    any_goals decide
    · exact (wordB_ne _ x hx).2
    · exact (hd x hx).2
    · exact (ha x hx).2
  have hl : banLine (banText b) = ([98, 97, 110] ++ 32 :: (wordB b.kind ++ 32 :: (numText b.t ++ 32 :: b.a)), b.b) := by
    rw [e]
    unfold banLine
    rw [cutC_app _ _ hP]
    by_cases h3 : b.kind = 3
    · rw [if_pos h3]; simp [cutC]
    · rw [if_neg h3]
      have : b.b = [] := by rcases hb with hb | hb; exact absurd hb h3; exact hb
      simp [cutC, this]
  unfold banRead
  rw [hl]
  simp only
  rw [splitC_word _ _ (by decide), splitC_word _ _ (fun x hx => (wordB_ne _ x hx).1), splitC_word _ _ (fun x hx => (hd x hx).1), splitC_none 32 b.a (fun x hx => (ha x hx).1)]
  unfold banW
  have hbb : (⟨kindB (wordB b.kind), b.a, b.b, ((numRead (numText b.t)).getD 0 : Nat)⟩ : Bn) = b := by
    rw [kindB_word hk, (numRead_num ht0 ht1).1]
    have : ((b.t.toNat : Nat) : Int) = b.t := by omega
    rw [this]
  simp only [hbb, if_true]
theorem banRead_cases (s : Str) : ((banRead s).2 = true ∧ banText (banRead s).1 = s) ∨ ((banRead s).2 = false ∧ (banRead s).1 = zB) := by
  unfold banRead
  by_cases h4 : (splitC 32 (banLine s).1).length = 4
  · obtain ⟨w0, w1, w2, w3, hw⟩ := len4 h4
    rw [hw]
    unfold banW
    simp only
    by_cases g : banText ⟨kindB w1, w3, (banLine s).2, ((numRead w2).getD 0 : Nat)⟩ = s
    · rw [if_pos g]; exact Or.inl ⟨rfl, g⟩
    · rw [if_neg g]; exact Or.inr ⟨rfl, rfl⟩
  · rw [banW_not h4]; exact Or.inr ⟨rfl, rfl⟩
theorem banRead_w (s : Str) : wBn (banRead s).1 ≤ 2 * s.length := by
  unfold banRead
  by_cases h4 : (splitC 32 (banLine s).1).length = 4
  · obtain ⟨w0, w1, w2, w3, hw⟩ := len4 h4
    have h1 := splitC_mem 32 (banLine s).1 w3 (by rw [hw]; simp)
    have h2 := banLine_len s
    rw [hw]
    unfold banW
    simp only
    split
    · simp only [wBn]; omega
    · simp [wBn, zB]
  · rw [banW_not h4]; simp [wBn, zB]
theorem law_FnBans (code : List UInt8) (k : code.length ≤ 9223372036854775807 ∧ ∀ b ∈ code, True) : ∃ ps, ev LI TT 4 [.row .sl 1 (code.map eU)] = some (.bool true, ps) := by
  rw [ev_run (b := l_FnBans_b) (rs := [.t 2]) (n := 1) rfl rfl]
  have h1 := c_l_big code
  by_cases hbig : 1048576 < code.length
  · simp -implicitDefEqProofs [l_FnBans_b, h1, hbig]
  obtain ⟨b, hb, ps, e1⟩ := x_s_DrawBanText code (by omega)
  obtain ⟨s, hs, ps2, e2⟩ := x_s_DrawBanRead code (by omega)
  have u1 := c_i_BanText b (by omega)
  have u2 := c_s_BanText b (by omega)
  have u3 := c_i_BanOk b (by omega)
  have hbl := banText_len b
  have u4 := c_i_BanRead (banText b) (by omega)
  have u5 := c_i_BanRead s (by omega)
  have u6 := c_s_BanRead s (by omega)
  have hw6 := banRead_w s
  have u7 := c_i_BanText (banRead s).1 (by omega)
  have hne := banText_ne b
  have hcs := banRead_cases s
  generalize banRead s = r at hcs u5 u6 u7
  obtain ⟨r, ok⟩ := r
  by_cases ho : banOk b = true
  · have hx : ¬ banText b = [] := by rw [hne]; simp [ho]
    rw [banRead_text ho] at u4
    rw [ho] at u3
    rcases hcs with ⟨h5, h6⟩ | ⟨h5, h6⟩
    · simp only at h5 h6
      subst h5
      rw [h6] at u7
      simp at u1 u2 u3 u4 u5 u6 u7 e1 e2
      simp -implicitDefEqProofs [l_FnBans_b, h1, hbig, e1, e2, u1, u2, u3, u4, u5, u6, u7, eq_false hx]
    · simp only at h5 h6
      subst h5
      subst h6
      simp [zB] at u1 u2 u3 u4 u5 u6 u7 e1 e2
      simp -implicitDefEqProofs [l_FnBans_b, h1, hbig, e1, e2, u1, u2, u3, u4, u5, u6, u7, eq_false hx]
  · have hx : banText b = [] := by rw [hne]; exact ho
    have ho' : banOk b = false := by simpa using ho
    rw [hx] at u1 u2
    rw [ho'] at u3
    rcases hcs with ⟨h5, h6⟩ | ⟨h5, h6⟩
    · simp only at h5 h6
      subst h5
      rw [h6] at u7
      simp at u1 u2 u3 u4 u5 u6 u7 e1 e2
      simp -implicitDefEqProofs [l_FnBans_b, h1, hbig, e1, e2, u1, u2, u3, u5, u6, u7]
    · simp only at h5 h6
      subst h5
      subst h6
      simp [zB] at u1 u2 u3 u4 u5 u6 u7 e1 e2
      simp -implicitDefEqProofs [l_FnBans_b, h1, hbig, e1, e2, u1, u2, u3, u5, u6, u7]
end M
