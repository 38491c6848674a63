/- What the functions come to in the machine; no conditions. -/
import Derived.Test.YtmfpaflnapgfnaaCona
set_option linter.unusedSectionVars false
set_option linter.unusedVariables false
set_option linter.unusedSimpArgs false
namespace M
open Go
variable {L : Ora}
def shF (g : Int × Int) (r : Rp) : Int × Int := if r.kind = 1 then (IntKind.i64.wrap (g.1 + 1), g.2) else if r.kind = 2 ∨ r.kind = 3 then (g.1, IntKind.i64.wrap (g.2 + 1)) else g
def shA (c : Ca) : Int × Int := foldI (fun _ g r => shF g r) 0 c.sent (0, 0)
theorem L_s_Share (c : Ca) (hb : c.sent.length ≤ 9223372036854775807) (g : Int × Int) (hinv : True) : loopW (evA (ev L TT) (okT TT) s_Share_L0) [(1, .ptr .own (eCa .bor c)), (4, .int .i64 (g).1), (5, .int .i64 (g).2), (6, .int .i64 0)] = some (.exit 0, [(1, .ptr .own (eCa .bor c)), (4, .int .i64 ((foldI (fun _ g b => shF g b) 0 (c.sent) g)).1), (5, .int .i64 ((foldI (fun _ g b => shF g b) 0 (c.sent) g)).2), (6, .int .i64 (c.sent).length), (11, .bool false)]) := by
  refine loop_foldI (f := evA (ev L TT) (okT TT) s_Share_L0) (c.sent) (fun i (g : Int × Int) => [(1, .ptr .own (eCa .bor c)), (4, .int .i64 (g).1), (5, .int .i64 (g).2), (6, .int .i64 i)]) (fun _ g b => shF g b) (fun g => [(1, .ptr .own (eCa .bor c)), (4, .int .i64 (g).1), (5, .int .i64 (g).2), (6, .int .i64 (c.sent).length), (11, .bool false)]) (fun _ (g : Int × Int) => True) g hinv (fun i b g hi hl hinv => ?_) (fun i b g hi hinv => ?_) (fun g hinv => ?_)
  · have hw := wrap_succ i (by first | omega | (simp at hl; omega))
    obtain ⟨_, rfl⟩ := List.getElem?_eq_some_iff.1 hi
    unfold shF 
    by_cases h1 : (c.sent[i]).kind = 1 
    · simp -implicitDefEqProofs [s_Share_L0, s_Share_L0b, hl, hw, h1] 
    by_cases h2 : (c.sent[i]).kind = 2 
    · simp -implicitDefEqProofs [s_Share_L0, s_Share_L0b, hl, hw, h1, h2] 
    by_cases h3 : (c.sent[i]).kind = 3 
    · simp -implicitDefEqProofs [s_Share_L0, s_Share_L0b, hl, hw, h1, h2, h3]
    simp -implicitDefEqProofs [s_Share_L0, s_Share_L0b, hl, hw, h1, h2, h3]
  · trivial
  · simp -implicitDefEqProofs [s_Share_L0, s_Share_L0b]
theorem c_s_Share (c : Ca) (hb : c.sent.length ≤ 9223372036854775807) : ev L TT 13 [.agg (eCa .bor c)] = some (.tup [.int .i64 (shA c).1, .int .i64 (shA c).2], [.dead]) := by
  rw [ev_run (b := s_Share_b) (rs := [.t 2, .t 3]) (n := 1) rfl rfl]
  have h := L_s_Share (L := L) c hb (0, 0) trivial 
  rw [show foldI (fun _ g r => shF g r) 0 c.sent (0, 0) = shA c from rfl] at h 
  simp at h
  simp -implicitDefEqProofs [s_Share_b, h]
theorem L_i_Share (c : Ca) (hb : c.sent.length ≤ 9223372036854775807) (g : Int × Int) (hinv : True) : loopW (evA (ev L TT) (okT TT) i_Share_L0) [(1, .ptr .own (eCa .bor c)), (4, .int .i64 (g).1), (5, .int .i64 (g).2), (8, .adr 1 [] 0 9), (9, .row .bor 18 (c.sent.map (eRp .bor))), (10, .int .i64 c.sent.length), (11, .int .i64 0)] = some (.exit 0, [(1, .ptr .own (eCa .bor c)), (4, .int .i64 ((foldI (fun _ g b => shF g b) 0 (c.sent) g)).1), (5, .int .i64 ((foldI (fun _ g b => shF g b) 0 (c.sent) g)).2), (8, .adr 1 [] 0 9), (9, .row .bor 18 (c.sent.map (eRp .bor))), (10, .int .i64 c.sent.length), (11, .int .i64 (c.sent).length), (12, .bool false)]) := by
  refine loop_foldI (f := evA (ev L TT) (okT TT) i_Share_L0) (c.sent) (fun i (g : Int × Int) => [(1, .ptr .own (eCa .bor c)), (4, .int .i64 (g).1), (5, .int .i64 (g).2), (8, .adr 1 [] 0 9), (9, .row .bor 18 (c.sent.map (eRp .bor))), (10, .int .i64 c.sent.length), (11, .int .i64 i)]) (fun _ g b => shF g b) (fun g => [(1, .ptr .own (eCa .bor c)), (4, .int .i64 (g).1), (5, .int .i64 (g).2), (8, .adr 1 [] 0 9), (9, .row .bor 18 (c.sent.map (eRp .bor))), (10, .int .i64 c.sent.length), (11, .int .i64 (c.sent).length), (12, .bool false)]) (fun _ (g : Int × Int) => True) g hinv (fun i b g hi hl hinv => ?_) (fun i b g hi hinv => ?_) (fun g hinv => ?_)
  · have hw := wrap_succ i (by first | omega | (simp at hl; omega))
    obtain ⟨_, rfl⟩ := List.getElem?_eq_some_iff.1 hi
    unfold shF 
    by_cases h1 : (c.sent[i]).kind = 1 
    · simp -implicitDefEqProofs [i_Share_L0, i_Share_L0b, hl, hw, h1] 
    by_cases h2 : (c.sent[i]).kind = 2 
    · simp -implicitDefEqProofs [i_Share_L0, i_Share_L0b, hl, hw, h1, h2] 
    by_cases h3 : (c.sent[i]).kind = 3 
    · simp -implicitDefEqProofs [i_Share_L0, i_Share_L0b, hl, hw, h1, h2, h3]
    simp -implicitDefEqProofs [i_Share_L0, i_Share_L0b, hl, hw, h1, h2, h3]
  · trivial
  · simp -implicitDefEqProofs [i_Share_L0, i_Share_L0b]
theorem c_i_Share (c : Ca) (hb : c.sent.length ≤ 9223372036854775807) : ev L TT 15 [.agg (eCa .bor c)] = some (.tup [.int .i64 (shA c).1, .int .i64 (shA c).2], [.dead]) := by
  rw [ev_run (b := i_Share_b) (rs := [.t 2, .t 3]) (n := 1) rfl rfl]
  have h := L_i_Share (L := L) c hb (0, 0) trivial 
  rw [show foldI (fun _ g r => shF g r) 0 c.sent (0, 0) = shA c from rfl] at h 
  simp at h
  simp -implicitDefEqProofs [i_Share_b, h]
theorem law_FnExactShare (c : Ca) (h : bCa c) : ∃ ps, ev L TT 4 [.agg (eCa .sl c)] = some (.bool true, ps) := by
  rw [ev_run (b := l_FnExactShare_b) (rs := [.t 2]) (n := 1) rfl rfl]
  have h1 := c_l_szCache (L := L) c 1048576 h (by omega) (by omega)
  have hw := subW_or 1048576 (wCa c)
  obtain ⟨m, e1⟩ : ∃ m, m = subW 1048576 (wCa c) := ⟨_, rfl⟩
  rw [← e1] at h1 hw
  simp at h1
  by_cases h0 : m < 0
  · simp -implicitDefEqProofs [l_FnExactShare_b, h1, h0]
  have h2 := c_l_toCache (L := L) c (by omega)
  have h3 := c_s_Share (L := L) c h.k_sent.1
  have h4 := c_i_Share (L := L) c h.k_sent.1
  have h5 := c_l_eqCache (L := L) c c h
  simp at h2 h3 h4 h5
  simp -implicitDefEqProofs [l_FnExactShare_b, h1, h0, h2, h3, h4, h5]
end M
