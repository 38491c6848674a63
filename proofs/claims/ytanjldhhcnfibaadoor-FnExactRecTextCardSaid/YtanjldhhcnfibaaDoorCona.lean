/- What the functions come to in the machine; no conditions. -/
import Derived.Test.YtanjldhhcnfibaaDoorTab
import Derived.Test.YtanjldhhcnfibaaDoorMc
set_option linter.unusedSectionVars false
set_option linter.unusedVariables false
set_option linter.unusedSimpArgs false
namespace M
open Go
variable {L : Ora}
@[simp] theorem c_s_l1In (x a b : Int) : ev L TT 6 [.int .i64 x, .int .i64 a, .int .i64 b] = some (.bool (decide (a ≤ x ∧ x ≤ b)), [.dead, .dead, .dead]) := by
  rw [ev_run (b := s_l1In_b) (rs := [.t 6]) (n := 3) rfl rfl]
  simp -implicitDefEqProofs [s_l1In_b]
  split <;> simp_all <;> omega
@[simp] theorem c_i_inRange (x a b : Int) : ev L TT 9 [.int .i64 x, .int .i64 a, .int .i64 b] = some (.bool (decide (a ≤ x ∧ x ≤ b)), [.dead, .dead, .dead]) := by
  rw [ev_run (b := i_inRange_b) (rs := [.t 6]) (n := 3) rfl rfl]
  simp -implicitDefEqProofs [i_inRange_b]
  split <;> simp_all <;> omega
def sumS (g : Nat × Nat) (b : UInt8) : Nat × Nat := ((g.1 + b.toNat) % 65521, (g.2 + (g.1 + b.toNat) % 65521) % 65521)
theorem sumS_lt (g : Nat × Nat) (b : UInt8) : (sumS g b).1 < 65521 ∧ (sumS g b).2 < 65521 := ⟨Nat.mod_lt _ (by decide), Nat.mod_lt _ (by decide)⟩
theorem sum_step (g : Nat × Nat) (b : UInt8) (h : g.1 < 65521 ∧ g.2 < 65521) : (IntKind.i64.wrap (↑g.1 + IntKind.i64.wrap ↑b.toNat)).tmod 65521 = ↑(sumS g b).1 ∧
    (IntKind.i64.wrap (↑g.2 + (IntKind.i64.wrap (↑g.1 + IntKind.i64.wrap ↑b.toNat)).tmod 65521)).tmod 65521 = ↑(sumS g b).2 := by
  have hb := b.toNat_lt
  have e1 : IntKind.i64.wrap (↑g.1 + IntKind.i64.wrap ↑b.toNat) = ((g.1 + b.toNat : Nat) : Int) := by rw [wrap_id (n := (b.toNat : Int)) (by omega) (by omega), wrap_id (by omega) (by omega)]; omega
  have e2 : (((g.1 + b.toNat : Nat) : Int)).tmod 65521 = ↑(sumS g b).1 := by rw [Int.tmod_eq_emod_of_nonneg (by omega)]; unfold sumS; omega
  have h1 := (sumS_lt g b).1
  have e3 : IntKind.i64.wrap (↑g.2 + (↑(sumS g b).1 : Int)) = ((g.2 + (sumS g b).1 : Nat) : Int) := by rw [wrap_id (by omega) (by omega)]; omega
  rw [e1, e2, e3]
  refine ⟨rfl, ?_⟩
  rw [Int.tmod_eq_emod_of_nonneg (by omega)]
  unfold sumS
  omega
def sumP (s : Str) : Nat × Nat := foldI (fun _ g b => sumS g b) 0 s (1, 0)
theorem foldI_inv {γ β : Type} {go : Nat → γ → β → γ} {I : γ → Prop} (h : ∀ i g b, I g → I (go i g b)) : ∀ (l : List β) (i : Nat) (g : γ), I g → I (foldI go i l g)
  | [], _, _, hg => hg
  | b :: l, i, g, hg => foldI_inv h l (i + 1) _ (h i g b hg)
theorem sumP_lt (s : Str) : (sumP s).1 < 65521 ∧ (sumP s).2 < 65521 := foldI_inv (I := fun g => g.1 < 65521 ∧ g.2 < 65521) (fun _ g b _ => sumS_lt g b) s 0 _ (by simp)
def sumN (s : Str) : Nat := 65521 * (sumP s).2 + (sumP s).1
theorem sumN_lt (s : Str) : sumN s < 10 ^ 10 := by have := sumP_lt s; unfold sumN; omega
theorem L_s_Sum (s : Str) (hb : s.length ≤ 9223372036854775807) (g : Nat × Nat) (hinv : g.1 < 65521 ∧ g.2 < 65521) : loopW (evA (ev L TT) (okT TT) s_Sum_L0) [(0, .str ⟨s.toArray⟩), (3, .int .i64 (g).1), (4, .int .i64 (g).2), (5, .int .i64 0)] = some (.exit 0, [(0, .str ⟨s.toArray⟩), (3, .int .i64 ((foldI (fun _ g b => sumS g b) 0 (s) g)).1), (4, .int .i64 ((foldI (fun _ g b => sumS g b) 0 (s) g)).2), (5, .int .i64 (s).length), (9, .bool false)]) := by
  refine loop_foldI (f := evA (ev L TT) (okT TT) s_Sum_L0) (s) (fun i (g : Nat × Nat) => [(0, .str ⟨s.toArray⟩), (3, .int .i64 (g).1), (4, .int .i64 (g).2), (5, .int .i64 i)]) (fun _ g b => sumS g b) (fun g => [(0, .str ⟨s.toArray⟩), (3, .int .i64 (g).1), (4, .int .i64 (g).2), (5, .int .i64 (s).length), (9, .bool false)]) (fun _ (g : Nat × Nat) => g.1 < 65521 ∧ g.2 < 65521) g hinv (fun i b g hi hl hinv => ?_) (fun i b g hi hinv => ?_) (fun g hinv => ?_)
  · have hw := wrap_succ i (by first | omega | (simp at hl; omega))
    obtain ⟨_, rfl⟩ := List.getElem?_eq_some_iff.1 hi
    skip
    simp -implicitDefEqProofs [s_Sum_L0, s_Sum_L0b, hl, hw]
    exact sum_step g s[i] hinv
  · exact sumS_lt _ _
  · simp -implicitDefEqProofs [s_Sum_L0, s_Sum_L0b]
theorem c_s_Sum (s : Str) (hb : s.length ≤ 9223372036854775807) : ev L TT 8 [.str ⟨s.toArray⟩] = some (.int .i64 (sumN s), [.dead]) := by
  rw [ev_run (b := s_Sum_b) (rs := [.t 2]) (n := 1) rfl rfl]
  have h := L_s_Sum (L := L) s hb (1, 0) (by simp) 
  have h2 := sumP_lt s 
  have e1 : IntKind.i64.wrap (65521 * ((sumP s).2 : Int)) = 65521 * (sumP s).2 := wrap_id (by omega) (by omega) 
  have e2 : IntKind.i64.wrap (65521 * ((sumP s).2 : Int) + (sumP s).1) = 65521 * (sumP s).2 + (sumP s).1 := wrap_id (by omega) (by omega) 
  rw [show foldI (fun _ g b => sumS g b) 0 s (1, 0) = sumP s from rfl] at h 
  simp at h
  simp -implicitDefEqProofs [s_Sum_b, h, e1, e2, sumN]
theorem L_i_Sum (s : Str) (hb : s.length ≤ 9223372036854775807) (g : Nat × Nat) (hinv : g.1 < 65521 ∧ g.2 < 65521) : loopW (evA (ev L TT) (okT TT) i_Sum_L0) [(0, .str ⟨s.toArray⟩), (3, .int .i64 (g).1), (4, .int .i64 (g).2), (5, .int .i64 0)] = some (.exit 0, [(0, .str ⟨s.toArray⟩), (3, .int .i64 ((foldI (fun _ g b => sumS g b) 0 (s) g)).1), (4, .int .i64 ((foldI (fun _ g b => sumS g b) 0 (s) g)).2), (5, .int .i64 (s).length), (9, .bool false)]) := by
  refine loop_foldI (f := evA (ev L TT) (okT TT) i_Sum_L0) (s) (fun i (g : Nat × Nat) => [(0, .str ⟨s.toArray⟩), (3, .int .i64 (g).1), (4, .int .i64 (g).2), (5, .int .i64 i)]) (fun _ g b => sumS g b) (fun g => [(0, .str ⟨s.toArray⟩), (3, .int .i64 (g).1), (4, .int .i64 (g).2), (5, .int .i64 (s).length), (9, .bool false)]) (fun _ (g : Nat × Nat) => g.1 < 65521 ∧ g.2 < 65521) g hinv (fun i b g hi hl hinv => ?_) (fun i b g hi hinv => ?_) (fun g hinv => ?_)
  · have hw := wrap_succ i (by first | omega | (simp at hl; omega))
    obtain ⟨_, rfl⟩ := List.getElem?_eq_some_iff.1 hi
    skip
    simp -implicitDefEqProofs [i_Sum_L0, i_Sum_L0b, hl, hw]
    exact sum_step g s[i] hinv
  · exact sumS_lt _ _
  · simp -implicitDefEqProofs [i_Sum_L0, i_Sum_L0b]
theorem c_i_Sum (s : Str) (hb : s.length ≤ 9223372036854775807) : ev L TT 11 [.str ⟨s.toArray⟩] = some (.int .i64 (sumN s), [.dead]) := by
  rw [ev_run (b := i_Sum_b) (rs := [.t 2]) (n := 1) rfl rfl]
  have h := L_i_Sum (L := L) s hb (1, 0) (by simp) 
  have h2 := sumP_lt s 
  have e1 : IntKind.i64.wrap (65521 * ((sumP s).2 : Int)) = 65521 * (sumP s).2 := wrap_id (by omega) (by omega) 
  have e2 : IntKind.i64.wrap (65521 * ((sumP s).2 : Int) + (sumP s).1) = 65521 * (sumP s).2 + (sumP s).1 := wrap_id (by omega) (by omega) 
  rw [show foldI (fun _ g b => sumS g b) 0 s (1, 0) = sumP s from rfl] at h 
  simp at h
  simp -implicitDefEqProofs [i_Sum_b, h, e1, e2, sumN]
theorem L_digits (n : Nat) (out : Str) (hn : out.length + n ≤ 9223372036854775807) : loopW (evA (ev L TT) (okT TT) s_l13Digits_L0) [(0, .int .i64 n), (3, .str ⟨out.toArray⟩)] = some (.exit 0, [(0, .int .i64 0), (3, .str ⟨(markD n out).toArray⟩), (7, .bool false)]) := by
  have hs : ∀ s, evA (ev L TT) (okT TT) s_l13Digits_L0 s = evA (ev L TT) (okT TT) s_l13Digits_L0b s := fun _ => rfl
  induction n using Nat.strongRecOn generalizing out with
  | ind n ih =>
    rw [loopW_eq, hs]
    unfold markD
    by_cases h : n = 0
    · subst h
      simp -implicitDefEqProofs [s_l13Digits_L0b]
    · have hp : 0 < n := by omega
      have := ih (n / 10) (by omega) (UInt8.ofNat (48 + n % 10) :: out) (by rw [List.length_cons]; omega)
      have e1 : ((n : Int)).tmod 10 = ((n % 10 : Nat) : Int) := by rw [Int.tmod_eq_emod_of_nonneg (by omega)]; omega
      have e4 : ((n : Int)).tdiv 10 = ((n / 10 : Nat) : Int) := by rw [Int.tdiv_eq_ediv_of_nonneg (by omega)]; omega
      have e2 : IntKind.i64.wrap (48 + ((n % 10 : Nat) : Int)) = ((48 + n % 10 : Nat) : Int) := by rw [wrap_id (by omega) (by omega)]; omega
      have e3 : IntKind.u8.wrap ((48 + n % 10 : Nat) : Int) = ((48 + n % 10 : Nat) : Int) := wrap8_id' (by omega) (by omega)
      have e5 := u8s_one' (48 + n % 10) (by omega)
      have e6 : IntKind.i64.wrap ((n / 10 : Nat) : Int) = ((n / 10 : Nat) : Int) := wrap_id (by omega) (by omega)
      simp only [h, dite_false]
      rw [← this]
      simp -implicitDefEqProofs [s_l13Digits_L0b, hp, litB, e1, e2, e3, e4, e5, e6, -Int.natCast_emod, -Int.natCast_ediv, -Int.natCast_add, -UInt8.ofNat_add, str_append, (by omega : 1 + out.length ≤ 9223372036854775807)]
theorem c_s_l13Digits (n : Nat) (hk : n ≤ 9223372036854775800) : ev L TT 7 [.int .i64 (n : Int)] = some (.str ⟨(digS n).toArray⟩, [.dead]) := by
  rw [ev_run (b := s_l13Digits_b) (rs := [.t 2]) (n := 1) rfl rfl]
  by_cases h : n = 0 
  · subst h; simp -implicitDefEqProofs [s_l13Digits_b, digS_zero] 
  have h1 := L_digits (L := L) n [] (by simp; omega) 
  rw [markD_dig n [] h, List.append_nil] at h1
  simp -implicitDefEqProofs [s_l13Digits_b, h, h1]
def recT (n : Nat) (b : Str) : Str := digS (sumN (digS n ++ 32 :: (digS b.length ++ 10 :: b))) ++ 32 :: (digS n ++ 32 :: (digS b.length ++ 10 :: b))
def recS (n : Int) (b : Str) : Str := if 1 ≤ n ∧ n ≤ 100000 ∧ b.length ≤ 2000 then recT n.toNat b else []
theorem c_s_RecText (n : Int) (b : Str) (hb : b.length ≤ 9223372036854775807) : ev L TT 4 [.int .i64 n, .str ⟨b.toArray⟩] = some (.str ⟨(recS n b).toArray⟩, [.dead, .dead]) := by
  rw [ev_run (b := s_RecText_b) (rs := [.t 4]) (n := 2) rfl rfl]
  by_cases h1 : ¬ (1 ≤ n ∧ n ≤ 100000) 
  · have h1' : ¬ (1 ≤ n ∧ n ≤ 100000 ∧ b.length ≤ 2000) := by omega 
    simp -implicitDefEqProofs [s_RecText_b, h1, recS, h1'] 
  by_cases h2 : 2000 < b.length 
  · have h1' : ¬ (1 ≤ n ∧ n ≤ 100000 ∧ b.length ≤ 2000) := by omega 
    have h2' : (2000 : Int) < b.length := by omega 
    simp -implicitDefEqProofs [s_RecText_b, h1, recS, h1', h2, h2'] 
  obtain ⟨m, rfl⟩ : ∃ m : Nat, n = m := ⟨n.toNat, by omega⟩ 
  have l1 := digS_len 5 m (by omega) 
  have l2 := digS_len 5 b.length (by omega) 
  have l3 := digS_len 17 (sumN (digS m ++ 32 :: (digS b.length ++ 10 :: b))) (Nat.lt_trans (sumN_lt _) (by decide)) 
  have k1 := c_s_l13Digits (L := L) m (by omega) 
  have k2 := c_s_l13Digits (L := L) b.length (by omega) 
  have k4 := c_s_l13Digits (L := L) (sumN (digS m ++ 32 :: (digS b.length ++ 10 :: b))) (by have := sumN_lt (digS m ++ 32 :: (digS b.length ++ 10 :: b)); omega) 
  have k3 := c_s_Sum (L := L) (digS m ++ 32 :: (digS b.length ++ 10 :: b)) (by simp; omega) 
  have h2' : ¬ (2000 < (b.length : Int)) := by omega 
  have h3 : 1 ≤ m ∧ m ≤ 100000 := by omega 
  have h4 : b.length ≤ 2000 := by omega
  simp -implicitDefEqProofs [s_RecText_b, h2', h3, h4, k1, k2, k3, k4, str_append, recS, recT]
  repeat rw [if_pos (by omega)]
theorem c_itoa (n : Nat) (h : n < 10 ^ 18) : ev LI TT 10 [.int .i64 (n : Int)] = some (.str ⟨(digS n).toArray⟩, [.dead]) := by
  rw [ev_lib rfl]
  exact itoaO_nat _ n h
theorem c_i_RecText (n : Int) (b : Str) (hb : b.length ≤ 9223372036854775807) : ev LI TT 5 [.int .i64 n, .str ⟨b.toArray⟩] = some (.str ⟨(recS n b).toArray⟩, [.dead, .dead]) := by
  rw [ev_run (b := i_RecText_b) (rs := [.t 4]) (n := 2) rfl rfl]
  by_cases h1 : ¬ (1 ≤ n ∧ n ≤ 100000) 
  · have h1' : ¬ (1 ≤ n ∧ n ≤ 100000 ∧ b.length ≤ 2000) := by omega 
    simp -implicitDefEqProofs [i_RecText_b, h1, recS, h1'] 
  by_cases h2 : 2000 < b.length 
  · have h1' : ¬ (1 ≤ n ∧ n ≤ 100000 ∧ b.length ≤ 2000) := by omega 
    have h2' : (2000 : Int) < b.length := by omega 
    simp -implicitDefEqProofs [i_RecText_b, h1, recS, h1', h2, h2'] 
  obtain ⟨m, rfl⟩ : ∃ m : Nat, n = m := ⟨n.toNat, by omega⟩ 
  have l1 := digS_len 5 m (by omega) 
  have l2 := digS_len 5 b.length (by omega) 
  have l3 := digS_len 17 (sumN (digS m ++ 32 :: (digS b.length ++ 10 :: b))) (Nat.lt_trans (sumN_lt _) (by decide)) 
  have k1 := c_itoa m (by omega) 
  have k2 := c_itoa b.length (by omega) 
  have k4 := c_itoa (sumN (digS m ++ 32 :: (digS b.length ++ 10 :: b))) (by have := sumN_lt (digS m ++ 32 :: (digS b.length ++ 10 :: b)); omega) 
  have k3 := c_i_Sum (L := LI) (digS m ++ 32 :: (digS b.length ++ 10 :: b)) (by simp; omega) 
  have h2' : ¬ (2000 < (b.length : Int)) := by omega 
  have h3 : 1 ≤ m ∧ m ≤ 100000 := by omega 
  have h4 : b.length ≤ 2000 := by omega
  simp -implicitDefEqProofs [i_RecText_b, h2', h3, h4, k1, k2, k3, k4, str_append, recS, recT]
  repeat rw [if_pos (by omega)]
theorem law_FnExactRecText (n : Int) (hn : -9223372036854775808 ≤ n ∧ n ≤ 9223372036854775807) (b : Str) (hb : b.length ≤ 9223372036854775807) : ∃ ps, ev LI TT 3 [.int .i64 n, .str ⟨b.toArray⟩] = some (.bool true, ps) := by
  rw [ev_run (b := l_FnExactRecText_b) (rs := [.t 4]) (n := 2) rfl rfl]
  by_cases hbig : (1048576 : Int) < b.length
  · simp -implicitDefEqProofs [l_FnExactRecText_b, hbig]
  have h1 := c_s_RecText (L := LI) n b hb
  have h2 := c_i_RecText n b hb
  simp -implicitDefEqProofs [l_FnExactRecText_b, hbig, h1, h2]
end M
