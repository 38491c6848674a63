/- What the functions come to in the machine; no conditions. -/
import Derived.Test.YtcldaglhkhfhaaaDoorTab
import Derived.Test.YtcldaglhkhfhaaaDoorMd
set_option linter.unusedSectionVars false
set_option linter.unusedVariables false
set_option linter.unusedSimpArgs false
namespace M
open Go
end M
set_option linter.unusedVariables false
set_option linter.unusedSimpArgs false
namespace M
open Go
@[simp] theorem c_s_l1In (x : Int) (lo : Int) (hi : Int) : ev LI TT 54 [.int .i64 x, .int .i64 lo, .int .i64 hi] = some (.bool ((decide (lo ≤ x ∧ x ≤ hi))), [.dead, .dead, .dead]) := by
  rw [ev_run (b := s_l1In_b) (rs := [.t 6]) (n := 3) rfl rfl]
  simp -implicitDefEqProofs [s_l1In_b]
  try (by_cases h1 : lo ≤ x <;> by_cases h2 : x ≤ hi <;> simp [h1, h2])
@[simp] theorem c_i_inRange (x : Int) (lo : Int) (hi : Int) : ev LI TT 52 [.int .i64 x, .int .i64 lo, .int .i64 hi] = some (.bool ((decide (lo ≤ x ∧ x ≤ hi))), [.dead, .dead, .dead]) := by
  rw [ev_run (b := i_inRange_b) (rs := [.t 6]) (n := 3) rfl rfl]
  simp -implicitDefEqProofs [i_inRange_b]
  try (by_cases h1 : lo ≤ x <;> by_cases h2 : x ≤ hi <;> simp [h1, h2])
end M
set_option linter.unusedVariables false
set_option linter.unusedSimpArgs false
namespace M
open Go
def nsp (b : UInt8) : Bool := decide ¬ (b.toNat : Int) = 32
end M
set_option linter.unusedVariables false
set_option linter.unusedSimpArgs false
namespace M
open Go
theorem nsp_iff (b : UInt8) : nsp b = true ↔ b ≠ 32 := by
  unfold nsp
  have : ((b.toNat : Int) = 32) ↔ b = 32 := by
    constructor
    · intro h; exact UInt8.toNat_inj.1 (by have e : (32 : UInt8).toNat = 32 := rfl; omega)
    · rintro rfl; rfl
  simp [this]
theorem trimL_until (s : Str) : Lib.trimLeftB s 32 = s.drop (untilI nsp s) := by
  refine Lib.trimLeftB_drop s 32 _ (untilI_le _ _) (fun j b hj hb => ?_) fun b hb => (nsp_iff b).1 (untilI_at _ _ _ hb)
  have := untilI_before _ _ _ _ hj hb
  by_cases h : b = 32
  · exact h
  · rw [(nsp_iff b).2 h] at this; cases this
theorem trimR_until (s : Str) : Lib.trimRightB s 32 = s.take (s.length - untilI nsp s.reverse) := by
  have h := trimL_until s.reverse
  unfold Lib.trimLeftB at h
  unfold Lib.trimRightB
  rw [h, List.drop_reverse, List.reverse_reverse]
theorem trimS_cut (s : Str) : (s.drop (untilI nsp s)).take (s.length - untilI nsp (s.drop (untilI nsp s)).reverse - untilI nsp s) = trimS s := by
  rw [trimS_left, trimL_until, trimR_until, List.length_drop]
  congr 1
  omega
end M
set_option linter.unusedVariables false
set_option linter.unusedSimpArgs false
namespace M
open Go
def lowOut (s : Str) : Str := lowS s
theorem set_low (s : Str) (i : Nat) (h : i < s.length) (x : UInt8) (hx : x = lowB s[i]) : (lowS (s.take i) ++ s.drop i).set i x = lowS (s.take (i + 1)) ++ s.drop (i + 1) := by
  subst hx
  rw [List.set_append_right _ _ (by simp [lowS]; omega), List.drop_eq_getElem_cons h]
  have : i - (lowS (s.take i)).length = 0 := by simp [lowS]; omega
  rw [this, List.take_succ_eq_append_getElem h]
  simp only [List.set_cons_zero, lowS, List.map_append, List.map_cons, List.map_nil, List.append_assoc, List.cons_append, List.nil_append]
theorem set_same_low (s : Str) (i : Nat) (h : i < s.length) (hx : lowB s[i] = s[i]) : lowS (s.take i) ++ s.drop i = lowS (s.take (i + 1)) ++ s.drop (i + 1) := by
  rw [List.take_succ_eq_append_getElem h, List.drop_eq_getElem_cons h]
  simp only [lowS, hx, List.map_append, List.map_cons, List.map_nil, List.append_assoc, List.cons_append, List.nil_append]
theorem eU_set (l : Str) (i : Nat) (x : Int) (b : UInt8) (hx : x = (b.toNat : Int)) : (l.map eU).modify i (fun e => e.set 0 (X.int .u8 x)) = (l.set i b).map eU := by
  subst hx
  apply List.ext_getElem?
  intro j
  rw [List.getElem?_modify, List.getElem?_map, List.getElem?_map, List.getElem?_set]
  by_cases h : i = j
  · subst h
    by_cases h2 : i < l.length
    · simp [h2]
    · simp [h2, List.getElem?_eq_none (Nat.le_of_not_lt h2)]
  · simp only [h, if_false]
    cases l[j]? <;> rfl
end M
set_option linter.unusedVariables false
set_option linter.unusedSimpArgs false
namespace M
open Go
theorem L_s_NumText (n : Nat) (out : Str) (hn : out.length + n ≤ 9223372036854775807) : loopW (evA (ev LI TT) (okT TT) s_NumText_L0) [(0, .int .i64 n), (3, .str ⟨out.toArray⟩)] = some (.exit 0, [(0, .int .i64 0), (3, .str ⟨(markD n out).toArray⟩), (10, .bool false)]) := by
  have hs : ∀ s, evA (ev LI TT) (okT TT) s_NumText_L0 s = evA (ev LI TT) (okT TT) s_NumText_L0b s := fun _ => rfl
  induction n using Nat.strongRecOn generalizing out with
  | ind n ih =>
    rw [loopW_eq, hs]
    unfold markD
    by_cases h : n = 0
    · subst h
      simp -implicitDefEqProofs [s_NumText_L0b]
    · have hp : 0 < n := by omega
      have := ih (n / 10) (by omega) (UInt8.ofNat (48 + n % 10) :: out) (by rw [List.length_cons]; omega)
      have e1 : ((n : Int)).tmod 10 = ((n % 10 : Nat) : Int) := by rw [Int.tmod_eq_emod_of_nonneg (by omega)]; omega
      have e4 : ((n : Int)).tdiv 10 = ((n / 10 : Nat) : Int) := by rw [Int.tdiv_eq_ediv_of_nonneg (by omega)]; omega
      have e2 : IntKind.i64.wrap (48 + ((n % 10 : Nat) : Int)) = ((48 + n % 10 : Nat) : Int) := by rw [wrap_id (by omega) (by omega)]; omega
      have e3 : IntKind.u8.wrap ((48 + n % 10 : Nat) : Int) = ((48 + n % 10 : Nat) : Int) := wrap8_id' (by omega) (by omega)
      have e5 := u8s_one' (48 + n % 10) (by omega)
      have e6 : IntKind.i64.wrap ((n / 10 : Nat) : Int) = ((n / 10 : Nat) : Int) := wrap_id (by omega) (by omega)
      simp only [h, dite_false]
      rw [← this]
      simp -implicitDefEqProofs [s_NumText_L0b, hp, litB, e1, e2, e3, e4, e5, e6, -Int.natCast_emod, -Int.natCast_ediv, -Int.natCast_add, -UInt8.ofNat_add, str_append, (by omega : 1 + out.length ≤ 9223372036854775807)]
theorem c_s_NumText (n : Int) : ev LI TT 60 [.int .i64 n] = some (.str ⟨(numText n).toArray⟩, [.dead]) := by
  rw [ev_run (b := s_NumText_b) (rs := [.t 2]) (n := 1) rfl rfl]
  unfold numText 
  by_cases hn : 0 ≤ n ∧ n ≤ 1000000 
  rotate_left 
  · have hf : (decide (0 ≤ n) && decide (n ≤ 1000000)) = false := by simp; omega 
    simp -implicitDefEqProofs [s_NumText_b, hn, hf] 
  obtain ⟨k, rfl⟩ : ∃ k : Nat, n = k := ⟨n.toNat, by omega⟩ 
  by_cases h : k = 0 
  · subst h; simp -implicitDefEqProofs [s_NumText_b, digS_zero] 
  have h1 := L_s_NumText k [] (by simp; omega) 
  rw [markD_dig k [] h, List.append_nil] at h1
  simp -implicitDefEqProofs [s_NumText_b, hn, h, h1]
  all_goals (repeat' split) <;> first | rfl | omega | (simp_all; done) | (simp_all; omega) | skip
theorem numText_len (n : Int) : (numText n).length ≤ 7 := by
  unfold numText
  split
  · exact digS_len7 _ (by omega)
  · simp
theorem L_s_NumRead0 (s : Str) (hb : s.length ≤ 7) (hd : allB digB s = true) (g : Nat) (hinv : g < 10 ^ 0) : loopW (evA (ev LI TT) (okT TT) s_NumRead_L0) [(0, .str ⟨s.toArray⟩), (4, .int .i64 (g : Nat)), (5, .int .i64 0)] = some (.exit 0, [(0, .str ⟨s.toArray⟩), (4, .int .i64 ((foldI (fun _ g b => 10 * g + b.toNat - 48) 0 (s) g) : Nat)), (5, .int .i64 (s).length), (16, .bool false)]) := by
  refine loop_foldI (f := evA (ev LI TT) (okT TT) s_NumRead_L0) (s) (fun i (g : Nat) => [(0, .str ⟨s.toArray⟩), (4, .int .i64 (g : Nat)), (5, .int .i64 i)]) (fun _ g b => 10 * g + b.toNat - 48) (fun g => [(0, .str ⟨s.toArray⟩), (4, .int .i64 (g : Nat)), (5, .int .i64 (s).length), (16, .bool false)]) (fun i (g : Nat) => g < 10 ^ i) g hinv (fun i b g hi hl hinv => ?_) (fun i b g hi hinv => ?_) (fun g hinv => ?_)
  · have hw := wrap_succ i (by first | omega | (simp at hl; omega))
    obtain ⟨_, rfl⟩ := List.getElem?_eq_some_iff.1 hi
    have hx := allB_iff.1 hd s[i] (List.getElem_mem hl) 
    simp only [digB, decide_eq_true_eq] at hx 
    have hp : 10 ^ i ≤ 10 ^ 6 := Nat.pow_le_pow_right (by omega) (by omega) 
    have h1 : ¬ ((s[i]).toNat : Int) < 48 := by omega 
    have h2 : ¬ 57 < ((s[i]).toNat : Int) := by omega 
    have e1 : IntKind.i64.wrap (10 * (g : Int)) = 10 * g := wrap_id (by omega) (by omega) 
    have e0 : IntKind.i64.wrap ((s[i]).toNat : Int) = (s[i]).toNat := wrap_id (by omega) (by omega) 
    have e2 : IntKind.i64.wrap (10 * (g : Int) + (s[i]).toNat) = 10 * g + (s[i]).toNat := wrap_id (by omega) (by omega) 
    have e3 : IntKind.i64.wrap (10 * (g : Int) + (s[i]).toNat - 48) = ((10 * g + (s[i]).toNat - 48 : Nat) : Int) := by rw [wrap_id (by omega) (by omega)]; omega
    simp -implicitDefEqProofs [s_NumRead_L0, s_NumRead_L0b, hl, hw, h1, h2, e0, e1, e2, e3]
  · obtain ⟨hl, rfl⟩ := List.getElem?_eq_some_iff.1 hi 
    have hx := allB_iff.1 hd s[i] (List.getElem_mem hl) 
    simp only [digB, decide_eq_true_eq] at hx 
    rw [Nat.pow_succ]; omega
  · simp -implicitDefEqProofs [s_NumRead_L0, s_NumRead_L0b]
theorem L_s_NumRead1 (s : Str) (hb : s.length ≤ 7) (hd : ¬ allB digB s = true) : loopW (evA (ev LI TT) (okT TT) s_NumRead_L0) [(0, .str ⟨s.toArray⟩), (4, .int .i64 0), (5, .int .i64 0)] = some (.ret, [(2, .int .i64 0), (3, .bool false)]) := by
  have key := loop_list (xt := 0) (f := evA (ev LI TT) (okT TT) s_NumRead_L0) s (fun i (g : Nat) => [(0, .str ⟨s.toArray⟩), (4, .int .i64 (g : Int)), (5, .int .i64 i)]) (fun b g => if digB b = true then .inl (10 * g + b.toNat - 48) else .inr (.ret, [(2, .int .i64 0), (3, .bool false)])) (fun g => [(0, .str ⟨s.toArray⟩), (4, .int .i64 (g : Int)), (5, .int .i64 s.length), (16, .bool false)]) (fun i g => g < 10 ^ i) 0 (by decide) (fun i b g hi hl hinv => ?_) (fun i b g g' hi hinv hg => ?_) (fun g hg => ?_)
  · have hr : ∀ (r : Str) (g : Nat), ¬ allB digB r = true → runL (fun (b : UInt8) (g : Nat) => if digB b = true then (.inl (10 * g + b.toNat - 48) : Nat ⊕ (Ex × Slots)) else .inr (.ret, [(2, .int .i64 0), (3, .bool false)])) r g = .inr (.ret, [(2, .int .i64 0), (3, .bool false)]) := by
      intro r
      induction r with
      | nil => intro g h; exact absurd rfl h
      | cons b r ih =>
        intro g h
        simp only [runL]
        by_cases hb : digB b = true
        · simp only [hb, if_true]
          exact ih _ fun h' => h (by rw [allB_iff] at h' ⊢; intro x hx; rcases List.mem_cons.1 hx with rfl | hx; exact hb; exact h' x hx)
        · simp [hb]
    rw [hr s 0 hd] at key
    simpa [lv] using key
  · have hw := wrap_succ i (by omega)
    obtain ⟨_, rfl⟩ := List.getElem?_eq_some_iff.1 hi
    by_cases h : digB s[i] = true
    · have hx := h
      simp only [digB, decide_eq_true_eq] at hx
      have hp : 10 ^ i ≤ 10 ^ 6 := Nat.pow_le_pow_right (by omega) (by omega)
      have h1 : ¬ ((s[i]).toNat : Int) < 48 := by omega
      have h2 : ¬ 57 < ((s[i]).toNat : Int) := by omega
      have e1 : IntKind.i64.wrap (10 * (g : Int)) = 10 * g := wrap_id (by omega) (by omega)
      have e0 : IntKind.i64.wrap ((s[i]).toNat : Int) = (s[i]).toNat := wrap_id (by omega) (by omega)
      have e2 : IntKind.i64.wrap (10 * (g : Int) + (s[i]).toNat) = 10 * g + (s[i]).toNat := wrap_id (by omega) (by omega)
      have e3 : IntKind.i64.wrap (10 * (g : Int) + (s[i]).toNat - 48) = ((10 * g + (s[i]).toNat - 48 : Nat) : Int) := by rw [wrap_id (by omega) (by omega)]; omega
      simp -implicitDefEqProofs [s_NumRead_L0, s_NumRead_L0b, hl, hw, h, h1, h2, e0, e1, e2, e3]
    · have hx := h
      simp only [digB, decide_eq_true_eq] at hx
      by_cases h1 : ((s[i]).toNat : Int) < 48
      · simp -implicitDefEqProofs [s_NumRead_L0, s_NumRead_L0b, hl, hw, h, h1, lv]
      · have h2 : 57 < ((s[i]).toNat : Int) := by omega
        simp -implicitDefEqProofs [s_NumRead_L0, s_NumRead_L0b, hl, hw, h, h1, h2, lv]
  · obtain ⟨hl, rfl⟩ := List.getElem?_eq_some_iff.1 hi
    split at hg
    · rename_i hx
      simp only [digB, decide_eq_true_eq] at hx
      injection hg with hg
      rw [Nat.pow_succ]; omega
    · cases hg
  · simp -implicitDefEqProofs [s_NumRead_L0, s_NumRead_L0b]
theorem foldI_foldl {β γ : Type} (go : γ → β → γ) : ∀ (l : List β) (i : Nat) (g : γ), foldI (fun _ g b => go g b) i l g = l.foldl go g
  | [], _, _ => rfl
  | b :: l, i, g => by rw [foldI, foldI_foldl go l, List.foldl_cons]
theorem c_s_NumRead (s : Str) (hb : s.length ≤ 9223372036854775807) : ev LI TT 73 [.str ⟨s.toArray⟩] = some (.tup [.int .i64 ((((numRead s).getD 0 : Nat) : Int)), .bool ((numRead s).isSome)], [.dead]) := by
  rw [ev_run (b := s_NumRead_b) (rs := [.t 2, .t 3]) (n := 1) rfl rfl]
  by_cases h7 : 7 < s.length 
  · have h7' : 7 < (s.length : Int) := by omega 
    have hn : ¬ s = [] := by rintro rfl; simp at h7 
    simp -implicitDefEqProofs [s_NumRead_b, numRead_long s h7, h7', hn] 
  have h7' : ¬ 7 < (s.length : Int) := by omega 
  rw [numRead_eq s (by omega)] 
  by_cases h0 : s = [] 
  · subst h0; simp -implicitDefEqProofs [s_NumRead_b] 
  by_cases hd : allB digB s = true 
  rotate_left 
  · have u1 := L_s_NumRead1 s (by omega) hd 
    simp -implicitDefEqProofs [s_NumRead_b, h7', h0, hd, u1] 
  have u1 := L_s_NumRead0 s (by omega) hd 0 (by decide) 
  rw [show foldI (fun _ (g : Nat) (b : UInt8) => 10 * g + b.toNat - 48) 0 s 0 = valS s from foldI_foldl _ s 0 0] at u1 
  simp only [Int.ofNat_zero] at u1 
  have u2 := c_s_NumText (valS s) 
  by_cases ht : numText (valS s) = s 
  rotate_left 
  · simp -implicitDefEqProofs [s_NumRead_b, h7', h0, hd, u1, u2, eq_false ht]
  simp -implicitDefEqProofs [s_NumRead_b, h7', h0, hd, u1, u2, eq_true ht]
  all_goals (repeat' split) <;> first | rfl | omega | (simp_all; done) | (simp_all; omega) | skip
end M
set_option linter.unusedVariables false
set_option linter.unusedSimpArgs false
namespace M
open Go
def spF (w : Str) : List Str := if trimS w ≠ [] then [trimS w] else []
theorem opt_cases (s : Str) (i : Nat) (h : i < (s.map some ++ [none]).length) : (∃ hi : i < s.length, (s.map some ++ [none])[i] = some s[i]) ∨ (i = s.length ∧ (s.map some ++ [none])[i] = none) := by
  by_cases hi : i < s.length
  · refine .inl ⟨hi, ?_⟩
    rw [List.getElem_append_left (by simpa using hi)]
    simp
  · simp at h
    obtain rfl : i = s.length := by omega
    refine .inr ⟨rfl, ?_⟩
    rw [List.getElem_append_right (by simp)]
    simp
theorem spF_len (w : Str) : (spF w).length ≤ 1 := by unfold spF; split <;> simp
theorem goW_inv (c : UInt8) (f : Str → List Str) (hf : ∀ w, (f w).length ≤ 1) (s : Str) (i : Nat) (g : List Str × Nat) (b : Option UInt8) (h : g.2 ≤ i ∧ g.1.length ≤ i) : (goW c f s i g b).2 ≤ i + 1 ∧ (goW c f s i g b).1.length ≤ i + 1 := by
  unfold goW
  have := hf ((s.take i).drop g.2)
  split
  · split
    · simp; omega
    · omega
  · simp; omega
end M
set_option linter.unusedVariables false
set_option linter.unusedSimpArgs false
namespace M
open Go
end M
set_option linter.unusedVariables false
set_option linter.unusedSimpArgs false
namespace M
open Go
theorem nmCL_eq : (⟨#[99, 111, 110, 116, 101, 110, 116, 45, 108, 101, 110, 103, 116, 104]⟩ : ByteArray) = ⟨nmCL.toArray⟩ := rfl
theorem fld_modify (fs : List Fld) (i : Nat) (h : i < fs.length) (v : Str) : (fs.map eFld).modify i (fun e => e.set 1 (X.str ⟨v.toArray⟩)) = (fs.set i ⟨fs[i].name, v⟩).map eFld := by
  apply List.ext_getElem?
  intro j
  rw [List.getElem?_modify, List.getElem?_map, List.getElem?_map, List.getElem?_set]
  by_cases hij : i = j
  · subst hij
    simp [h]
  · simp only [hij, if_false]
    cases fs[j]? <;> rfl
theorem fld_scalars (fs : List Fld) : scalarsB (fs.map eFld) = true := by induction fs <;> simp_all [scalarsB, scalar]
end M
set_option linter.unusedVariables false
set_option linter.unusedSimpArgs false
namespace M
open Go
theorem words_len (s : Str) : (wordsC s).length ≤ s.length + 1 := by
  unfold wordsC
  have h1 := List.length_filter_le (fun w : Str => decide (w ≠ [])) ((splitC 44 s).map trimS)
  have h2 := splitC_len 44 s
  simp only [List.length_map] at h1
  omega
theorem words_mem (s : Str) : ∀ w ∈ wordsC s, w.length ≤ s.length := by
  intro w hw
  unfold wordsC at hw
  obtain ⟨x, hx, rfl⟩ := List.mem_map.1 (List.mem_filter.1 hw).1
  have h1 := splitC_mem 44 s x hx
  have h2 := trimS_len x
  omega
theorem lowS_len (s : Str) : (lowS s).length = s.length := by simp [lowS]
theorem varyOf_len (fs : List Fld) : (varyOf fs).length ≤ wL wFld fs + 1 := by
  have h1 := words_len ((gtF fs nmVary).getD [])
  have h2 := gtF_len fs nmVary
  simp [varyOf]; omega
end M
set_option linter.unusedVariables false
set_option linter.unusedSimpArgs false
namespace M
open Go
theorem zip_same : ∀ {a b : List Str}, (∀ x ∈ a.zip b, ¬ (decide (x.1 ≠ x.2)) = true) → a.length = b.length → a = b
  | [], [], _, _ => rfl
  | x :: a, y :: b, h, hl => by
    have h1 := h (x, y) (by simp)
    simp at h1
    have h2 : a = b := zip_same (fun z hz => h z (by simp only [List.zip_cons_cons]; exact List.mem_cons_of_mem _ hz)) (by simpa using hl)
    rw [h1, h2]
theorem zip_diff {a b : List Str} {x : Str × Str} (hx : x ∈ a.zip b) (h : x.1 ≠ x.2) : a ≠ b := by
  rintro rfl
  have : ∀ {l : List Str} {x : Str × Str}, x ∈ l.zip l → x.1 = x.2 := by
    intro l
    induction l with
    | nil => intro x h; simp at h
    | cons y l ih =>
      intro x h
      simp only [List.zip_cons_cons, List.mem_cons] at h
      rcases h with rfl | h
      · rfl
      · exact ih h
  exact h (this hx)
end M
set_option linter.unusedVariables false
set_option linter.unusedSimpArgs false
namespace M
open Go
end M
set_option linter.unusedVariables false
set_option linter.unusedSimpArgs false
namespace M
open Go
def sumS (g : Nat × Nat) (b : UInt8) : Nat × Nat := ((g.1 + b.toNat) % 65521, (g.2 + (g.1 + b.toNat) % 65521) % 65521)
theorem sumS_lt (g : Nat × Nat) (b : UInt8) : (sumS g b).1 < 65521 ∧ (sumS g b).2 < 65521 := ⟨Nat.mod_lt _ (by decide), Nat.mod_lt _ (by decide)⟩
theorem sum_step (g : Nat × Nat) (b : UInt8) (h : g.1 < 65521 ∧ g.2 < 65521) : (IntKind.i64.wrap (↑g.1 + IntKind.i64.wrap ↑b.toNat)).tmod 65521 = ↑(sumS g b).1 ∧
    (IntKind.i64.wrap (↑g.2 + (IntKind.i64.wrap (↑g.1 + IntKind.i64.wrap ↑b.toNat)).tmod 65521)).tmod 65521 = ↑(sumS g b).2 := by
  have hb := b.toNat_lt
  have e1 : IntKind.i64.wrap (↑g.1 + IntKind.i64.wrap ↑b.toNat) = ((g.1 + b.toNat : Nat) : Int) := by rw [wrap_id (n := (b.toNat : Int)) (by omega) (by omega), wrap_id (by omega) (by omega)]; omega
  have e2 : (((g.1 + b.toNat : Nat) : Int)).tmod 65521 = ↑(sumS g b).1 := by rw [Int.tmod_eq_emod_of_nonneg (by omega)]; unfold sumS; omega
  have h1 := (sumS_lt g b).1
  have e3 : IntKind.i64.wrap (↑g.2 + (↑(sumS g b).1 : Int)) = ((g.2 + (sumS g b).1 : Nat) : Int) := by rw [wrap_id (by omega) (by omega)]; omega
  rw [e1, e2, e3]
  refine ⟨rfl, ?_⟩
  rw [Int.tmod_eq_emod_of_nonneg (by omega)]
  unfold sumS
  omega
def sumP (s : Str) : Nat × Nat := foldI (fun _ g b => sumS g b) 0 s (1, 0)
theorem foldI_inv {γ β : Type} {go : Nat → γ → β → γ} {I : γ → Prop} (h : ∀ i g b, I g → I (go i g b)) : ∀ (l : List β) (i : Nat) (g : γ), I g → I (foldI go i l g)
  | [], _, _, hg => hg
  | b :: l, i, g, hg => foldI_inv h l (i + 1) _ (h i g b hg)
theorem sumP_lt (s : Str) : (sumP s).1 < 65521 ∧ (sumP s).2 < 65521 := foldI_inv (I := fun g => g.1 < 65521 ∧ g.2 < 65521) (fun _ g b _ => sumS_lt g b) s 0 _ (by simp)
def sumN (s : Str) : Nat := 65521 * (sumP s).2 + (sumP s).1
theorem sumN_lt (s : Str) : sumN s < 10 ^ 10 := by have := sumP_lt s; unfold sumN; omega
theorem L_s_Sum (s : Str) (hb : s.length ≤ 9223372036854775807) (g : Nat × Nat) (hinv : g.1 < 65521 ∧ g.2 < 65521) : loopW (evA (ev LI TT) (okT TT) s_Sum_L0) [(0, .str ⟨s.toArray⟩), (3, .int .i64 (g).1), (4, .int .i64 (g).2), (5, .int .i64 0)] = some (.exit 0, [(0, .str ⟨s.toArray⟩), (3, .int .i64 ((foldI (fun _ g b => sumS g b) 0 (s) g)).1), (4, .int .i64 ((foldI (fun _ g b => sumS g b) 0 (s) g)).2), (5, .int .i64 (s).length), (9, .bool false)]) := by
  refine loop_foldI (f := evA (ev LI TT) (okT TT) s_Sum_L0) (s) (fun i (g : Nat × Nat) => [(0, .str ⟨s.toArray⟩), (3, .int .i64 (g).1), (4, .int .i64 (g).2), (5, .int .i64 i)]) (fun _ g b => sumS g b) (fun g => [(0, .str ⟨s.toArray⟩), (3, .int .i64 (g).1), (4, .int .i64 (g).2), (5, .int .i64 (s).length), (9, .bool false)]) (fun i (g : Nat × Nat) => g.1 < 65521 ∧ g.2 < 65521) g hinv (fun i b g hi hl hinv => ?_) (fun i b g hi hinv => ?_) (fun g hinv => ?_)
  · have hw := wrap_succ i (by first | omega | (simp at hl; omega))
    obtain ⟨_, rfl⟩ := List.getElem?_eq_some_iff.1 hi
    skip
    simp -implicitDefEqProofs [s_Sum_L0, s_Sum_L0b, hl, hw]
    exact sum_step g s[i] hinv
  · exact sumS_lt _ _
  · simp -implicitDefEqProofs [s_Sum_L0, s_Sum_L0b]
theorem c_s_Sum (s : Str) (hb : s.length ≤ 9223372036854775807) : ev LI TT 33 [.str ⟨s.toArray⟩] = some (.int .i64 (sumN s), [.dead]) := by
  rw [ev_run (b := s_Sum_b) (rs := [.t 2]) (n := 1) rfl rfl]
  have h := L_s_Sum  s hb (1, 0) (by simp) 
  have h2 := sumP_lt s 
  have e1 : IntKind.i64.wrap (65521 * ((sumP s).2 : Int)) = 65521 * (sumP s).2 := wrap_id (by omega) (by omega) 
  have e2 : IntKind.i64.wrap (65521 * ((sumP s).2 : Int) + (sumP s).1) = 65521 * (sumP s).2 + (sumP s).1 := wrap_id (by omega) (by omega) 
  rw [show foldI (fun _ g b => sumS g b) 0 s (1, 0) = sumP s from rfl] at h 
  simp at h
  simp -implicitDefEqProofs [s_Sum_b, h, e1, e2, sumN]
  all_goals (repeat' split) <;> first | rfl | omega | (simp_all; done) | (simp_all; omega) | skip
theorem L_i_Sum (s : Str) (hb : s.length ≤ 9223372036854775807) (g : Nat × Nat) (hinv : g.1 < 65521 ∧ g.2 < 65521) : loopW (evA (ev LI TT) (okT TT) i_Sum_L0) [(0, .str ⟨s.toArray⟩), (3, .int .i64 (g).1), (4, .int .i64 (g).2), (5, .int .i64 0)] = some (.exit 0, [(0, .str ⟨s.toArray⟩), (3, .int .i64 ((foldI (fun _ g b => sumS g b) 0 (s) g)).1), (4, .int .i64 ((foldI (fun _ g b => sumS g b) 0 (s) g)).2), (5, .int .i64 (s).length), (9, .bool false)]) := by
  refine loop_foldI (f := evA (ev LI TT) (okT TT) i_Sum_L0) (s) (fun i (g : Nat × Nat) => [(0, .str ⟨s.toArray⟩), (3, .int .i64 (g).1), (4, .int .i64 (g).2), (5, .int .i64 i)]) (fun _ g b => sumS g b) (fun g => [(0, .str ⟨s.toArray⟩), (3, .int .i64 (g).1), (4, .int .i64 (g).2), (5, .int .i64 (s).length), (9, .bool false)]) (fun i (g : Nat × Nat) => g.1 < 65521 ∧ g.2 < 65521) g hinv (fun i b g hi hl hinv => ?_) (fun i b g hi hinv => ?_) (fun g hinv => ?_)
  · have hw := wrap_succ i (by first | omega | (simp at hl; omega))
    obtain ⟨_, rfl⟩ := List.getElem?_eq_some_iff.1 hi
    skip
    simp -implicitDefEqProofs [i_Sum_L0, i_Sum_L0b, hl, hw]
    exact sum_step g s[i] hinv
  · exact sumS_lt _ _
  · simp -implicitDefEqProofs [i_Sum_L0, i_Sum_L0b]
theorem c_i_Sum (s : Str) (hb : s.length ≤ 9223372036854775807) : ev LI TT 32 [.str ⟨s.toArray⟩] = some (.int .i64 (sumN s), [.dead]) := by
  rw [ev_run (b := i_Sum_b) (rs := [.t 2]) (n := 1) rfl rfl]
  have h := L_i_Sum  s hb (1, 0) (by simp) 
  have h2 := sumP_lt s 
  have e1 : IntKind.i64.wrap (65521 * ((sumP s).2 : Int)) = 65521 * (sumP s).2 := wrap_id (by omega) (by omega) 
  have e2 : IntKind.i64.wrap (65521 * ((sumP s).2 : Int) + (sumP s).1) = 65521 * (sumP s).2 + (sumP s).1 := wrap_id (by omega) (by omega) 
  rw [show foldI (fun _ g b => sumS g b) 0 s (1, 0) = sumP s from rfl] at h 
  simp at h
  simp -implicitDefEqProofs [i_Sum_b, h, e1, e2, sumN]
  all_goals (repeat' split) <;> first | rfl | omega | (simp_all; done) | (simp_all; omega) | skip
theorem L_digits (n : Nat) (out : Str) (hn : out.length + n ≤ 9223372036854775807) : loopW (evA (ev LI TT) (okT TT) s_l13Digits_L0) [(0, .int .i64 n), (3, .str ⟨out.toArray⟩)] = some (.exit 0, [(0, .int .i64 0), (3, .str ⟨(markD n out).toArray⟩), (7, .bool false)]) := by
  have hs : ∀ s, evA (ev LI TT) (okT TT) s_l13Digits_L0 s = evA (ev LI TT) (okT TT) s_l13Digits_L0b s := fun _ => rfl
  induction n using Nat.strongRecOn generalizing out with
  | ind n ih =>
    rw [loopW_eq, hs]
    unfold markD
    by_cases h : n = 0
    · subst h
      simp -implicitDefEqProofs [s_l13Digits_L0b]
    · have hp : 0 < n := by omega
      have := ih (n / 10) (by omega) (UInt8.ofNat (48 + n % 10) :: out) (by rw [List.length_cons]; omega)
      have e1 : ((n : Int)).tmod 10 = ((n % 10 : Nat) : Int) := by rw [Int.tmod_eq_emod_of_nonneg (by omega)]; omega
      have e4 : ((n : Int)).tdiv 10 = ((n / 10 : Nat) : Int) := by rw [Int.tdiv_eq_ediv_of_nonneg (by omega)]; omega
      have e2 : IntKind.i64.wrap (48 + ((n % 10 : Nat) : Int)) = ((48 + n % 10 : Nat) : Int) := by rw [wrap_id (by omega) (by omega)]; omega
      have e3 : IntKind.u8.wrap ((48 + n % 10 : Nat) : Int) = ((48 + n % 10 : Nat) : Int) := wrap8_id' (by omega) (by omega)
      have e5 := u8s_one' (48 + n % 10) (by omega)
      have e6 : IntKind.i64.wrap ((n / 10 : Nat) : Int) = ((n / 10 : Nat) : Int) := wrap_id (by omega) (by omega)
      simp only [h, dite_false]
      rw [← this]
      simp -implicitDefEqProofs [s_l13Digits_L0b, hp, litB, e1, e2, e3, e4, e5, e6, -Int.natCast_emod, -Int.natCast_ediv, -Int.natCast_add, -UInt8.ofNat_add, str_append, (by omega : 1 + out.length ≤ 9223372036854775807)]
theorem c_s_l13Digits (n : Nat) (hk : n ≤ 9223372036854775800) : ev LI TT 79 [.int .i64 (n : Int)] = some (.str ⟨(digS n).toArray⟩, [.dead]) := by
  rw [ev_run (b := s_l13Digits_b) (rs := [.t 2]) (n := 1) rfl rfl]
  by_cases h : n = 0 
  · subst h; simp -implicitDefEqProofs [s_l13Digits_b, digS_zero] 
  have h1 := L_digits  n [] (by simp; omega) 
  rw [markD_dig n [] h, List.append_nil] at h1
  simp -implicitDefEqProofs [s_l13Digits_b, h, h1]
  all_goals (repeat' split) <;> first | rfl | omega | (simp_all; done) | (simp_all; omega) | skip
def recT (n : Nat) (b : Str) : Str := digS (sumN (digS n ++ 32 :: (digS b.length ++ 10 :: b))) ++ 32 :: (digS n ++ 32 :: (digS b.length ++ 10 :: b))
def recS (n : Int) (b : Str) : Str := if 1 ≤ n ∧ n ≤ 100000 ∧ b.length ≤ 2000 then recT n.toNat b else []
theorem c_s_RecText (n : Int) (b : Str) (hb : b.length ≤ 9223372036854775807) : ev LI TT 29 [.int .i64 n, .str ⟨b.toArray⟩] = some (.str ⟨(recS n b).toArray⟩, [.dead, .dead]) := by
  rw [ev_run (b := s_RecText_b) (rs := [.t 4]) (n := 2) rfl rfl]
  by_cases h1 : ¬ (1 ≤ n ∧ n ≤ 100000) 
  · have h1' : ¬ (1 ≤ n ∧ n ≤ 100000 ∧ b.length ≤ 2000) := by omega 
    simp -implicitDefEqProofs [s_RecText_b, h1, recS, h1'] 
  by_cases h2 : 2000 < b.length 
  · have h1' : ¬ (1 ≤ n ∧ n ≤ 100000 ∧ b.length ≤ 2000) := by omega 
    have h2' : (2000 : Int) < b.length := by omega 
    simp -implicitDefEqProofs [s_RecText_b, h1, recS, h1', h2, h2'] 
  obtain ⟨m, rfl⟩ : ∃ m : Nat, n = m := ⟨n.toNat, by omega⟩ 
  have l1 := digS_len 5 m (by omega) 
  have l2 := digS_len 5 b.length (by omega) 
  have l3 := digS_len 17 (sumN (digS m ++ 32 :: (digS b.length ++ 10 :: b))) (Nat.lt_trans (sumN_lt _) (by decide)) 
  have k1 := c_s_l13Digits  m (by omega) 
  have k2 := c_s_l13Digits  b.length (by omega) 
  have k4 := c_s_l13Digits  (sumN (digS m ++ 32 :: (digS b.length ++ 10 :: b))) (by have := sumN_lt (digS m ++ 32 :: (digS b.length ++ 10 :: b)); omega) 
  have k3 := c_s_Sum  (digS m ++ 32 :: (digS b.length ++ 10 :: b)) (by simp; omega) 
  have h2' : ¬ (2000 < (b.length : Int)) := by omega 
  have h3 : 1 ≤ m ∧ m ≤ 100000 := by omega 
  have h4 : b.length ≤ 2000 := by omega
  simp -implicitDefEqProofs [s_RecText_b, h2', h3, h4, k1, k2, k3, k4, str_append, recS, recT]
  repeat rw [if_pos (by omega)]
theorem c_i_RecText (n : Int) (b : Str) (hb : b.length ≤ 9223372036854775807) : ev LI TT 28 [.int .i64 n, .str ⟨b.toArray⟩] = some (.str ⟨(recS n b).toArray⟩, [.dead, .dead]) := by
  rw [ev_run (b := i_RecText_b) (rs := [.t 4]) (n := 2) rfl rfl]
  by_cases h1 : ¬ (1 ≤ n ∧ n ≤ 100000) 
  · have h1' : ¬ (1 ≤ n ∧ n ≤ 100000 ∧ b.length ≤ 2000) := by omega 
    simp -implicitDefEqProofs [i_RecText_b, h1, recS, h1'] 
  by_cases h2 : 2000 < b.length 
  · have h1' : ¬ (1 ≤ n ∧ n ≤ 100000 ∧ b.length ≤ 2000) := by omega 
    have h2' : (2000 : Int) < b.length := by omega 
    simp -implicitDefEqProofs [i_RecText_b, h1, recS, h1', h2, h2'] 
  obtain ⟨m, rfl⟩ : ∃ m : Nat, n = m := ⟨n.toNat, by omega⟩ 
  have l1 := digS_len 5 m (by omega) 
  have l2 := digS_len 5 b.length (by omega) 
  have l3 := digS_len 17 (sumN (digS m ++ 32 :: (digS b.length ++ 10 :: b))) (Nat.lt_trans (sumN_lt _) (by decide)) 
  have k1 := c_x_strconv_Itoa m (by omega) 
  have k2 := c_x_strconv_Itoa b.length (by omega) 
  have k4 := c_x_strconv_Itoa (sumN (digS m ++ 32 :: (digS b.length ++ 10 :: b))) (by have := sumN_lt (digS m ++ 32 :: (digS b.length ++ 10 :: b)); omega) 
  have k3 := c_i_Sum  (digS m ++ 32 :: (digS b.length ++ 10 :: b)) (by simp; omega) 
  have h2' : ¬ (2000 < (b.length : Int)) := by omega 
  have h3 : 1 ≤ m ∧ m ≤ 100000 := by omega 
  have h4 : b.length ≤ 2000 := by omega
  simp -implicitDefEqProofs [i_RecText_b, h2', h3, h4, k1, k2, k3, k4, str_append, recS, recT]
  repeat rw [if_pos (by omega)]
end M
set_option linter.unusedVariables false
set_option linter.unusedSimpArgs false
namespace M
open Go
theorem L_s_l3Words (s : Str) (hb : s.length ≤ 1073741824) (g : List Str × Nat) (hinv : g.2 ≤ 0 ∧ g.1.length ≤ 0) : loopW (evA (ev LI TT) (okT TT) s_l3Words_L0) [(0, .str ⟨s.toArray⟩), (3, .row .own 1 ((g).1.map eS)), (4, .int .i64 ((g).2 : Nat)), (5, .int .i64 0)] = some (.exit 0, [(0, .str ⟨s.toArray⟩), (3, .row .own 1 (((foldI (goW 32 (fun w => [w]) s) 0 (s.map some ++ [none]) g)).1.map eS)), (4, .int .i64 (((foldI (goW 32 (fun w => [w]) s) 0 (s.map some ++ [none]) g)).2 : Nat)), (5, .int .i64 (s.map some ++ [none]).length), (10, .bool false)]) := by
  refine loop_foldI (f := evA (ev LI TT) (okT TT) s_l3Words_L0) (s.map some ++ [none]) (fun i (g : List Str × Nat) => [(0, .str ⟨s.toArray⟩), (3, .row .own 1 ((g).1.map eS)), (4, .int .i64 ((g).2 : Nat)), (5, .int .i64 i)]) (goW 32 (fun w => [w]) s) (fun g => [(0, .str ⟨s.toArray⟩), (3, .row .own 1 ((g).1.map eS)), (4, .int .i64 ((g).2 : Nat)), (5, .int .i64 (s.map some ++ [none]).length), (10, .bool false)]) (fun i (g : List Str × Nat) => g.2 ≤ i ∧ g.1.length ≤ i) g hinv (fun i b g hi hl hinv => ?_) (fun i b g hi hinv => ?_) (fun g hinv => ?_)
  · have hw := wrap_succ i (by first | omega | (simp at hl; omega))
    obtain ⟨_, rfl⟩ := List.getElem?_eq_some_iff.1 hi
    have hlz : (g.1.length + 1) * 16 ≤ 140737488355328 := by simp at hl; omega 
    have h44 : ∀ b : UInt8, ((b.toNat : Int) = 32) ↔ b = 32 := fun b => ⟨fun h => UInt8.toNat_inj.1 (by have e : (32 : UInt8).toNat = 32 := rfl; omega), fun h => by subst h; rfl⟩ 
    rcases opt_cases s i hl with ⟨hi', e⟩ | ⟨rfl, e⟩ 
    · rw [e] 
      have k1 : (i : Int) ≤ s.length := by omega 
      have k2 : i ≤ s.length := by omega 
      have k3 : ¬ i = s.length := by omega 
      have k4 : ¬ (i : Int) = s.length := by omega 
      by_cases hx : s[i] = 32 
      rotate_left 
      · have hx' := mt (h44 s[i]).1 hx 
        simp -implicitDefEqProofs [s_l3Words_L0, s_l3Words_L0b, k1, k2, k3, k4, hi', hw, goW, hx, hx'] 
      have hx' := (h44 s[i]).2 hx 
      have e3 : (s.take i).drop g.2 = (s.drop g.2).take (i - g.2) := List.drop_take .. 
      simp -implicitDefEqProofs [s_l3Words_L0, s_l3Words_L0b, k1, k2, k3, k4, hi', hw, goW, eq_true hx, hx', hinv, Lib.extract_mk, e3, takeE, hlz] 
    rw [e] 
    have e3 : (s.take s.length).drop g.2 = (s.drop g.2).take (s.length - g.2) := List.drop_take .. 
    simp only [goW, e3]
    simp -implicitDefEqProofs [s_l3Words_L0, s_l3Words_L0b, hl, hw, hinv, Lib.extract_mk, takeE, hlz]
  · exact goW_inv 32 (fun w => [w]) (fun _ => Nat.le_refl 1) s i g b hinv
  · have hfin : ¬ ((s.length : Int) + 1 ≤ s.length) := by omega 
    simp -implicitDefEqProofs [s_l3Words_L0, s_l3Words_L0b, hfin]
theorem c_s_l3Words (s : Str) (hb : s.length ≤ 1073741824) : ev LI TT 72 [.str ⟨s.toArray⟩] = some (.row .own 1 ((splitC 32 s).map eS), [.dead]) := by
  rw [ev_run (b := s_l3Words_b) (rs := [.t 2]) (n := 1) rfl rfl]
  have u1 := L_s_l3Words s hb ([], 0) ⟨by omega, by simp⟩ 
  rw [foldSplit, List.flatMap_singleton' (splitC 32 s)] at u1 
  simp at u1
  simp -implicitDefEqProofs [s_l3Words_b, u1]
  all_goals (repeat' split) <;> first | rfl | omega | (simp_all; done) | (simp_all; omega) | skip
theorem cutC_first (c : UInt8) : ∀ (s : Str) (k : Nat), (firstI (fun b => decide ((b.toNat : Int) = c.toNat)) k s).map (fun x => (x.1 - k)) = (cutC c s).map fun p => p.1.length
  | [], k => rfl
  | b :: s, k => by
    have hb : ((b.toNat : Int) = c.toNat) ↔ b = c := ⟨fun h => UInt8.toNat_inj.1 (by omega), fun h => by subst h; rfl⟩
    unfold firstI cutC
    by_cases h : b = c
    · simp [hb, h]
    · have ih := cutC_first c s (k + 1)
      simp only [hb, h, decide_false, Bool.false_eq_true, if_false]
      cases hf : firstI (fun b => decide ((b.toNat : Int) = c.toNat)) (k + 1) s with
      | none =>
        rw [hf] at ih
        cases hc : cutC c s with
        | none => rfl
        | some p => rw [hc] at ih; simp at ih
      | some x =>
        rw [hf] at ih
        cases hc : cutC c s with
        | none => rw [hc] at ih; simp at ih
        | some p =>
          rw [hc] at ih
          have hx := (firstI_some (i := x.1) (b := x.2) hf).1
          simp at ih ⊢
          omega
theorem cutC_eq {c : UInt8} : ∀ {s : Str} {p : Str × Str}, cutC c s = some p → s = p.1 ++ c :: p.2
  | [], p, h => by cases h
  | b :: s, p, h => by
    unfold cutC at h
    split at h
    · rename_i hb
      cases h
      simp [hb]
    · cases hc : cutC c s with
      | none => rw [hc] at h; cases h
      | some q =>
        rw [hc] at h
        cases h
        simp [← cutC_eq hc]
theorem L_s_l10Line (s : Str) (k : Nat) (hk : k ≤ s.length) (hb : s.length ≤ 1073741824) : loopW (evA (ev LI TT) (okT TT) s_l10Line_L0) [(0, .str ⟨s.toArray⟩), (1, .int .i64 (k : Nat)), (6, .int .i64 ((k + 0 : Nat) : Int))] = (firstI (fun b => decide ((b.toNat : Int) = (10 : UInt8).toNat)) 0 (s.drop k)).elim (some (.exit 0, [(0, .str ⟨s.toArray⟩), (1, .int .i64 (k : Nat)), (6, .int .i64 ((k + (s.drop k).length : Nat) : Int)), (11, .bool false)])) fun x => some (.ret, (fun (i : Nat) b => [(4, .str ⟨((s.drop k).take i).toArray⟩), (5, .int .i64 ((k + i + 1 : Nat) : Int))]) x.1 x.2) := by
  refine loop_first (f := evA (ev LI TT) (okT TT) s_l10Line_L0) (s.drop k) (fun i => [(0, .str ⟨s.toArray⟩), (1, .int .i64 (k : Nat)), (6, .int .i64 ((k + i : Nat) : Int))]) (fun b => decide ((b.toNat : Int) = (10 : UInt8).toNat)) (fun (i : Nat) b => [(4, .str ⟨((s.drop k).take i).toArray⟩), (5, .int .i64 ((k + i + 1 : Nat) : Int))]) _ (fun i b hi hl => ?_) ?_
  · have hw := wrap_succ i (by simp at hl; omega)
    obtain ⟨_, rfl⟩ := List.getElem?_eq_some_iff.1 hi
    simp at hl 
    have h1 : k + i < s.length := by omega 
    have h2 := wrap_succ (k + i) (by omega) 
    have h3 : ((k + i : Nat) : Int) < s.length := by omega 
    have h4 : (10 : UInt8).toNat = 10 := rfl 
    have h5 : (k : Int) ≤ ((k + i : Nat) : Int) := by omega 
    have h6 : ((k + i : Nat) : Int) ≤ s.length := by omega 
    simp at h2 h3 h5 h6 
    have h7 : ((k : Int) + (i : Int)).toNat = k + i := by omega 
    have h8 : (0 : Int) ≤ (k : Int) + (i : Int) := by omega 
    have h9 : (s.take (k + i)).drop k = (s.drop k).take i := by rw [List.drop_take]; congr 1; omega
    simp -implicitDefEqProofs [s_l10Line_L0, s_l10Line_L0b, hl, hw, h1, h2, h3, h4, h5, h6, h7, h8, h9, Lib.extract_mk]
    all_goals (repeat' split) <;> first | rfl | omega | (simp_all; done) | (simp_all; omega) | skip
  · have hz : k + (s.length - k) = s.length := by omega 
    have hz' : (k : Int) + ((s.length - k : Nat) : Int) = s.length := by omega 
    simp -implicitDefEqProofs [s_l10Line_L0, s_l10Line_L0b, hz, hz']
def lineN (s : Str) (k : Nat) : Int := match cutC 10 (s.drop k) with
  | some p => ((s.length - p.2.length : Nat) : Int)
  | none => -1
def lineS (s : Str) (k : Nat) : Str := match cutC 10 (s.drop k) with
  | some p => p.1
  | none => []
theorem c_s_l10Line (s : Str) (k : Nat) (hk : k ≤ s.length) (hb : s.length ≤ 1073741824) : ev LI TT 71 [.str ⟨s.toArray⟩, .int .i64 (k : Int)] = some (.tup [.str ⟨(lineS s k).toArray⟩, .int .i64 (lineN s k)], [.dead, .dead]) := by
  rw [ev_run (b := s_l10Line_b) (rs := [.t 4, .t 5]) (n := 2) rfl rfl]
  have hc := cutC_first 10 (s.drop k) 0 
  unfold lineS lineN
  have u1 := L_s_l10Line  s k hk hb
  try simp at u1
  cases g : firstI (fun b : UInt8 => decide ((b.toNat : Int) = 10)) 0 (s.drop k) with 
  | none => 
    have h4 : (10 : UInt8).toNat = 10 := rfl 
    rw [h4] at hc 
    simp only [Int.cast_ofNat_Int] at hc 
    rw [g] at u1 hc 
    cases hq : cutC 10 (s.drop k) with 
    | some p => rw [hq] at hc; simp at hc 
    | none => simp at u1; simp -implicitDefEqProofs [s_l10Line_b, u1] 
  | some x => 
  have h4 : (10 : UInt8).toNat = 10 := rfl 
  rw [h4] at hc 
  simp only [Int.cast_ofNat_Int] at hc 
  rw [g] at u1 hc 
  cases hq : cutC 10 (s.drop k) with 
  | none => rw [hq] at hc; simp at hc 
  | some p => 
  rw [hq] at hc 
  have he := cutC_eq hq 
  have hx : x.1 = p.1.length := by simpa using hc 
  have ht : (s.drop k).take x.1 = p.1 := by rw [hx, he]; simp 
  have hl := congrArg List.length he 
  simp at hl 
  have hn : ((s.length - p.2.length : Nat) : Int) = ((k + x.1 + 1 : Nat) : Int) := by omega 
  simp only [Option.elim, ht] at u1 
  try simp at u1
  simp -implicitDefEqProofs [s_l10Line_b, u1, hn]
  all_goals (repeat' split) <;> first | rfl | omega | (simp_all; done) | (simp_all; omega) | skip
theorem cutC_drop {s : Str} {p : Str × Str} (h : cutC 10 s = some p) : p.2.length < s.length ∧ s.drop (s.length - p.2.length) = p.2 ∧ p.1.length < s.length := by
  have he := cutC_eq h
  have hl := congrArg List.length he
  simp at hl
  refine ⟨by omega, ?_, by omega⟩
  have : s.length - p.2.length = (p.1 ++ [10]).length := by simp; omega
  rw [this, he]
  have e : p.1 ++ 10 :: p.2 = (p.1 ++ [10]) ++ p.2 := by simp
  rw [e, List.drop_left]
end M
set_option linter.unusedVariables false
set_option linter.unusedSimpArgs false
namespace M
open Go
def recRead (s : Str) : Int × Str × Bool := match cutC 10 s with
  | some (l, b) => match splitC 32 l with
    | [_, w, _] => if recS ((numRead w).getD 0 : Nat) b = s then ((((numRead w).getD 0 : Nat) : Int), b, true) else (0, [], false)
    | _ => (0, [], false)
  | none => (0, [], false)
theorem c_s_RecRead (s : Str) (hb : s.length ≤ 1073741824) : ev LI TT 25 [.str ⟨s.toArray⟩] = some (.tup [.int .i64 ((recRead s).1), .str ⟨((recRead s).2.1).toArray⟩, .bool ((recRead s).2.2)], [.dead]) := by
  rw [ev_run (b := s_RecRead_b) (rs := [.t 2, .t 3, .t 4]) (n := 1) rfl rfl]
  have u1 := c_s_l10Line s 0 (by omega) hb 
  simp only [lineS, lineN, List.drop_zero] at u1 
  unfold recRead 
  cases hc : cutC 10 s with 
  | none => 
    rw [hc] at u1 
    have u2 := c_s_l3Words [] (by simp) 
    simp at u1 u2 
    simp -implicitDefEqProofs [s_RecRead_b, u1, u2] 
  | some p => 
  obtain ⟨l, b⟩ := p 
  rw [hc] at u1 
  have hd := cutC_drop hc 
  simp only at hd 
  obtain ⟨d1, d2, d3⟩ := hd 
  have u2 := c_s_l3Words l (by omega) 
  have d4 : ¬ (((s.length - b.length : Nat) : Int) < 0) := by omega 
  have d5 : s.length - b.length ≤ s.length := by omega 
  have d6 : ¬ s = [] := by rintro rfl; simp at d1 
  have hm := splitC_mem 32 l 
  simp only at u1 
  generalize s.length - b.length = e at u1 d2 d4 d5 
  have d7 : (e : Int) ≤ s.length := by omega 
  rcases hw : splitC 32 l with _ | ⟨w0, _ | ⟨w1, _ | ⟨w2, _ | ⟨w3, ws⟩⟩⟩⟩ 
  · exact absurd hw (splitC_ne 32 l) 
  · rw [hw] at u2; simp at u1 u2; simp -implicitDefEqProofs [s_RecRead_b, u1, u2, hw, d4] 
  · rw [hw] at u2; simp at u1 u2; simp -implicitDefEqProofs [s_RecRead_b, u1, u2, hw, d4] 
  rotate_left 
  · rw [hw] at u2 
    have hn : ¬ ((ws.length : Int) + 1 + 1 + 1 + 1 = 3) := by omega 
    simp at u1 u2; simp -implicitDefEqProofs [s_RecRead_b, u1, u2, hw, d4, hn] 
  have hw1 := hm w1 (by rw [hw]; simp) 
  rw [hw] at u2 
  have u3 := c_s_NumRead w1 (by omega) 
  have u4 := c_s_RecText ((numRead w1).getD 0 : Nat) b (by omega) 
  simp at u1 u2 u3 
  obtain ⟨n, hn⟩ : ∃ n, (numRead w1).getD 0 = n := ⟨_, rfl⟩ 
  rw [hn] at u3 u4 
  have d8 : s.length - e = b.length := by rw [← d2]; simp 
  by_cases g : recS (n : Int) b = s 
  · simp -implicitDefEqProofs [s_RecRead_b, u1, u2, hw, u3, u4, d2, d4, d5, d6, d7, d8, hn, eq_true g, Lib.extract_mk]
  simp -implicitDefEqProofs [s_RecRead_b, u1, u2, hw, u3, u4, d2, d4, d5, d6, d7, d8, hn, eq_false g, Lib.extract_mk]
  all_goals (repeat' split) <;> first | rfl | omega | (simp_all; done) | (simp_all; omega) | skip
theorem c_i_RecRead (s : Str) (hb : s.length ≤ 1073741824) : ev LI TT 26 [.str ⟨s.toArray⟩] = some (.tup [.int .i64 ((recRead s).1), .str ⟨((recRead s).2.1).toArray⟩, .bool ((recRead s).2.2)], [.dead]) := by
  rw [ev_run (b := i_RecRead_b) (rs := [.t 2, .t 3, .t 4]) (n := 1) rfl rfl]
  have u1 := c_x_strings_Cut s [10] (by omega) 
  have ec := cut_one 10 s 
  unfold recRead 
  cases hc : cutC 10 s with 
  | none => 
    rw [hc] at ec 
    have u2 := c_x_strings_Split s 32 (by omega) 
    simp only at ec 
    rw [ec] at u1 
    simp at u1 u2 
    simp -implicitDefEqProofs [i_RecRead_b, u1, u2] 
  | some p => 
  obtain ⟨l, b⟩ := p 
  rw [hc] at ec 
  simp only at ec 
  rw [ec] at u1 
  have hd := cutC_drop hc 
  simp only at hd 
  obtain ⟨d1, d2, d3⟩ := hd 
  have u2 := c_x_strings_Split l 32 (by omega) 
  have d6 : ¬ s = [] := by rintro rfl; simp at d1 
  have hm := splitC_mem 32 l 
  simp only at u1 
  rcases hw : splitC 32 l with _ | ⟨w0, _ | ⟨w1, _ | ⟨w2, _ | ⟨w3, ws⟩⟩⟩⟩ 
  · exact absurd hw (splitC_ne 32 l) 
  · rw [hw] at u2; simp at u1 u2; simp -implicitDefEqProofs [i_RecRead_b, u1, u2, hw] 
  · rw [hw] at u2; simp at u1 u2; simp -implicitDefEqProofs [i_RecRead_b, u1, u2, hw] 
  rotate_left 
  · rw [hw] at u2 
    have hn : ¬ ((ws.length : Int) + 1 + 1 + 1 + 1 = 3) := by omega 
    simp at u1 u2; simp -implicitDefEqProofs [i_RecRead_b, u1, u2, hw, hn] 
  have hw1 := hm w1 (by rw [hw]; simp) 
  rw [hw] at u2 
  have u3 := c_i_NumRead w1 (by omega) 
  cases hq : numRead w1 with 
  | none => 
    rw [hq] at u3 
    have g : ¬ recS ((0 : Nat) : Int) b = s := by rw [show recS ((0 : Nat) : Int) b = [] by unfold recS; rw [if_neg (by omega)]]; exact fun h => d6 h.symm 
    simp at u1 u2 u3 g 
    simp -implicitDefEqProofs [i_RecRead_b, u1, u2, hw, hq, u3, eq_false g] 
  | some n => 
  rw [hq] at u3 
  have u4 := c_i_RecText (n : Int) b (by omega) 
  simp at u1 u2 u3 
  by_cases h0 : n = 0 
  · subst h0 
    have g : ¬ recS ((0 : Nat) : Int) b = s := by rw [show recS ((0 : Nat) : Int) b = [] by unfold recS; rw [if_neg (by omega)]]; exact fun h => d6 h.symm 
    simp at g 
    simp -implicitDefEqProofs [i_RecRead_b, u1, u2, hw, hq, u3, eq_false g] 
  by_cases g : recS (n : Int) b = s 
  · simp -implicitDefEqProofs [i_RecRead_b, u1, u2, hw, hq, u3, u4, h0, eq_true g]
  simp -implicitDefEqProofs [i_RecRead_b, u1, u2, hw, hq, u3, u4, h0, eq_false g]
  all_goals (repeat' split) <;> first | rfl | omega | (simp_all; done) | (simp_all; omega) | skip
end M
set_option linter.unusedVariables false
set_option linter.unusedSimpArgs false
set_option maxHeartbeats 4000000
namespace M
open Go
theorem law_FnExactRecRead (a0 : Str) (k0 : bS a0) : ∃ ps, ev LI TT 6 [.str ⟨a0.toArray⟩] = some (.bool true, ps) := by
  rw [ev_run (b := l_FnExactRecRead_b) (rs := [.t 2]) (n := 1) rfl rfl]
  by_cases z0 : 1048576 < (a0.length : Int)
  · simp -implicitDefEqProofs [l_FnExactRecRead_b, z0]
  have hS := c_s_RecRead a0 (by omega)
  have hI := c_i_RecRead a0 (by omega)
  try simp at hS
  try simp at hI
  simp -implicitDefEqProofs [l_FnExactRecRead_b, z0, hS, hI]
end M
