/- What the functions come to in the machine; no conditions. -/
import Derived.Test.YtanjldhhcnfibaaMc
import Derived.Test.YtanjldhhcnfibaaTab
set_option linter.unusedSectionVars false
set_option linter.unusedVariables false
set_option linter.unusedSimpArgs false
namespace M
open Go
/-- A loop whose end is drawn. -/
theorem loop_ms {γ : Type} {f : Slots → Res} (st : γ → Slots) (μ : γ → Nat) (Inv : γ → Prop) (E : γ → Slots)
    (h : ∀ g, Inv g → (∃ g', Inv g' ∧ f (st g) = some (.exit 0, E g')) ∨ ∃ g', Inv g' ∧ μ g' < μ g ∧ f (st g) = some (.normal, st g')) (g : γ) (hg : Inv g) : ∃ g', Inv g' ∧ loopW f (st g) = some (.exit 0, E g') := by
  suffices H : ∀ n g, μ g = n → Inv g → ∃ g', Inv g' ∧ loopW f (st g) = some (.exit 0, E g') from H _ g rfl hg
  intro n
  induction n using Nat.strongRecOn with
  | ind n ih =>
    intro g hn hI
    rcases h g hI with ⟨g', h1, h2⟩ | ⟨g', h1, h2, h3⟩
    · exact ⟨g', h1, by rw [loopW_eq, h2]; rfl⟩
    · obtain ⟨g2, h4, h5⟩ := ih _ (hn ▸ h2) g' rfl h1
      exact ⟨g2, h4, by rw [loopW_eq, h3]; exact h5⟩
theorem loop_ex2 {γ : Type} {f : Slots → Res} (x : Nat) (n : Nat) (st : Nat → γ → Slots) (Inv : Nat → γ → Prop) (E : γ → Slots) (g : γ) (h0 : Inv 0 g)
    (h : ∀ i g, i < n → Inv i g → ∃ g', f (st i g) = some (.normal, st (i + 1) g') ∧ Inv (i + 1) g')
    (hend : ∀ g, Inv n g → f (st n g) = some (.exit x, E g)) : ∃ g', Inv n g' ∧ loopW f (st 0 g) = some (.exit x, E g') := by
  suffices H : ∀ k i g, i + k = n → Inv i g → ∃ g', Inv n g' ∧ loopW f (st i g) = some (.exit x, E g') from H n 0 g (by omega) h0
  intro k
  induction k with
  | zero =>
    intro i g hi hI
    obtain rfl : i = n := by omega
    exact ⟨g, hI, by rw [loopW_eq, hend g hI]; rfl⟩
  | succ k ih =>
    intro i g hi hI
    obtain ⟨g1, e1, hI1⟩ := h i g (by omega) hI
    obtain ⟨g2, hI2, e2⟩ := ih (i + 1) g1 (by omega) hI1
    exact ⟨g2, hI2, by rw [loopW_eq, e1]; exact e2⟩
end M
set_option linter.unusedVariables false
set_option linter.unusedSimpArgs false
namespace M
open Go
def valF (b : UInt8) : Int := if 48 ≤ b.toNat ∧ b.toNat ≤ 57 then (b.toNat : Int) - 48 else if 97 ≤ b.toNat ∧ b.toNat ≤ 102 then (b.toNat : Int) - 87 else -1
theorem valF_b (b : UInt8) : -1 ≤ valF b ∧ valF b ≤ 15 := by 
  unfold valF
  split
  · omega
  · split <;> omega
def hexL : Str := [48, 49, 50, 51, 52, 53, 54, 55, 56, 57, 97, 98, 99, 100, 101, 102]
theorem c_s_l4Value (b : UInt8) : ev LC TT 76 [.int .u8 b.toNat] = some (.int .i64 (valF b), [.dead]) := by
  rw [ev_run (b := s_l4Value_b) (rs := [.t 2]) (n := 1) rfl rfl]
  have h := b.toNat_lt 
  have w0 : IntKind.i64.wrap (b.toNat : Int) = b.toNat := wrap_id (by omega) (by omega) 
  have w1 : IntKind.i64.wrap ((b.toNat : Int) - 48) = b.toNat - 48 := wrap_id (by omega) (by omega) 
  have w2 : IntKind.i64.wrap ((b.toNat : Int) - 87) = b.toNat - 87 := wrap_id (by omega) (by omega) 
  unfold valF 
  by_cases h1 : 48 ≤ b.toNat ∧ b.toNat ≤ 57 
  · have h2 : (48 : Int) ≤ b.toNat ∧ (b.toNat : Int) ≤ 57 := by omega 
    simp -implicitDefEqProofs [s_l4Value_b, h1, h2, w0, w1] 
  by_cases h3 : 97 ≤ b.toNat ∧ b.toNat ≤ 102 
  · have h2 : ¬ ((b.toNat : Int) ≤ 57) ∧ (48 : Int) ≤ b.toNat ∧ (97 : Int) ≤ b.toNat ∧ (b.toNat : Int) ≤ 102 := by omega 
    simp -implicitDefEqProofs [s_l4Value_b, h1, h2, h3, w0, w2] 
  rw [if_neg h1, if_neg h3] 
  have h4 : ((48 : Int) ≤ b.toNat → ¬ (b.toNat : Int) ≤ 57) := by omega 
  have h5 : ((97 : Int) ≤ b.toNat → ¬ (b.toNat : Int) ≤ 102) := by omega 
  by_cases g1 : (48 : Int) ≤ b.toNat <;> by_cases g2 : (97 : Int) ≤ b.toNat <;> simp only [g1, g2, true_implies] at h4 h5 
  all_goals
  simp -implicitDefEqProofs [s_l4Value_b, g1, g2, h4, h5]
def lineC (s : Str) (a : Nat) : Int := match s[a]? with
  | none => 1
  | some c => if c = 13 then (match s[a + 1]? with
    | none => 1
    | some c => if c = 10 then 0 else 2) else 2
theorem c_s_l4Line (s : Str) (a : Nat) (h : a + s.length ≤ 9223372036854775800) : ev LC TT 55 [.str ⟨s.toArray⟩, .int .i64 a] = some (.int .i64 (lineC s a), [.dead, .dead]) := by
  rw [ev_run (b := s_l4Line_b) (rs := [.t 4]) (n := 2) rfl rfl]
  have w1 := wrap_succ a (by omega) 
  have z : ((a : Int) + 1).toNat = a + 1 := by omega 
  have u : ∀ (x y : UInt8), ((x.toNat : Int) = (y.toNat : Int)) ↔ x = y := fun x y => by rw [Int.ofNat_inj]; exact ⟨UInt8.toNat_inj.1, fun h => by rw [h]⟩ 
  have u13 : ∀ x : UInt8, ((x.toNat : Int) = 13) ↔ x = 13 := fun x => u x 13 
  have u10 : ∀ x : UInt8, ((x.toNat : Int) = 10) ↔ x = 10 := fun x => u x 10 
  unfold lineC 
  by_cases h1 : a < s.length 
  · by_cases h2 : a + 1 < s.length 
    · have h3 : (a : Int) + 1 < s.length := by omega 
      have h4 : ¬ ((s.length : Int) ≤ a + 1) := by omega 
      have h5 : (0 : Int) ≤ a + 1 := by omega 
      by_cases e1 : s[a] = 13 <;> by_cases e2 : s[a + 1] = 10 <;> simp -implicitDefEqProofs [s_l4Line_b, w1, z, h1, h2, h3, h4, h5, u13, u10, e1, e2] 
    · have h3 : ¬ (a : Int) + 1 < s.length := by omega 
      have h4 : ((s.length : Int) ≤ a + 1) := by omega 
      have h6 : s.length ≤ a + 1 := by omega 
      by_cases e1 : s[a] = 13 <;> simp -implicitDefEqProofs [s_l4Line_b, w1, z, h1, h3, h4, h6, u13, u10, e1] 
  have h3 : ¬ (a : Int) + 1 < s.length := by omega 
  have h4 : ((s.length : Int) ≤ a + 1) := by omega 
  have h6 : s.length ≤ a := by omega
  simp -implicitDefEqProofs [s_l4Line_b, w1, z, h1, h3, h4, h6]
def eCk (s : Str) (a : Int) (b : Str) (k : Int) : List X := [.str ⟨s.toArray⟩, .int .i64 a, .str ⟨b.toArray⟩, .int .i64 k]
theorem c_i_chunker_fail (s : Str) (a : Int) (b : Str) (k c : Int) : ev LC TT 79 [.ptr .own (eCk s a b k), .int .i64 c] = some (.tup [], [.ptr .own (eCk s a b (if k = 0 then c else k)), .dead]) := by
  rw [ev_run (b := i_chunker_fail_b) (rs := []) (n := 2) rfl rfl]
  unfold eCk 
  by_cases h : k = 0 
  · simp -implicitDefEqProofs [i_chunker_fail_b, h]
  simp -implicitDefEqProofs [i_chunker_fail_b, h]
end M
set_option linter.unusedVariables false
set_option linter.unusedSimpArgs false
namespace M
open Go
def takeA (s : Str) (a : Nat) : Nat := match s[a]? with
  | none => a
  | some c => if c = 13 then (match s[a + 1]? with
    | none => a + 1
    | some c => if c = 10 then a + 2 else a + 1) else a
theorem u_eq (x y : UInt8) : ((x.toNat : Int) = (y.toNat : Int)) ↔ x = y := by rw [Int.ofNat_inj]; exact ⟨UInt8.toNat_inj.1, fun h => by rw [h]⟩
theorem u13 (x : UInt8) : ((x.toNat : Int) = 13) ↔ x = 13 := u_eq x 13
theorem u10 (x : UInt8) : ((x.toNat : Int) = 10) ↔ x = 10 := u_eq x 10
theorem take_done (s : Str) (a : Int) (b : Str) (k : Int) (i : Nat) (h : i = 2 ∨ k ≠ 0) : loopW (evA (ev LC TT) (okT TT) i_chunker_take_L0) [(0, .adr 100000 [] 0 0), (1, .str ⟨#[13, 10]⟩), (4, .int .i64 i), (100000, .ptr .own [.str ⟨s.toArray⟩, .int .i64 a, .str ⟨b.toArray⟩, .int .i64 k])] =
    some (.exit 0, [(0, .adr 100000 [] 0 0), (1, .str ⟨#[13, 10]⟩), (4, .int .i64 i), (15, .bool false), (100000, .ptr .own [.str ⟨s.toArray⟩, .int .i64 a, .str ⟨b.toArray⟩, .int .i64 k])]) := by
  have hs : ∀ s, evA (ev LC TT) (okT TT) i_chunker_take_L0 s = evA (ev LC TT) (okT TT) i_chunker_take_L0b s := fun _ => rfl
  rw [loopW_eq, hs]
  rcases h with rfl | h
  · have z : ByteArray.size ⟨#[13, 10]⟩ = 2 := rfl
    simp -implicitDefEqProofs [i_chunker_take_L0b, z]
  · have z : ByteArray.size ⟨#[13, 10]⟩ = 2 := rfl
    by_cases hi : (i : Int) < 2 <;> simp -implicitDefEqProofs [i_chunker_take_L0b, z, h, hi]
theorem c_i_chunker_take (s : Str) (a : Nat) (b : Str) (h : a ≤ s.length) (hl : s.length ≤ 9223372036854775800) :
    ev LC TT 78 [.ptr .own (eCk s a b 0), .str ⟨#[13, 10]⟩] = some (.tup [], [.ptr .own (eCk s (takeA s a) b (lineC s a)), .dead]) := by
  have hs : ∀ s, evA (ev LC TT) (okT TT) i_chunker_take_L0 s = evA (ev LC TT) (okT TT) i_chunker_take_L0b s := fun _ => rfl
  have z : ByteArray.size ⟨#[13, 10]⟩ = 2 := rfl
  have f1 := c_i_chunker_fail s a b 0 1
  have f2 := c_i_chunker_fail s a b 0 2
  have f3 := c_i_chunker_fail s (a + 1) b 0 1
  have f4 := c_i_chunker_fail s (a + 1) b 0 2
  simp [eCk] at f1 f2 f3 f4
  have w1 := wrap_succ a (by omega)
  have w2 : IntKind.i64.wrap ((a : Int) + 1 + 1) = a + 2 := by rw [wrap_id (by omega) (by omega)]; omega
  have d1 := take_done s a b 1 1 (.inr (by decide))
  have d2 := take_done s a b 2 1 (.inr (by decide))
  have d3 := take_done s (a + 1) b 1 2 (.inl rfl)
  have d4 := take_done s (a + 1) b 2 2 (.inl rfl)
  have d5 := take_done s (a + 2) b 0 2 (.inl rfl)
  simp at d1 d2 d3 d4 d5
  have z1 : ((a : Int) + 1).toNat = a + 1 := by omega
  have z2 : (0 : Int) ≤ a + 1 := by omega
  have v0 : IntKind.i64.wrap 1 = 1 := by decide
  have v1 : IntKind.i64.wrap (1 + 1) = 2 := by decide
  have v2 : IntKind.i64.wrap 2 = 2 := by decide
  rw [ev_run (b := i_chunker_take_b) (rs := []) (n := 2) rfl rfl]
  unfold lineC takeA eCk
  simp -implicitDefEqProofs [i_chunker_take_b]
  rw [loopW_eq, hs]
  by_cases h1 : a < s.length
  · have g1 : ¬ (a : Int) = s.length := by omega
    by_cases e1 : s[a] = 13
    · simp -implicitDefEqProofs [i_chunker_take_L0b, z, h1, g1, u13, e1, w1, v0]
      rw [loopW_eq, hs]
      by_cases h2 : a + 1 < s.length
      · have g2 : ¬ (a : Int) + 1 = s.length := by omega
        by_cases e2 : s[a + 1] = 10
        · simp -implicitDefEqProofs [i_chunker_take_L0b, z, z1, z2, h2, g2, u10, e2, w2, v1, v2, d5]
        · simp -implicitDefEqProofs [i_chunker_take_L0b, z, z1, z2, h2, g2, u10, e2, v1, v2, f4, d4]
      · have g2 : (a : Int) + 1 = s.length := by omega
        have h3 : s.length ≤ a + 1 := by omega
        simp -implicitDefEqProofs [i_chunker_take_L0b, z, eq_true g2, h3, v1, v2, f3, d3]
    · simp -implicitDefEqProofs [i_chunker_take_L0b, z, h1, g1, u13, e1, f2, d2, v0]
  · have g1 : (a : Int) = s.length := by omega
    have h2 : s.length ≤ a := by omega
    simp -implicitDefEqProofs [i_chunker_take_L0b, z, h2, eq_true g1, f1, d1, v0]
end M
set_option linter.unusedVariables false
set_option linter.unusedSimpArgs false
namespace M
open Go
def hexR (s : Str) : Nat → Nat → Int → Nat × Int
  | 0, a, n => (a, n)
  | k + 1, a, n => match s[a]? with
    | none => (a, n)
    | some c => if valF c < 0 then (a, n) else hexR s k (a + 1) (16 * n + valF c)
def bnd : Nat → Int
  | 5 => 0 | 4 => 15 | 3 => 255 | 2 => 4095 | 1 => 65535 | 0 => 1048575 | _ => 0
theorem bnd_step {j : Nat} {n v : Int} (hj : j + 1 ≤ 5) (h0 : 0 ≤ n) (h : n ≤ bnd (j + 1)) (v0 : 0 ≤ v) (v1 : v ≤ 15) : 0 ≤ 16 * n + v ∧ 16 * n + v ≤ bnd j := by
  have : j = 0 ∨ j = 1 ∨ j = 2 ∨ j = 3 ∨ j = 4 := by omega
  rcases this with rfl | rfl | rfl | rfl | rfl <;> simp [bnd] at h ⊢ <;> omega
theorem bnd_le (j : Nat) : bnd j ≤ 1048575 := by unfold bnd; split <;> omega
theorem hexR_pos (s : Str) : ∀ (k a : Nat) (n : Int), a ≤ (hexR s k a n).1 ∧ (hexR s k a n).1 ≤ a + k ∧ (a ≤ s.length → (hexR s k a n).1 ≤ s.length)
  | 0, a, n => ⟨Nat.le_refl _, Nat.le_refl _, id⟩
  | k + 1, a, n => by
    unfold hexR
    cases h : s[a]? with
    | none => exact ⟨Nat.le_refl _, Nat.le_add_right _ _, id⟩
    | some c =>
      simp only
      split
      · exact ⟨Nat.le_refl _, by omega, id⟩
      · have hl := (List.getElem?_eq_some_iff.1 h).1
        have := hexR_pos s k (a + 1) (16 * n + valF c)
        exact ⟨by omega, by omega, fun _ => this.2.2 (by omega)⟩
theorem hexR_n (s : Str) : ∀ (k a : Nat) (n : Int), k ≤ 5 → 0 ≤ n → n ≤ bnd k → 0 ≤ (hexR s k a n).2 ∧ (hexR s k a n).2 ≤ 1048575
  | 0, a, n, _, h0, h => ⟨h0, Int.le_trans h (bnd_le 0)⟩
  | k + 1, a, n, hk, h0, h => by
    unfold hexR
    cases s[a]? with
    | none => exact ⟨h0, Int.le_trans h (bnd_le _)⟩
    | some c =>
      simp only
      split
      · exact ⟨h0, Int.le_trans h (bnd_le _)⟩
      · have b := valF_b c
        have := bnd_step (v := valF c) hk h0 h (by omega) (by omega)
        exact hexR_n s k (a + 1) _ (by omega) this.1 this.2
set_option maxRecDepth 100000 in
theorem ix_val : ∀ n : Fin 256, Go.Lib.indexByte hexL (UInt8.ofNat n.1) = valF (UInt8.ofNat n.1) := by decide
theorem c_ix (c : UInt8) : ev LC TT 87 [.str ⟨#[48, 49, 50, 51, 52, 53, 54, 55, 56, 57, 97, 98, 99, 100, 101, 102]⟩, .int .u8 c.toNat] = some (.int .i64 (valF c), [.dead, .dead]) := by
  rw [ev_lib rfl]
  have h := ix_val ⟨c.toNat, c.toNat_lt⟩
  have e : UInt8.ofNat c.toNat = c := UInt8.ofNat_toNat
  simp only [e] at h
  have e2 : ((c.toNat : Int)).toNat.toUInt8 = c := by rw [Int.toNat_natCast]; exact e
  simp only [LC, pureO, ixG, if_true, e2]
  have h' : Go.Lib.indexByte (#[48, 49, 50, 51, 52, 53, 54, 55, 56, 57, 97, 98, 99, 100, 101, 102] : Array UInt8).toList c = valF c := h
  rw [h']
  simp [scalar, svOk]
theorem L_i_length (s b : Str) (a0 : Nat) (hl : s.length ≤ 9223372036854775800) : ∀ (j a : Nat) (n : Int), a0 + 5 = a + j → j ≤ 5 → a ≤ s.length → 0 ≤ n → n ≤ bnd j →
    pkA [0, 3, 4, 100000] (blkA 0 (loopW (evA (ev LC TT) (okT TT) i_chunker_length_L0) [(0, .adr 100000 [] 0 0), (3, .int .i64 a0), (4, .int .i64 n), (100000, .ptr .own [.str ⟨s.toArray⟩, .int .i64 a, .str ⟨b.toArray⟩, .int .i64 0])])) =
      some (.normal, [(0, .adr 100000 [] 0 0), (3, .int .i64 a0), (4, .int .i64 (hexR s j a n).2), (100000, .ptr .own [.str ⟨s.toArray⟩, .int .i64 (hexR s j a n).1, .str ⟨b.toArray⟩, .int .i64 0])]) := by
  have hs : ∀ s, evA (ev LC TT) (okT TT) i_chunker_length_L0 s = evA (ev LC TT) (okT TT) i_chunker_length_L0b s := fun _ => rfl
  intro j
  induction j with
  | zero =>
    intro a n h1 h2 h3 h4 h5
    have w := wrap_id (n := (a : Int) - a0) (by omega) (by omega)
    have g : ¬ ((a : Int) - a0 ≤ 4) := by omega
    rw [loopW_eq, hs]
    by_cases hlt : a < s.length <;> simp -implicitDefEqProofs [i_chunker_length_L0b, w, g, hlt, hexR]
  | succ j ih =>
    intro a n h1 h2 h3 h4 h5
    have w := wrap_id (n := (a : Int) - a0) (by omega) (by omega)
    have g : ((a : Int) - a0 ≤ 4) := by omega
    rw [loopW_eq, hs]
    unfold hexR
    by_cases hlt : a < s.length
    · have hx := c_ix s[a]
      have b1 := valF_b s[a]
      have b2 := bnd_le (j + 1)
      by_cases hv : valF s[a] < 0
      · simp -implicitDefEqProofs [i_chunker_length_L0b, w, g, hlt, hx, hv]
      · have e := bnd_step (v := valF s[a]) h2 h4 h5 (by omega) (by omega)
        have := ih (a + 1) (16 * n + valF s[a]) (by omega) (by omega) (by omega) e.1 e.2
        have w1 := wrap_id (n := n * 16) (by omega) (by omega)
        have w2 := wrap_id (n := n * 16 + valF s[a]) (by omega) (by omega)
        have w3 := wrap_succ a (by omega)
        have c1 : 16 * n + valF s[a] = n * 16 + valF s[a] := by omega
        rw [c1] at this
        simp at this
        simp -implicitDefEqProofs [i_chunker_length_L0b, w, g, hlt, hx, hv, w1, w2, w3, c1, this]
    · have h6 : s.length ≤ a := by omega
      simp -implicitDefEqProofs [i_chunker_length_L0b, w, g, hlt, h6]
theorem L_s_length (s : Str) (a0 : Nat) (hl : a0 + s.length ≤ 9223372036854775000) : ∀ (j k : Nat) (n : Int), 5 = k + j → 0 ≤ n → n ≤ bnd j →
    pkA [0, 1, 7, 8] (blkA 0 (loopW (evA (ev LC TT) (okT TT) s_l4Length_L0) [(0, .str ⟨s.toArray⟩), (1, .int .i64 a0), (7, .int .i64 n), (8, .int .i64 k)])) =
      some (.normal, [(0, .str ⟨s.toArray⟩), (1, .int .i64 a0), (7, .int .i64 (hexR s j (a0 + k) n).2), (8, .int .i64 (((hexR s j (a0 + k) n).1 - a0 : Nat) : Int))]) := by
  have hs : ∀ s, evA (ev LC TT) (okT TT) s_l4Length_L0 s = evA (ev LC TT) (okT TT) s_l4Length_L0b s := fun _ => rfl
  intro j
  induction j with
  | zero =>
    intro k n h1 h4 h5
    have w := wrap_id (n := (a0 : Int) + k) (by omega) (by omega)
    have z : ((a0 : Int) + k).toNat = a0 + k := by omega
    have g : ¬ ((k : Int) < 5) := by omega
    rw [loopW_eq, hs]
    have z0 : (0 : Int) ≤ a0 + k := by omega
    by_cases hlt : a0 + k < s.length
    · have hlt2 : (a0 : Int) + k < s.length := by omega
      have hx := c_s_l4Value s[a0 + k]
      by_cases hv : 0 ≤ valF s[a0 + k]
      · simp -implicitDefEqProofs [s_l4Length_L0b, w, z, z0, g, hlt, hlt2, hx, hv, hexR]
      · simp -implicitDefEqProofs [s_l4Length_L0b, w, z, z0, g, hlt, hlt2, hx, hv, hexR]
    · have hlt2 : ¬ (a0 : Int) + k < s.length := by omega
      simp -implicitDefEqProofs [s_l4Length_L0b, w, z, g, hlt2, hexR]
  | succ j ih =>
    intro k n h1 h4 h5
    have w := wrap_id (n := (a0 : Int) + k) (by omega) (by omega)
    have z : ((a0 : Int) + k).toNat = a0 + k := by omega
    have z0 : (0 : Int) ≤ a0 + k := by omega
    have g : ((k : Int) < 5) := by omega
    rw [loopW_eq, hs]
    unfold hexR
    by_cases hlt : a0 + k < s.length
    · have hlt2 : (a0 : Int) + k < s.length := by omega
      have hx := c_s_l4Value s[a0 + k]
      have b1 := valF_b s[a0 + k]
      have b2 := bnd_le (j + 1)
      by_cases hv : valF s[a0 + k] < 0
      · have hv2 : ¬ 0 ≤ valF s[a0 + k] := by omega
        simp -implicitDefEqProofs [s_l4Length_L0b, w, z, z0, g, hlt, hlt2, hx, hv, hv2]
      · have hv2 : 0 ≤ valF s[a0 + k] := by omega
        have e := bnd_step (v := valF s[a0 + k]) (by omega) h4 h5 (by omega) (by omega)
        have := ih (k + 1) (16 * n + valF s[a0 + k]) (by omega) e.1 e.2
        have w1 := wrap_id (n := 16 * n) (by omega) (by omega)
        have w2 := wrap_id (n := 16 * n + valF s[a0 + k]) (by omega) (by omega)
        have w3 := wrap_succ k (by omega)
        have c2 : a0 + (k + 1) = a0 + k + 1 := by omega
        rw [c2] at this
        simp at this
        simp -implicitDefEqProofs [s_l4Length_L0b, w, z, z0, g, hlt, hlt2, hx, hv, hv2, w1, w2, w3, this]
    · have hlt2 : ¬ (a0 : Int) + k < s.length := by omega
      have h6 : s.length ≤ a0 + k := by omega
      simp -implicitDefEqProofs [s_l4Length_L0b, w, z, g, hlt2, h6]
end M
set_option linter.unusedVariables false
set_option linter.unusedSimpArgs false
namespace M
open Go
theorem str_extract (s : Str) (i j : Nat) : (⟨s.toArray⟩ : ByteArray).extract i j = ⟨((s.drop i).take (j - i)).toArray⟩ := by
  apply ByteArray.ext
  rw [ByteArray.data_extract]
  apply Array.ext'
  simp
theorem c_take_skip (s : Str) (a : Int) (b : Str) (k : Int) (h : k ≠ 0) :
    ev LC TT 78 [.ptr .own (eCk s a b k), .str ⟨#[13, 10]⟩] = some (.tup [], [.ptr .own (eCk s a b k), .dead]) := by
  have d := take_done s a b k 0 (.inr h)
  simp at d
  rw [ev_run (b := i_chunker_take_b) (rs := []) (n := 2) rfl rfl]
  simp -implicitDefEqProofs [i_chunker_take_b, d, eCk]
/-- What length comes to: 0: a number too long, with a 0 ahead, or none; 1: nothing more stands there; 2: a length. -/
def lenW (s : Str) (a a' : Nat) : Nat := if 4 < a' - a ∨ (1 < a' - a ∧ s[a]? = some 48) ∨ (a' = a ∧ a < s.length) then 0 else if a' = a then 1 else 2
theorem c_s_l4Length (s : Str) (a : Nat) (hl : a + s.length ≤ 9223372036854775000) (ha : a ≤ s.length) :
    ev LC TT 54 [.str ⟨s.toArray⟩, .int .i64 a] = some (.tup (match lenW s a (hexR s 5 a 0).1 with
      | 0 => [.int .i64 0, .int .i64 0, .int .i64 2]
      | 1 => [.int .i64 0, .int .i64 0, .int .i64 1]
      | _ => [.int .i64 (hexR s 5 a 0).2, .int .i64 ((hexR s 5 a 0).1 + 2 : Nat), .int .i64 (lineC s (hexR s 5 a 0).1)]), [.dead, .dead]) := by
  have h := L_s_length s a hl 5 0 0 rfl (by omega) (by decide)
  have hp := hexR_pos s 5 a 0
  simp only [Nat.add_zero] at h
  obtain ⟨a', n, e⟩ : ∃ a' n, hexR s 5 a 0 = (a', n) := ⟨_, _, rfl⟩
  rw [e] at h hp
  simp only at h hp
  simp only [e]
  have hc := c_s_l4Line s a' (by omega)
  have w1 : IntKind.i64.wrap ((a : Int) + ((a' - a : Nat) : Int)) = a' := by rw [wrap_id (by omega) (by omega)]; omega
  have w2 : IntKind.i64.wrap ((a' : Int) + 2) = ((a' + 2 : Nat) : Int) := by rw [wrap_id (by omega) (by omega)]; omega
  have u48 : ∀ x : UInt8, ((x.toNat : Int) = 48) ↔ x = 48 := fun x => u_eq x 48
  simp at h
  rw [ev_run (b := s_l4Length_b) (rs := [.t 4, .t 5, .t 6]) (n := 2) rfl rfl]
  unfold lenW
  obtain ⟨k, hk⟩ : ∃ k, a' - a = k := ⟨_, rfl⟩
  rw [hk] at h w1
  rw [hk]
  by_cases c1 : 4 < k
  · have c1' : (4 : Int) < k := by omega
    simp -implicitDefEqProofs [s_l4Length_b, h, c1, c1']
  · have c1' : ¬ (4 : Int) < k := by omega
    by_cases c2 : k = 0
    · have c3 : a' = a := by omega
      by_cases c4 : a < s.length
      · simp -implicitDefEqProofs [s_l4Length_b, h, c2, c3, c4]
      · have c5 : s.length ≤ a := by omega
        simp -implicitDefEqProofs [s_l4Length_b, h, c2, c3, c4, c5]
    · have c3 : ¬ a' = a := by omega
      have c4 : a < s.length := by omega
      by_cases c5 : 1 < k
      · have c5' : (1 : Int) < k := by omega
        by_cases c6 : s[a] = 48
        · simp -implicitDefEqProofs [s_l4Length_b, h, c1, c1', c2, c3, c4, c5, c5', c6, u48]
        · simp -implicitDefEqProofs [s_l4Length_b, h, c1, c1', c2, c3, c4, c5, c5', c6, u48, w1, w2, hc]
      · have c5' : ¬ (1 : Int) < k := by omega
        simp -implicitDefEqProofs [s_l4Length_b, h, c1, c1', c2, c3, c4, c5, c5', w1, w2, hc]
theorem c_i_length (s b : Str) (a : Nat) (hl : s.length ≤ 9223372036854775000) (ha : a ≤ s.length) :
    ev LC TT 77 [.ptr .own (eCk s a b 0)] = some (.int .i64 (hexR s 5 a 0).2, [.ptr .own (match lenW s a (hexR s 5 a 0).1 with
      | 0 => eCk s (hexR s 5 a 0).1 b 2
      | 1 => eCk s (hexR s 5 a 0).1 b 1
      | _ => eCk s (takeA s (hexR s 5 a 0).1) b (lineC s (hexR s 5 a 0).1))]) := by
  have h := L_i_length s b a (by omega) 5 a 0 (by omega) (by omega) ha (by omega) (by decide)
  have hp := hexR_pos s 5 a 0
  obtain ⟨a', n, e⟩ : ∃ a' n, hexR s 5 a 0 = (a', n) := ⟨_, _, rfl⟩
  rw [e] at h hp
  simp only at h hp
  simp only [e]
  obtain ⟨k, hk⟩ : ∃ k, a' - a = k := ⟨_, rfl⟩
  obtain ⟨D, hD⟩ : ∃ D, (s.drop a).take k = D := ⟨_, rfl⟩
  have hDl : D.length = k := by rw [← hD, List.length_take, List.length_drop]; omega
  have f1 := c_i_chunker_fail s a' b 0 2
  have f2 := c_i_chunker_fail s a' b 0 1
  have t0 := c_i_chunker_take s a' b (by omega) (by omega)
  have t1 := c_take_skip s a' b 2 (by decide)
  have t2 := c_take_skip s a' b 1 (by decide)
  have u48 : ∀ x : UInt8, ((x.toNat : Int) = 48) ↔ x = 48 := fun x => u_eq x 48
  have x1 : (⟨s.toArray⟩ : ByteArray).extract a a' = ⟨D.toArray⟩ := by rw [str_extract, hk, hD]
  have x2 : (a : Int) ≤ a' := by omega
  have x3 : (a' : Int) ≤ s.length := by omega
  have x4 : ((⟨D.toArray⟩ : ByteArray) = ⟨#[]⟩) ↔ k = 0 := by
    rw [← hDl]
    constructor
    · intro h
      have := (str_inj D []).1 h
      rw [this]; rfl
    · intro h
      have := List.length_eq_zero_iff.1 h
      rw [this]
  simp [eCk] at f1 f2 t0 t1 t2 h
  rw [ev_run (b := i_chunker_length_b) (rs := [.t 2]) (n := 1) rfl rfl]
  unfold lenW eCk
  rw [hk]
  by_cases c1 : 4 < k
  · have c1' : (4 : Int) < k := by omega
    simp -implicitDefEqProofs [i_chunker_length_b, h, c1, c1', x1, x2, x3, hDl, f1, t1]
  · have c1' : ¬ (4 : Int) < k := by omega
    by_cases c2 : k = 0
    · have hDe : D = [] := List.length_eq_zero_iff.1 (by omega)
      rw [hDe] at x1 hDl
      have c3 : a' = a := by omega
      subst c3
      have hb : ByteArray.empty = (⟨#[]⟩ : ByteArray) := rfl
      have hz : ByteArray.size (⟨#[]⟩ : ByteArray) = 0 := rfl
      by_cases c4 : a' < s.length
      · simp -implicitDefEqProofs [i_chunker_length_b, h, c2, c4, x1, x3, f1, t1, hb, hz]
      · have c5 : s.length ≤ a' := by omega
        simp -implicitDefEqProofs [i_chunker_length_b, h, c2, c4, c5, x1, x3, f2, t2, hb, hz]
    · have c3 : ¬ a' = a := by omega
      have c4 : a < s.length := by omega
      have x5 : ¬ ((⟨D.toArray⟩ : ByteArray) = ⟨#[]⟩) := fun h => c2 (x4.1 h)
      have hD0 : D[0]? = some s[a] := by rw [← hD, List.getElem?_take, if_pos (by omega), List.getElem?_drop]; simp [c4]
      by_cases c5 : 1 < k
      · have c5' : (1 : Int) < k := by omega
        by_cases c6 : s[a] = 48
        · simp -implicitDefEqProofs [i_chunker_length_b, h, c1, c1', c2, c3, c4, c5, c5', c6, u48, x1, x2, x3, x5, hDl, hD0, f1, t1]
        · simp -implicitDefEqProofs [i_chunker_length_b, h, c1, c1', c2, c3, c4, c5, c5', c6, u48, x1, x2, x3, x5, hDl, hD0, t0]
      · have c5' : ¬ (1 : Int) < k := by omega
        simp -implicitDefEqProofs [i_chunker_length_b, h, c1, c1', c2, c3, c4, c5, c5', x1, x2, x3, x5, hDl, t0]
end M
set_option linter.unusedVariables false
set_option linter.unusedSimpArgs false
namespace M
open Go
theorem line0 {s : Str} {a : Nat} (h : lineC s a = 0) : takeA s a = a + 2 ∧ a + 2 ≤ s.length := by
  unfold lineC at h
  unfold takeA
  cases h1 : s[a]? with
  | none => rw [h1] at h; simp at h
  | some c =>
    rw [h1] at h
    simp only at h ⊢
    split at h
    · rename_i hc
      rw [if_pos hc]
      cases h2 : s[a + 1]? with
      | none => rw [h2] at h; simp at h
      | some d =>
        rw [h2] at h
        simp only at h ⊢
        split at h
        · rename_i hd
          rw [if_pos hd]
          have := (List.getElem?_eq_some_iff.1 h2).1
          exact ⟨rfl, by omega⟩
        · simp at h
    · simp at h
theorem lenW_3 (s : Str) (a a' : Nat) : lenW s a a' = 0 ∨ lenW s a a' = 1 ∨ lenW s a a' = 2 := by
  unfold lenW
  split
  · exact .inl rfl
  · split
    · exact .inr (.inl rfl)
    · exact .inr (.inr rfl)
def stepF (s : Str) (a : Nat) (b : Str) : (Str × Int × Int) ⊕ (Nat × Str) :=
  match lenW s a (hexR s 5 a 0).1 with
  | 0 => .inl ([], 0, 2)
  | 1 => .inl ([], 0, 1)
  | _ => if lineC s (hexR s 5 a 0).1 ≠ 0 then .inl ([], 0, lineC s (hexR s 5 a 0).1) else
    if 120 < (b.length : Int) + (hexR s 5 a 0).2 then .inl ([], 0, 3) else
    if s.length < (hexR s 5 a 0).1 + 2 + (hexR s 5 a 0).2.toNat then .inl ([], 0, 1) else
    if lineC s ((hexR s 5 a 0).1 + 2 + (hexR s 5 a 0).2.toNat) ≠ 0 then .inl ([], 0, lineC s ((hexR s 5 a 0).1 + 2 + (hexR s 5 a 0).2.toNat)) else
    if (hexR s 5 a 0).2 = 0 then .inl (b, ((hexR s 5 a 0).1 + 4 : Nat), 0) else
    .inr ((hexR s 5 a 0).1 + 2 + (hexR s 5 a 0).2.toNat + 2, b ++ (s.drop ((hexR s 5 a 0).1 + 2)).take (hexR s 5 a 0).2.toNat)
def stR (r : Str × Int × Int) : Slots := [(2, .str ⟨r.1.toArray⟩), (3, .int .i64 r.2.1), (4, .int .i64 r.2.2)]
theorem s_step (s : Str) (a : Nat) (b : Str) (hl : s.length ≤ 1048576) (ha : a ≤ s.length) (hb : b.length ≤ 120) :
    evA (ev LC TT) (okT TT) s_ChunkRead_L0 [(0, .str ⟨s.toArray⟩), (5, .str ⟨b.toArray⟩), (6, .int .i64 a)] = match stepF s a b with
      | .inl r => some (.ret, stR r)
      | .inr g => some (.normal, [(0, .str ⟨s.toArray⟩), (5, .str ⟨g.2.toArray⟩), (6, .int .i64 g.1)]) := by
  have hL := c_s_l4Length s a (by omega) ha
  have hn := hexR_n s 5 a 0 (by omega) (by omega) (by decide)
  have hp := hexR_pos s 5 a 0
  unfold stepF stR
  obtain ⟨a', n, e⟩ : ∃ a' n, hexR s 5 a 0 = (a', n) := ⟨_, _, rfl⟩
  rw [e] at hL hn hp
  rw [e]
  simp only at hL hn hp ⊢
  obtain ⟨m, rfl⟩ : ∃ m : Nat, n = m := ⟨n.toNat, by omega⟩
  rcases lenW_3 s a a' with hw | hw | hw <;> rw [hw] at hL ⊢
  · simp -implicitDefEqProofs [s_ChunkRead_L0, s_ChunkRead_L0b, hL]
  · simp -implicitDefEqProofs [s_ChunkRead_L0, s_ChunkRead_L0b, hL]
  · obtain ⟨c, hc⟩ : ∃ c, lineC s a' = c := ⟨_, rfl⟩
    rw [hc] at hL ⊢
    simp only at hL ⊢
    by_cases c0 : c = 0
    · subst c0
      have h0 := line0 hc
      obtain ⟨p, hpp⟩ : ∃ p, a' + 2 = p := ⟨_, rfl⟩
      have h4 : a' + 4 = p + 2 := by omega
      rw [h4, hpp]
      rw [hpp] at hL h0
      have w1 : IntKind.i64.wrap ((b.length : Int) + m) = b.length + m := wrap_id (by omega) (by omega)
      have w2 : IntKind.i64.wrap ((p : Int) + m) = p + m := wrap_id (by omega) (by omega)
      have w3 : IntKind.i64.wrap ((p : Int) + m + 2) = p + m + 2 := wrap_id (by omega) (by omega)
      by_cases c1 : 120 < (b.length : Int) + m
      · simp -implicitDefEqProofs [s_ChunkRead_L0, s_ChunkRead_L0b, hL, w1, c1]
      · by_cases c2 : s.length < p + m
        · have c2' : (s.length : Int) < (p : Int) + m := by omega
          simp -implicitDefEqProofs [s_ChunkRead_L0, s_ChunkRead_L0b, hL, w1, w2, c1, c2, c2']
        · have c2' : ¬ (s.length : Int) < (p : Int) + m := by omega
          have hl2 := c_s_l4Line s (p + m) (by omega)
          obtain ⟨d, hd⟩ : ∃ d, lineC s (p + m) = d := ⟨_, rfl⟩
          rw [hd] at hl2
          simp at hl2
          by_cases d0 : d = 0
          · subst d0
            have z1 : ((p : Int) + m).toNat = p + m := by omega
            have z2 : (0 : Int) ≤ p := by omega
            have z3 : (p : Int) ≤ p + m := by omega
            have z4 : (p : Int) + m ≤ s.length := by omega
            have z5 : p + m - p = m := by omega
            have z6 : b.length + min m (s.length - p) ≤ 9223372036854775807 := by omega
            by_cases m0 : m = 0
            · subst m0
              have w1' : IntKind.i64.wrap (b.length : Int) = b.length := wrap_id (by omega) (by omega)
              have w2' : IntKind.i64.wrap (p : Int) = p := wrap_id (by omega) (by omega)
              have w3' : IntKind.i64.wrap ((p : Int) + 2) = p + 2 := wrap_id (by omega) (by omega)
              have c1'' : ¬ 120 < (b.length : Int) := by omega
              have c1n : ¬ 120 < b.length := by omega
              have c2n : ¬ s.length < p := by omega
              have c2z : ¬ (s.length : Int) < p := by omega
              have z4' : p ≤ s.length := by omega
              have hb' : b.length ≤ 9223372036854775807 := by omega
              have hbe : ByteArray.empty = (⟨([] : Str).toArray⟩ : ByteArray) := rfl
              simp at hl2 hd
              simp -implicitDefEqProofs [s_ChunkRead_L0, s_ChunkRead_L0b, hL, w1', w2', w3', c1'', c1n, c2n, c2z, hl2, hd, z4', hb', hbe, str_extract, str_append]
            · simp -implicitDefEqProofs [s_ChunkRead_L0, s_ChunkRead_L0b, hL, w1, w2, w3, c1, c2, c2', hl2, hd, z1, z2, z3, z4, z5, z6, str_extract, str_append, m0]
          · simp -implicitDefEqProofs [s_ChunkRead_L0, s_ChunkRead_L0b, hL, w1, w2, c1, c2, c2', hl2, hd, d0]
    · simp -implicitDefEqProofs [s_ChunkRead_L0, s_ChunkRead_L0b, hL, c0]
def partOk (s : Str) (x : (Str × Int × Int) ⊕ (Nat × Str)) (o : Bool × Nat × Str × Int) : Prop := match x with
  | .inl r => o.1 = true ∧ o.2.2.2 = r.2.2 ∧ (r.2.2 = 0 → (o.2.1 : Int) = r.2.1 ∧ o.2.2.1 = r.1) ∧ (r.2.2 ≠ 0 → r.1 = [] ∧ r.2.1 = 0)
  | .inr g => o = (false, g.1, g.2, 0) ∧ g.1 ≤ s.length ∧ g.2.length ≤ 120
theorem i_part (s : Str) (a : Nat) (b : Str) (hl : s.length ≤ 1048576) (ha : a ≤ s.length) (hb : b.length ≤ 120) :
    ∃ o : Bool × Nat × Str × Int, ev LC TT 56 [.ptr .own (eCk s a b 0)] = some (.bool o.1, [.ptr .own (eCk s o.2.1 o.2.2.1 o.2.2.2)]) ∧ partOk s (stepF s a b) o := by
  have hL := c_i_length s b a (by omega) ha
  have hn := hexR_n s 5 a 0 (by omega) (by omega) (by decide)
  have hp := hexR_pos s 5 a 0
  unfold stepF
  obtain ⟨a', n, e⟩ : ∃ a' n, hexR s 5 a 0 = (a', n) := ⟨_, _, rfl⟩
  rw [e] at hL hn hp
  rw [e]
  simp only at hL hn hp ⊢
  obtain ⟨m, rfl⟩ : ∃ m : Nat, n = m := ⟨n.toNat, by omega⟩
  rcases lenW_3 s a a' with hw | hw | hw <;> rw [hw] at hL ⊢
  · refine ⟨(true, a', b, 2), ?_, rfl, rfl, fun h => by simp at h, fun _ => ⟨rfl, rfl⟩⟩
    rw [ev_run (b := i_chunker_part_b) (rs := [.t 2]) (n := 1) rfl rfl]
    simp [eCk] at hL
    simp -implicitDefEqProofs [i_chunker_part_b, hL, eCk]
  · refine ⟨(true, a', b, 1), ?_, rfl, rfl, fun h => by simp at h, fun _ => ⟨rfl, rfl⟩⟩
    rw [ev_run (b := i_chunker_part_b) (rs := [.t 2]) (n := 1) rfl rfl]
    simp [eCk] at hL
    simp -implicitDefEqProofs [i_chunker_part_b, hL, eCk]
  · obtain ⟨c, hc⟩ : ∃ c, lineC s a' = c := ⟨_, rfl⟩
    rw [hc] at hL ⊢
    simp only at hL ⊢
    by_cases c0 : c = 0
    · subst c0
      have h0 := line0 hc
      rw [h0.1] at hL
      obtain ⟨p, hpp⟩ : ∃ p, a' + 2 = p := ⟨_, rfl⟩
      have h4 : a' + 4 = p + 2 := by omega
      rw [h4, hpp]
      rw [hpp] at hL h0
      simp [eCk] at hL
      simp only [ne_eq, not_true_eq_false, if_false, Int.toNat_natCast]
      by_cases m0 : m = 0
      · subst m0
        have ht := c_i_chunker_take s p b (by omega) (by omega)
        refine ⟨(true, takeA s p, b, lineC s p), ?_, ?_⟩
        · rw [ev_run (b := i_chunker_part_b) (rs := [.t 2]) (n := 1) rfl rfl]
          simp [eCk] at ht
          simp at hL
          simp -implicitDefEqProofs [i_chunker_part_b, hL, ht, eCk]
        · have c1 : ¬ 120 < (b.length : Int) + ((0 : Nat) : Int) := by omega
          have c2 : ¬ s.length < p + 0 := by omega
          rw [if_neg c1, if_neg c2]
          simp only [Nat.add_zero]
          by_cases d0 : lineC s p = 0
          · have h1 := line0 d0
            simp [partOk, d0, h1.1]
          · simp [partOk, d0]
      · have w1 : IntKind.i64.wrap ((b.length : Int) + m) = b.length + m := wrap_id (by omega) (by omega)
        have w2 : IntKind.i64.wrap ((p : Int) + m) = p + m := wrap_id (by omega) (by omega)
        have w3 : IntKind.i64.wrap ((s.length : Int) - p) = s.length - p := wrap_id (by omega) (by omega)
        by_cases c1 : 120 < (b.length : Int) + m
        · have f := c_i_chunker_fail s p b 0 3
          refine ⟨(true, p, b, 3), ?_, ?_⟩
          · rw [ev_run (b := i_chunker_part_b) (rs := [.t 2]) (n := 1) rfl rfl]
            simp [eCk] at f
            simp -implicitDefEqProofs [i_chunker_part_b, hL, f, eCk, m0, w1, c1]
          · rw [if_pos c1]; simp [partOk]
        · rw [if_neg c1]
          by_cases c2 : s.length < p + m
          · have f := c_i_chunker_fail s p b 0 1
            have c2' : (s.length : Int) - p < m := by omega
            refine ⟨(true, p, b, 1), ?_, ?_⟩
            · rw [ev_run (b := i_chunker_part_b) (rs := [.t 2]) (n := 1) rfl rfl]
              simp [eCk] at f
              simp -implicitDefEqProofs [i_chunker_part_b, hL, f, eCk, m0, w1, w3, c1, c2']
            · rw [if_pos c2]; simp [partOk]
          · rw [if_neg c2]
            have c2' : ¬ (s.length : Int) - p < m := by omega
            have hbl : (b ++ (s.drop p).take m).length ≤ 120 := by rw [List.length_append, List.length_take, List.length_drop]; omega
            have ht := c_i_chunker_take s (p + m) (b ++ (s.drop p).take m) (by omega) (by omega)
            have z1 : ((p : Int) + m).toNat = p + m := by omega
            have z2 : (0 : Int) ≤ p := by omega
            have z3 : (p : Int) ≤ p + m := by omega
            have z4 : (p : Int) + m ≤ s.length := by omega
            have z5 : p + m - p = m := by omega
            have z6 : b.length + min m (s.length - p) ≤ 9223372036854775807 := by omega
            refine ⟨(decide (lineC s (p + m) ≠ 0), takeA s (p + m), b ++ (s.drop p).take m, lineC s (p + m)), ?_, ?_⟩
            · rw [ev_run (b := i_chunker_part_b) (rs := [.t 2]) (n := 1) rfl rfl]
              simp [eCk] at ht
              simp -implicitDefEqProofs [i_chunker_part_b, hL, ht, eCk, m0, w1, w2, w3, c1, c2', z1, z2, z3, z4, z5, z6, str_extract, str_append]
            · by_cases d0 : lineC s (p + m) = 0
              · have h1 := line0 d0
                have m0' : ¬ ((m : Int) = 0) := by omega
                simp [partOk, d0, h1.1, m0]
                exact ⟨by omega, by simp at hbl; omega⟩
              · simp [partOk, d0]
    · have c0' := c0
      refine ⟨(true, takeA s a', b, c), ?_, ?_⟩
      · rw [ev_run (b := i_chunker_part_b) (rs := [.t 2]) (n := 1) rfl rfl]
        simp [eCk] at hL
        simp -implicitDefEqProofs [i_chunker_part_b, hL, eCk, c0]
      · simp [partOk, c0]
end M
set_option linter.unusedVariables false
set_option linter.unusedSimpArgs false
namespace M
open Go
theorem stepF_gt {s : Str} {a : Nat} {b : Str} {g : Nat × Str} (h : stepF s a b = .inr g) : a < g.1 := by
  have hp := hexR_pos s 5 a 0
  unfold stepF at h
  split at h
  · cases h
  · cases h
  · split at h
    · cases h
    · split at h
      · cases h
      · split at h
        · cases h
        · split at h
          · cases h
          · split at h
            · cases h
            · cases h
              simp only
              omega
theorem chunk_both (s : Str) (hl : s.length ≤ 1048576) : ∀ (m a : Nat) (b : Str), s.length - a = m → a ≤ s.length → b.length ≤ 120 →
    ∃ r : Str × Int × Int, loopW (evA (ev LC TT) (okT TT) s_ChunkRead_L0) [(0, .str ⟨s.toArray⟩), (5, .str ⟨b.toArray⟩), (6, .int .i64 a)] = some (.ret, stR r) ∧
      ∃ (x : Nat) (y : Str), loopW (evA (ev LC TT) (okT TT) i_ChunkRead_L0) [(5, .ptr .own (eCk s a b 0))] = some (.exit 0, [(5, .ptr .own (eCk s x y r.2.2)), (9, .bool false)]) ∧
        (r.2.2 = 0 → (x : Int) = r.2.1 ∧ y = r.1) ∧ (r.2.2 ≠ 0 → r.1 = [] ∧ r.2.1 = 0) := by
  have hs : ∀ s, evA (ev LC TT) (okT TT) i_ChunkRead_L0 s = evA (ev LC TT) (okT TT) i_ChunkRead_L0b s := fun _ => rfl
  intro m
  induction m using Nat.strongRecOn with
  | ind m ih =>
    intro a b hm ha hb
    have e1 := s_step s a b hl ha hb
    obtain ⟨o, e2, ho⟩ := i_part s a b hl ha hb
    cases hx : stepF s a b with
    | inl r =>
      rw [hx] at e1 ho
      obtain ⟨o1, o2, o3, o4⟩ := ho
      refine ⟨r, ?_, o.2.1, o.2.2.1, ?_, o3, o4⟩
      · rw [loopW_eq, e1]; rfl
      · rw [loopW_eq, hs]
        rw [o1, o2] at e2
        simp [eCk] at e2
        simp -implicitDefEqProofs [i_ChunkRead_L0b, e2, eCk]
    | inr g =>
      rw [hx] at e1 ho
      obtain ⟨rfl, h1, h2⟩ := ho
      have hgt := stepF_gt hx
      obtain ⟨r, k1, x, y, k2, k3, k4⟩ := ih (s.length - g.1) (by omega) g.1 g.2 rfl h1 h2
      refine ⟨r, ?_, x, y, ?_, k3, k4⟩
      · rw [loopW_eq, e1]; exact k1
      · rw [loopW_eq, hs]
        simp [eCk] at e2 k2
        simp -implicitDefEqProofs [i_ChunkRead_L0b, e2, k2, eCk]
theorem law_FnExactChunkRead (s : Str) (k : s.length ≤ 9223372036854775807) : ∃ ps, ev LC TT 6 [.str ⟨s.toArray⟩] = some (.bool true, ps) := by
  rw [ev_run (b := l_FnExactChunkRead_b) (rs := [.t 2]) (n := 1) rfl rfl]
  by_cases hbig : (1048576 : Int) < s.length
  · simp -implicitDefEqProofs [l_FnExactChunkRead_b, hbig]
  obtain ⟨⟨r1, r2, r3⟩, k1, x, y, k2, k3, k4⟩ := chunk_both s (by omega) (s.length - 0) 0 [] rfl (by omega) (by simp)
  simp only at k2 k3 k4
  have c1 : ev LC TT 23 [.str ⟨s.toArray⟩] = some (.tup [.str ⟨r1.toArray⟩, .int .i64 r2, .int .i64 r3], [.dead]) := by
    rw [ev_run (b := s_ChunkRead_b) (rs := [.t 2, .t 3, .t 4]) (n := 1) rfl rfl]
    simp [stR] at k1
    simp -implicitDefEqProofs [s_ChunkRead_b, k1]
  have c2 : ev LC TT 24 [.str ⟨s.toArray⟩] = some (.tup [.str ⟨r1.toArray⟩, .int .i64 r2, .int .i64 r3], [.dead]) := by
    rw [ev_run (b := i_ChunkRead_b) (rs := [.t 2, .t 3, .t 4]) (n := 1) rfl rfl]
    simp [eCk] at k2
    by_cases h0 : r3 = 0
    · obtain ⟨rfl, rfl⟩ := k3 h0
      subst h0
      simp -implicitDefEqProofs [i_ChunkRead_b, k2]
    · obtain ⟨rfl, rfl⟩ := k4 h0
      simp -implicitDefEqProofs [i_ChunkRead_b, k2, h0]
  simp -implicitDefEqProofs [l_FnExactChunkRead_b, hbig, c1, c2]
end M
