/- What the functions come to in the machine; no conditions. -/
import Derived.Test.YtanjldhhcnfibaaMc
import Derived.Test.YtanjldhhcnfibaaCond
set_option linter.unusedSectionVars false
set_option linter.unusedVariables false
set_option linter.unusedSimpArgs false
namespace M
open Go
/-- A loop whose end is drawn. -/
theorem loop_ms {γ : Type} {f : Slots → Res} (st : γ → Slots) (μ : γ → Nat) (Inv : γ → Prop) (E : γ → Slots)
    (h : ∀ g, Inv g → (∃ g', Inv g' ∧ f (st g) = some (.exit 0, E g')) ∨ ∃ g', Inv g' ∧ μ g' < μ g ∧ f (st g) = some (.normal, st g')) (g : γ) (hg : Inv g) : ∃ g', Inv g' ∧ loopW f (st g) = some (.exit 0, E g') := by
  suffices H : ∀ n g, μ g = n → Inv g → ∃ g', Inv g' ∧ loopW f (st g) = some (.exit 0, E g') from H _ g rfl hg
  intro n
  induction n using Nat.strongRecOn with
  | ind n ih =>
    intro g hn hI
    rcases h g hI with ⟨g', h1, h2⟩ | ⟨g', h1, h2, h3⟩
    · exact ⟨g', h1, by rw [loopW_eq, h2]; rfl⟩
    · obtain ⟨g2, h4, h5⟩ := ih _ (hn ▸ h2) g' rfl h1
      exact ⟨g2, h4, by rw [loopW_eq, h3]; exact h5⟩
theorem loop_ex2 {γ : Type} {f : Slots → Res} (x : Nat) (n : Nat) (st : Nat → γ → Slots) (Inv : Nat → γ → Prop) (E : γ → Slots) (g : γ) (h0 : Inv 0 g)
    (h : ∀ i g, i < n → Inv i g → ∃ g', f (st i g) = some (.normal, st (i + 1) g') ∧ Inv (i + 1) g')
    (hend : ∀ g, Inv n g → f (st n g) = some (.exit x, E g)) : ∃ g', Inv n g' ∧ loopW f (st 0 g) = some (.exit x, E g') := by
  suffices H : ∀ k i g, i + k = n → Inv i g → ∃ g', Inv n g' ∧ loopW f (st i g) = some (.exit x, E g') from H n 0 g (by omega) h0
  intro k
  induction k with
  | zero =>
    intro i g hi hI
    obtain rfl : i = n := by omega
    exact ⟨g, hI, by rw [loopW_eq, hend g hI]; rfl⟩
  | succ k ih =>
    intro i g hi hI
    obtain ⟨g1, e1, hI1⟩ := h i g (by omega) hI
    obtain ⟨g2, hI2, e2⟩ := ih (i + 1) g1 (by omega) hI1
    exact ⟨g2, hI2, by rw [loopW_eq, e1]; exact e2⟩
end M
set_option linter.unusedVariables false
set_option linter.unusedSimpArgs false
namespace M
open Go
/-! Draws. -/
theorem x_s_l1Byte (c : Cur) : ∃ (x : Int) (c' : Cur), ev LL TT 86 [.ptr .own (eCur c)] = some (.int .i64 x, [.ptr .own (eCur c')]) ∧ 0 ≤ x ∧ x ≤ 255 := by
  obtain ⟨code, i, h, hi, hl⟩ := c
  by_cases hlt : i < code.length
  · have hw := wrap_succ i (by omega)
    have H : ∃ (x h' : Int), ev LL TT 86 [.ptr .own [.row .sl 1 (code.map eU), .int .i64 i, .int .i64 h]] = some (.int .i64 x, [.ptr .own [.row .sl 1 (code.map eU), .int .i64 (i + 1), .int .i64 h']]) ∧ 0 ≤ x ∧ x ≤ 255 := by
      rw [ev_run (b := s_l1Byte_b) (rs := [.t 2]) (n := 1) rfl rfl]
      simp -implicitDefEqProofs [s_l1Byte_b, hlt, hw, and_255']
      omega
    obtain ⟨x, h', e, b⟩ := H
    exact ⟨x, ⟨code, i + 1, h', hlt, hl⟩, e, b⟩
  · have H : ∃ (x h' : Int), ev LL TT 86 [.ptr .own [.row .sl 1 (code.map eU), .int .i64 i, .int .i64 h]] = some (.int .i64 x, [.ptr .own [.row .sl 1 (code.map eU), .int .i64 i, .int .i64 h']]) ∧ 0 ≤ x ∧ x ≤ 255 := by
      rw [ev_run (b := s_l1Byte_b) (rs := [.t 2]) (n := 1) rfl rfl]
      simp -implicitDefEqProofs [s_l1Byte_b, hlt, and_255']
      omega
    obtain ⟨x, h', e, b⟩ := H
    exact ⟨x, ⟨code, i, h', hi, hl⟩, e, b⟩
noncomputable def byteV (c : Cur) : Int := (x_s_l1Byte c).choose
noncomputable def byteN (c : Cur) : Cur := (x_s_l1Byte c).choose_spec.choose
theorem byteV_b (c : Cur) : 0 ≤ byteV c ∧ byteV c ≤ 255 := (x_s_l1Byte c).choose_spec.choose_spec.2
@[simp] theorem c_s_l1Byte (c : Cur) : ev LL TT 86 [.ptr .own (eCur c)] = some (.int .i64 (byteV c), [.ptr .own (eCur (byteN c))]) := (x_s_l1Byte c).choose_spec.choose_spec.1
theorem tmod_b (a n : Int) (ha : 0 ≤ a) (hn : 0 < n) : 0 ≤ a.tmod n ∧ a.tmod n < n := by
  rw [Int.tmod_eq_emod_of_nonneg ha]
  exact ⟨Int.emod_nonneg _ (by omega), Int.emod_lt_of_pos _ hn⟩
theorem x_s_l1Below (c : Cur) (n : Int) (hn : 0 < n) (hn' : n ≤ 9223372036854775807) : ∃ (x : Int) (c' : Cur), ev LL TT 73 [.ptr .own (eCur c), .int .i64 n] = some (.int .i64 x, [.ptr .own (eCur c'), .dead]) ∧ 0 ≤ x ∧ x < n := by
  rw [ev_run (b := s_l1Below_b) (rs := [.t 4]) (n := 2) rfl rfl]
  have h0 : ¬ n ≤ 0 := by omega
  have h1 : ¬ n = 0 := by omega
  by_cases h : n ≤ 256
  · refine ⟨(byteV c).tmod n, byteN c, ?_, tmod_b _ _ (byteV_b c).1 hn⟩
    simp -implicitDefEqProofs [s_l1Below_b, h, h0, h1]
  · have b1 := byteV_b c
    have b2 := byteV_b (byteN c)
    have b3 := byteV_b (byteN (byteN c))
    have b4 := byteV_b (byteN (byteN (byteN c)))
    have w1 := wrap_id (n := byteV c * 16777216) (by omega) (by omega)
    have w2 := wrap_id (n := byteV (byteN c) * 65536) (by omega) (by omega)
    have w3 := wrap_id (n := byteV (byteN (byteN c)) * 256) (by omega) (by omega)
    have w4 := wrap_id (n := byteV c * 16777216 + byteV (byteN c) * 65536) (by omega) (by omega)
    have w5 := wrap_id (n := byteV c * 16777216 + byteV (byteN c) * 65536 + byteV (byteN (byteN c)) * 256) (by omega) (by omega)
    have w6 := wrap_id (n := byteV c * 16777216 + byteV (byteN c) * 65536 + byteV (byteN (byteN c)) * 256 + byteV (byteN (byteN (byteN c)))) (by omega) (by omega)
    refine ⟨(byteV c * 16777216 + byteV (byteN c) * 65536 + byteV (byteN (byteN c)) * 256 + byteV (byteN (byteN (byteN c)))).tmod n, byteN (byteN (byteN (byteN c))), ?_, tmod_b _ _ (by omega) hn⟩
    simp -implicitDefEqProofs [s_l1Below_b, h, h0, h1, w1, w2, w3, w4, w5, w6]
theorem x_s_l1Below0 (c : Cur) (n : Int) (hn : n ≤ 0) : ev LL TT 73 [.ptr .own (eCur c), .int .i64 n] = some (.int .i64 0, [.ptr .own (eCur c), .dead]) := by
  rw [ev_run (b := s_l1Below_b) (rs := [.t 4]) (n := 2) rfl rfl]
  simp -implicitDefEqProofs [s_l1Below_b, hn]
/-- What a draw below n comes to, and the cursor behind it. -/
noncomputable def belowV (c : Cur) (n : Int) : Int := if h : 0 < n ∧ n ≤ 9223372036854775807 then (x_s_l1Below c n h.1 h.2).choose else 0
noncomputable def belowN (c : Cur) (n : Int) : Cur := if h : 0 < n ∧ n ≤ 9223372036854775807 then (x_s_l1Below c n h.1 h.2).choose_spec.choose else c
theorem belowV_b (c : Cur) (n : Int) (h1 : 0 < n) (h2 : n ≤ 9223372036854775807) : 0 ≤ belowV c n ∧ belowV c n < n := by
  unfold belowV
  rw [dif_pos ⟨h1, h2⟩]
  exact (x_s_l1Below c n h1 h2).choose_spec.choose_spec.2
theorem c_s_l1Below (c : Cur) (n : Int) (h2 : n ≤ 9223372036854775807) : ev LL TT 73 [.ptr .own (eCur c), .int .i64 n] = some (.int .i64 (belowV c n), [.ptr .own (eCur (belowN c n)), .dead]) := by
  unfold belowV belowN
  by_cases h1 : 0 < n
  · rw [dif_pos ⟨h1, h2⟩, dif_pos ⟨h1, h2⟩]
    exact (x_s_l1Below c n h1 h2).choose_spec.choose_spec.1
  · rw [dif_neg (fun h => h1 h.1), dif_neg (fun h => h1 h.1)]
    exact x_s_l1Below0 c n (by omega)
theorem c_s_l1Once (c : Cur) (n : Int) (h2 : n ≤ 9223372036854775807) : ev LL TT 83 [.ptr .own (eCur c), .int .i64 n] = some (.bool (decide (belowV c n = 0)), [.ptr .own (eCur (belowN c n)), .dead]) := by
  rw [ev_run (b := s_l1Once_b) (rs := [.t 4]) (n := 2) rfl rfl]
  simp -implicitDefEqProofs [s_l1Once_b, c_s_l1Below c n h2]
theorem c_s_l1Pick (c : Cur) (l : List Str) (h1 : 0 < l.length) (h2 : l.length ≤ 9223372036854775807) : ev LL TT 85 [.ptr .own (eCur c), .row .bor 1 (l.map eS)] = some (.str ⟨(l.getD (belowV c l.length).toNat []).toArray⟩, [.ptr .own (eCur (belowN c l.length)), .dead]) := by
  rw [ev_run (b := s_l1Pick_b) (rs := [.t 4]) (n := 2) rfl rfl]
  have b := belowV_b c l.length (by omega) (by omega) 
  have b2 : (belowV c l.length).toNat < l.length := by omega
  simp -implicitDefEqProofs [s_l1Pick_b, c_s_l1Below c l.length (by omega), b, b2]
@[simp] def eI (n : Int) : List X := [.int .i64 n]
@[simp] theorem mdLL_eI (m : Md) (l : List Int) : X.mdLL m (l.map eI) = l.map eI := by induction l <;> simp_all [X.mdLL, X.mdL, X.md]
theorem c_s_l1PickInt (c : Cur) (l : List Int) (h1 : 0 < l.length) (h2 : l.length ≤ 9223372036854775807) : ev LL TT 70 [.ptr .own (eCur c), .row .bor 1 (l.map eI)] = some (.int .i64 (l.getD (belowV c l.length).toNat 0), [.ptr .own (eCur (belowN c l.length)), .dead]) := by
  rw [ev_run (b := s_l1PickInt_b) (rs := [.t 4]) (n := 2) rfl rfl]
  have b := belowV_b c l.length (by omega) (by omega) 
  have b2 : (belowV c l.length).toNat < l.length := by omega
  simp -implicitDefEqProofs [s_l1PickInt_b, c_s_l1Below c l.length (by omega), b, b2]
theorem L_s_l1New (code : List UInt8) (hl : code.length ≤ 1048576) (h : Int) : ∃ h' : Int, loopW (evA (ev LL TT) (okT TT) s_l1New_L0) [(0, .row .sl 1 (code.map eU)), (3, .int .i64 h), (4, .int .i64 0), (100000, .row .sl 1 (code.map eU))] = some (.exit 0, [(0, .row .sl 1 (code.map eU)), (3, .int .i64 h'), (4, .int .i64 (min code.length 4000 : Nat)), (15, .bool false), (100000, .row .sl 1 (code.map eU))]) := by
  refine Exists.elim (loop_ex (f := evA (ev LL TT) (okT TT) s_l1New_L0) (min code.length 4000) (fun i (h : Int) => [(0, .row .sl 1 (code.map eU)), (3, .int .i64 h), (4, .int .i64 i), (100000, .row .sl 1 (code.map eU))]) (fun _ _ => True) (fun h' => [(0, .row .sl 1 (code.map eU)), (3, .int .i64 h'), (4, .int .i64 (min code.length 4000 : Nat)), (15, .bool false), (100000, .row .sl 1 (code.map eU))]) h trivial (fun i g hi _ => ?_) (fun g _ => ?_)) fun g h => ⟨g, h.2⟩
  · have h1 : i < code.length := by omega
    have h2 : (i : Int) < 4000 := by omega
    have hw := wrap_succ i (by omega)
    simp -implicitDefEqProofs [s_l1New_L0, s_l1New_L0b, h1, h2, hw]
  · by_cases h1 : code.length ≤ 4000
    · have : min code.length 4000 = code.length := by omega
      rw [this]
      simp -implicitDefEqProofs [s_l1New_L0, s_l1New_L0b]
    · have : min code.length 4000 = 4000 := by omega
      rw [this]
      have h2 : 4000 < code.length := by omega
      have h3 : (4000 : Int) < code.length := by omega
      simp -implicitDefEqProofs [s_l1New_L0, s_l1New_L0b, h2, h3]
theorem x_s_l1New (code : List UInt8) (hl : code.length ≤ 1048576) : ∃ c : Cur, ev LL TT 63 [.row .sl 1 (code.map eU)] = some (.ptr .own (eCur c), [.row .sl 1 (code.map eU)]) := by
  have hw := wrap_id (n := 18850 + code.length) (by omega) (by omega)
  obtain ⟨h', e⟩ := L_s_l1New code hl (18850 + code.length)
  refine ⟨⟨code, 0, h', Nat.zero_le _, by omega⟩, ?_⟩
  rw [ev_run (b := s_l1New_b) (rs := [.t 2]) (n := 1) rfl rfl]
  simp -implicitDefEqProofs [s_l1New_b, hw, e, eCur, movP]
@[simp] theorem c_s_DiskNew  : ev LL TT 18 [] = some (.agg (eDsk .own ⟨List.replicate 20 [], []⟩), []) := by
  rw [ev_run (b := s_DiskNew_b) (rs := [.c 0 2 true 29]) (n := 0) rfl rfl]
  simp -implicitDefEqProofs [s_DiskNew_b]
end M
set_option linter.unusedVariables false
set_option linter.unusedSimpArgs false
namespace M
open Go
def small (d : Dsk) : Prop := d.cells.length ≤ 20 ∧ d.pending.length ≤ 18
theorem ok_small {d : Dsk} (h : okD d = true) : small d := by
  have := okD_len h
  exact ⟨by omega, by omega⟩
theorem ok_put {d : Dsk} {a : Int} (t : Str) (h : putB d a = true) : okD (putD2 d a t) = true := by
  simp only [putB, Bool.and_eq_true, decide_eq_true_eq] at h
  obtain ⟨h1, h2⟩ := h
  have h3 := okD_len h1
  unfold putD2
  rw [if_pos h1, if_pos h2]
  simp only [okD, Bool.and_eq_true, decide_eq_true_eq]
  refine ⟨allB_iff.2 fun w hw => ?_, h3.1, by simp; omega⟩
  rcases List.mem_append.1 hw with hw | hw
  · simpa [okW] using okD_all h1 w hw
  · obtain rfl := List.mem_singleton.1 hw
    simpa [okW] using ⟨h2.1, h2.2.1⟩
theorem ok_flush {d : Dsk} (h : okD d = true) : okD (flushD d) = true := by
  have h3 := okD_len h
  unfold flushD
  rw [if_pos h]
  simp [okD, allB, landC_len, h3]
def rightL : List Str := [[], [97], [98], [99, 99]]
set_option maxHeartbeats 4000000 in
theorem x_s_l12DrawRight_L0 (n : Int) (hn : n ≤ 22) (i : Nat) (g : Cur × Dsk) (hi : (i : Int) < n) (hs : okD g.2 = true) :
    ∃ g' : Cur × Dsk, evA (ev LL TT) (okT TT) s_l12DrawRight_L0 [(0, .adr 100000 [] 0 0), (2, .ptr .own [.row .own 1 [], .row .own 2 []]), (3, .ptr .own (eDsk .own g.2)), (4, .int .i64 n), (5, .int .i64 i), (100000, .ptr .own (eCur g.1))] =
      some (.normal, [(0, .adr 100000 [] 0 0), (2, .ptr .own [.row .own 1 [], .row .own 2 []]), (3, .ptr .own (eDsk .own g'.2)), (4, .int .i64 n), (5, .int .i64 (i + 1 : Nat)), (100000, .ptr .own (eCur g'.1))]) ∧ okD g'.2 = true := by
  obtain ⟨c, d⟩ := g
  have hw := wrap_succ i (by omega)
  have hs : okD d = true := hs
  have hb : d.pending.length ≤ 9223372036854775807 := by have := okD_len hs; omega
  have h1 := c_s_l1Below c 20 (by omega)
  have h2 := c_s_l1Pick (belowN c 20) rightL (by decide) (by decide)
  have h4 := c_s_l1Once (belowN (belowN c 20) 4) 9 (by omega)
  obtain ⟨a, ha⟩ : ∃ a, belowV c 20 = a := ⟨_, rfl⟩
  obtain ⟨t, ht⟩ : ∃ t, rightL.getD (belowV (belowN c 20) rightL.length).toNat [] = t := ⟨_, rfl⟩
  rw [ht] at h2
  rw [ha] at h1
  have h3 := c_s_DiskPut d a t hb
  have h5 := c_s_Flush (putD2 d a t) (by have := (putD2_len d a t).2; omega)
  have h6 := c_s_Flush d hb
  simp at h3 h5 h6
  simp [rightL] at h2
  have key : ∀ ok : Bool, putB d a = ok → evA (ev LL TT) (okT TT) s_l12DrawRight_L0 [(0, .adr 100000 [] 0 0), (2, .ptr .own [.row .own 1 [], .row .own 2 []]), (3, .ptr .own (eDsk .own d)), (4, .int .i64 n), (5, .int .i64 i), (100000, .ptr .own (eCur c))] =
      some (.normal, [(0, .adr 100000 [] 0 0), (2, .ptr .own [.row .own 1 [], .row .own 2 []]), (3, .ptr .own (eDsk .own (if belowV (belowN (belowN c 20) 4) 9 = 0 then flushD (if ok = true then putD2 d a t else d) else (if ok = true then putD2 d a t else d)))), (4, .int .i64 n), (5, .int .i64 (i + 1 : Nat)), (100000, .ptr .own (eCur (belowN (belowN (belowN c 20) 4) 9)))]) := by
    intro ok hp
    rw [hp] at h3
    simp -implicitDefEqProofs [s_l12DrawRight_L0, s_l12DrawRight_L0b, s_l12DrawRight_d0, s_l12DrawRight_d1, s_l12DrawRight_d2, s_l12DrawRight_d3, s_l12DrawRight_d4, s_l12DrawRight_d5, s_l12DrawRight_d6, s_l12DrawRight_d7, s_l12DrawRight_d8, s_l12DrawRight_d9, s_l12DrawRight_d10, s_l12DrawRight_d11, s_l12DrawRight_d12, s_l12DrawRight_d13, s_l12DrawRight_d14, s_l12DrawRight_d15, s_l12DrawRight_d16, s_l12DrawRight_d17, s_l12DrawRight_d18, s_l12DrawRight_d19, s_l12DrawRight_d20, s_l12DrawRight_d21, s_l12DrawRight_d22, s_l12DrawRight_d23, hi, hw, h1, h2, h3, h4, h6]
    cases ok <;> by_cases ho : belowV (belowN (belowN c 20) 4) 9 = 0 <;> simp [ho, h5, h6, hw]
  refine ⟨(belowN (belowN (belowN c 20) 4) 9, if belowV (belowN (belowN c 20) 4) 9 = 0 then flushD (if putB d a = true then putD2 d a t else d) else (if putB d a = true then putD2 d a t else d)), key _ rfl, ?_⟩
  show okD (if _ then _ else _) = true
  have h7 : okD (if putB d a = true then putD2 d a t else d) = true := by
    split
    · exact ok_put t (by assumption)
    · exact hs
  split
  · exact ok_flush h7
  · exact h7
theorem x_s_l12DrawRight (c : Cur) : ∃ (c' : Cur) (d : Dsk), okD d = true ∧ ev LL TT 82 [.ptr .own (eCur c)] = some (.agg (eDsk .own d), [.ptr .own (eCur c')]) := by
  have b := belowV_b c 22 (by omega) (by omega)
  have h1 := c_s_l1Below c 22 (by omega)
  obtain ⟨n, hn⟩ : ∃ n : Nat, belowV c 22 = n := ⟨(belowV c 22).toNat, by omega⟩
  obtain ⟨⟨c', d⟩, hs, e⟩ := loop_ex (f := evA (ev LL TT) (okT TT) s_l12DrawRight_L0) n (fun i (g : Cur × Dsk) => [(0, .adr 100000 [] 0 0), (2, .ptr .own [.row .own 1 [], .row .own 2 []]), (3, .ptr .own (eDsk .own g.2)), (4, .int .i64 n), (5, .int .i64 i), (100000, .ptr .own (eCur g.1))]) (fun _ g => okD g.2 = true)
    (fun g => [(0, .adr 100000 [] 0 0), (2, .ptr .own [.row .own 1 [], .row .own 2 []]), (3, .ptr .own (eDsk .own g.2)), (4, .int .i64 n), (5, .int .i64 n), (13, .bool false), (100000, .ptr .own (eCur g.1))]) (belowN c 22, ⟨List.replicate 20 [], []⟩) (show okD ⟨List.replicate 20 [], []⟩ = true by decide)
    (fun i g hi hs => x_s_l12DrawRight_L0 n (by omega) i g (by omega) hs) (fun g hs => by simp -implicitDefEqProofs [s_l12DrawRight_L0, s_l12DrawRight_L0b])
  refine ⟨c', d, hs, ?_⟩
  rw [ev_run (b := s_l12DrawRight_b) (rs := [.c 2 2 true 29]) (n := 1) rfl rfl]
  rw [hn] at h1
  simp at e
  simp -implicitDefEqProofs [s_l12DrawRight_b, h1, e]
noncomputable def rightN (c : Cur) : Cur := (x_s_l12DrawRight c).choose
noncomputable def rightV (c : Cur) : Dsk := (x_s_l12DrawRight c).choose_spec.choose
theorem rightV_ok (c : Cur) : okD (rightV c) = true := (x_s_l12DrawRight c).choose_spec.choose_spec.1
theorem c_s_l12DrawRight (c : Cur) : ev LL TT 82 [.ptr .own (eCur c)] = some (.agg (eDsk .own (rightV c)), [.ptr .own (eCur (rightN c))]) := (x_s_l12DrawRight c).choose_spec.choose_spec.2
set_option maxHeartbeats 2000000 in
theorem x_s_l12Draw (c : Cur) : ∃ (c' : Cur) (d : Dsk), small d ∧ ev LL TT 64 [.ptr .own (eCur c)] = some (.agg (eDsk .own d), [.ptr .own (eCur c')]) := by
  have h1 := c_s_l12DrawRight c
  have ho := okD_len (rightV_ok c)
  obtain ⟨d, hd⟩ : ∃ d, rightV c = d := ⟨_, rfl⟩
  rw [hd] at h1 ho
  have h2 := c_s_l1Below (rightN c) 15 (by omega)
  have h3 := c_s_l1PickInt (belowN (rightN c) 15) [-1, 19, 20] (by decide) (by decide)
  have h4 := c_s_l1Below (belowN (rightN c) 15) 2 (by omega)
  have b4 := belowV_b (belowN (rightN c) 15) 2 (by omega) (by omega)
  obtain ⟨k, hk⟩ : ∃ k, belowV (rightN c) 15 = k := ⟨_, rfl⟩
  obtain ⟨m, hm⟩ : ∃ m, belowV (belowN (rightN c) 15) 2 = m := ⟨_, rfl⟩
  rw [hk] at h2
  rw [hm] at h4 b4
  simp at h1 h3
  rw [ev_run (b := s_l12Draw_b) (rs := [.c 2 2 true 29]) (n := 1) rfl rfl]
  by_cases k0 : k = 0
  · subst k0
    refine ⟨belowN (rightN c) 15, ⟨d.cells.drop 1, d.pending⟩, ⟨by simp; omega, by simp; omega⟩, ?_⟩
    have e1 : (d.cells.map eS).take 20 = d.cells.map eS := List.take_of_length_le (by simp; omega)
    have e2 : X.clean.cleanLL (d.cells.map eS).tail = true := by rw [← List.map_tail]; exact clean_eS _
    simp -implicitDefEqProofs [s_l12Draw_b, s_l12Draw_d0, s_l12Draw_d1, s_l12Draw_d2, s_l12Draw_d3, h1, h2, ho, moveC, e1, e2]
  · by_cases k1 : k = 1
    · subst k1
      obtain ⟨v, hv⟩ : ∃ v : Int, ([-1, 19, 20] : List Int)[(belowV (belowN (rightN c) 15) 3).toNat]?.getD 0 = v := ⟨_, rfl⟩
      rw [hv] at h3
      refine ⟨belowN (belowN (rightN c) 15) 3, ⟨d.cells, d.pending ++ [⟨v, []⟩]⟩, ⟨by simp; omega, by simp; omega⟩, ?_⟩
      simp -implicitDefEqProofs [s_l12Draw_b, s_l12Draw_d0, s_l12Draw_d1, s_l12Draw_d2, s_l12Draw_d3, h1, h2, h3, takeE, (by omega : (d.pending.length + 1) * 24 ≤ 140737488355328)]
    · by_cases k2 : k = 2
      · subst k2
        have w := wrap_id (n := 16 + m) (by omega) (by omega)
        have w2 : 0 ≤ 16 + m := by omega
        have w3 : (16 + m) * 24 ≤ 140737488355328 := by omega
        refine ⟨belowN (belowN (rightN c) 15) 2, ⟨d.cells, List.replicate (16 + m).toNat ⟨0, []⟩⟩, ⟨by simp; omega, by simp; omega⟩, ?_⟩
        have e3 := clean_eW (List.replicate (16 + m).toNat ⟨0, []⟩)
        simp at e3
        simp -implicitDefEqProofs [s_l12Draw_b, s_l12Draw_d0, s_l12Draw_d1, s_l12Draw_d2, s_l12Draw_d3, h1, h2, h4, w, w2, w3, e3]
      · refine ⟨belowN (rightN c) 15, d, ⟨by omega, by omega⟩, ?_⟩
        simp -implicitDefEqProofs [s_l12Draw_b, s_l12Draw_d0, s_l12Draw_d1, s_l12Draw_d2, s_l12Draw_d3, h1, h2, k0, k1, k2]
noncomputable def drawN (c : Cur) : Cur := (x_s_l12Draw c).choose
noncomputable def drawV (c : Cur) : Dsk := (x_s_l12Draw c).choose_spec.choose
theorem drawV_ok (c : Cur) : small (drawV c) := (x_s_l12Draw c).choose_spec.choose_spec.1
theorem c_s_l12Draw (c : Cur) : ev LL TT 64 [.ptr .own (eCur c)] = some (.agg (eDsk .own (drawV c)), [.ptr .own (eCur (drawN c))]) := (x_s_l12Draw c).choose_spec.choose_spec.2
theorem x_s_DrawFlush (code : List UInt8) (hl : code.length ≤ 1048576) : ∃ d : Dsk, small d ∧ ∃ ps, ev LL TT 41 [.row .sl 1 (code.map eU)] = some (.agg (eDsk .own d), ps) := by
  obtain ⟨c, hc⟩ := x_s_l1New code hl
  refine ⟨drawV c, drawV_ok c, ?_⟩
  have h := c_s_l12Draw c
  simp at h
  rw [ev_run (b := s_DrawFlush_b) (rs := [.c 2 2 true 29]) (n := 1) rfl rfl]
  simp -implicitDefEqProofs [s_DrawFlush_b, hc, h]
end M
