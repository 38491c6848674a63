/- What the functions come to in the machine; no conditions. -/
import Derived.Test.YtanjldhhcnfibaaCona
import Derived.Test.YtanjldhhcnfibaaMc
set_option linter.unusedSectionVars false
set_option linter.unusedVariables false
set_option linter.unusedSimpArgs false
namespace M
open Go
variable {L : Ora}
theorem u8s_one (m : Nat) (h : m < 256) : u8s [[.int .u8 (m : Int)]] = some [UInt8.ofNat m] := by
  have := u8s_map [UInt8.ofNat m]
  have e : ((UInt8.ofNat m).toNat : Int) = m := by
    rw [UInt8.toNat_ofNat']
    omega
  simp only [List.map_cons, List.map_nil, e] at this
  exact this
theorem wrap8_id {n : Int} (h1 : 0 ≤ n) (h2 : n < 256) : IntKind.u8.wrap n = n := by
  simp only [IntKind.wrap, IntKind.signed, IntKind.bits, Bool.false_and, Bool.false_eq_true, if_false]
  omega
theorem L_l_markText (n : Nat) (out : Str) (hn : out.length + n ≤ 9223372036854775807) : loopW (evA (ev L TT) (okT TT) l_markText_L0) [(0, .int .i64 n), (3, .str ⟨out.toArray⟩)] = some (.exit 0, [(0, .int .i64 0), (3, .str ⟨(markD n out).toArray⟩), (7, .bool false)]) := by
  have hs : ∀ s, evA (ev L TT) (okT TT) l_markText_L0 s = evA (ev L TT) (okT TT) l_markText_L0b s := fun _ => rfl
  induction n using Nat.strongRecOn generalizing out with
  | ind n ih =>
    rw [loopW_eq, hs]
    unfold markD
    by_cases h : n = 0
    · subst h
      simp [l_markText_L0b]
    · have hp : 0 < n := by omega
      have := ih (n / 10) (by omega) (UInt8.ofNat (48 + n % 10) :: out) (by rw [List.length_cons]; omega)
      have e1 : ((n : Int)).tmod 10 = ((n % 10 : Nat) : Int) := by rw [Int.tmod_eq_emod_of_nonneg (by omega)]; omega
      have e4 : ((n : Int)).tdiv 10 = ((n / 10 : Nat) : Int) := by rw [Int.tdiv_eq_ediv_of_nonneg (by omega)]; omega
      have e2 : IntKind.i64.wrap (48 + ((n % 10 : Nat) : Int)) = ((48 + n % 10 : Nat) : Int) := by rw [wrap_id (by omega) (by omega)]; omega
      have e3 : IntKind.u8.wrap ((48 + n % 10 : Nat) : Int) = ((48 + n % 10 : Nat) : Int) := wrap8_id (by omega) (by omega)
      have e5 := u8s_one (48 + n % 10) (by omega)
      have e6 : IntKind.i64.wrap ((n / 10 : Nat) : Int) = ((n / 10 : Nat) : Int) := wrap_id (by omega) (by omega)
      simp only [h, dite_false]
      rw [← this]
      simp [l_markText_L0b, hp, litB, e1, e2, e3, e4, e5, e6, -Int.natCast_emod, -Int.natCast_ediv, -Int.natCast_add, -UInt8.ofNat_add, str_append, (by omega : 1 + out.length ≤ 9223372036854775807)]
theorem markD_len : ∀ (n : Nat) (out : Str), (markD n out).length ≤ out.length + n := by
  intro n
  induction n using Nat.strongRecOn with
  | ind n ih =>
    intro out
    unfold markD
    by_cases h : n = 0
    · simp [h]
    · simp only [h, dite_false]
      have := ih (n / 10) (by omega) (UInt8.ofNat (48 + n % 10) :: out)
      rw [List.length_cons] at this
      omega
theorem c_l_markText (k : Int) (hk : k ≤ 9223372036854775800) : ev L TT 75 [.int .i64 k] = some (.str ⟨(markT k).toArray⟩, [.dead]) := by
  rw [ev_run (b := l_markText_b) (rs := [.t 2]) (n := 1) rfl rfl]
  unfold markT 
  by_cases h : k ≤ 0 
  · simp -implicitDefEqProofs [l_markText_b, h] 
  obtain ⟨n, rfl⟩ : ∃ n : Nat, k = n := ⟨k.toNat, by omega⟩ 
  have h1 := L_l_markText (L := L) n [] (by simp; omega) 
  have h2 := markD_len n [] 
  simp at h2
  simp -implicitDefEqProofs [l_markText_b, h, h1, str_append, (by omega : 1 + (markD n []).length ≤ 9223372036854775807)]
  have h3 : ¬ n = 0 := by omega 
  simp [h3]
theorem L_l_markStringS (l : List Str) (k : Int) (hb : l.length ≤ 1048600) (hk : 0 ≤ k) (hk' : k ≤ 10000000) : loopW (evA (ev L TT) (okT TT) l_markStringS_L0) [(0, .ref 100000 []), (1, .int .i64 (k + (0 : Nat))), (5, .int .i64 0), (100000, .row .own 1 (fillM ((marksS l.length k).map eS) (l.map eS) 0))] = some (.exit 0, [(0, .ref 100000 []), (1, .int .i64 (k + l.length)), (5, .int .i64 l.length), (9, .bool false), (100000, .row .own 1 ((marksS l.length k).map eS))]) := by
  refine loop_count (f := evA (ev L TT) (okT TT) l_markStringS_L0) (l) (fun i => [(0, .ref 100000 []), (1, .int .i64 (k + (i : Nat))), (5, .int .i64 i), (100000, .row .own 1 (fillM ((marksS l.length k).map eS) (l.map eS) i))]) _ (fun i b hi hl => ?_) ?_
  · have hw := wrap_succ i (by first | omega | (simp at hl; omega))
    obtain ⟨_, rfl⟩ := List.getElem?_eq_some_iff.1 hi
    have h1 := c_l_markText (L := L) (k + i) (by omega) 
    have h2 := wrap_id (n := k + i + 1) (by omega) (by omega)
    simp -implicitDefEqProofs [l_markStringS_L0, l_markStringS_L0b, hl, hw, h1, h2]
    exact ⟨by omega, fillM_set _ _ _ _ (by simp) (by simpa using hl) (by simp)⟩
  · simp -implicitDefEqProofs [l_markStringS_L0, l_markStringS_L0b]
theorem c_l_markStringS (l : List Str) (k : Int) (hb : l.length ≤ 1048600) (hk : 0 ≤ k) (hk' : k ≤ 10000000) : ev L TT 50 [.row .own 1 (l.map eS), .int .i64 k] = some (.int .i64 (k + l.length), [.row .own 1 ((marksS l.length k).map eS), .dead]) := by
  rw [ev_run (b := l_markStringS_b) (rs := [.t 4]) (n := 2) rfl rfl]
  have h1 := L_l_markStringS (L := L) l k hb hk hk' 
  simp at h1
  simp -implicitDefEqProofs [l_markStringS_b, h1]
theorem L_l_markWriteS (l : List Wr) (k : Int) (hb : l.length ≤ 1048600) (hk : 0 ≤ k) (hk' : k ≤ 10000000) : loopW (evA (ev L TT) (okT TT) l_markWriteS_L0) [(0, .ref 100000 []), (1, .int .i64 (k + 2 * (0 : Nat))), (5, .int .i64 0), (100000, .row .own 2 (fillM ((marksW l.length k).map eW) (l.map eW) 0))] = some (.exit 0, [(0, .ref 100000 []), (1, .int .i64 (k + 2 * l.length)), (5, .int .i64 l.length), (9, .bool false), (100000, .row .own 2 ((marksW l.length k).map eW))]) := by
  refine loop_count (f := evA (ev L TT) (okT TT) l_markWriteS_L0) (l) (fun i => [(0, .ref 100000 []), (1, .int .i64 (k + 2 * (i : Nat))), (5, .int .i64 i), (100000, .row .own 2 (fillM ((marksW l.length k).map eW) (l.map eW) i))]) _ (fun i b hi hl => ?_) ?_
  · have hw := wrap_succ i (by first | omega | (simp at hl; omega))
    obtain ⟨_, rfl⟩ := List.getElem?_eq_some_iff.1 hi
    have h1 := c_l_markText (L := L) (k + 2 * i + 1) (by omega) 
    have h2 := wrap_id (n := k + 2 * i + 1) (by omega) (by omega) 
    have h3 := wrap_id (n := k + 2 * i + 1 + 1) (by omega) (by omega)
    simp -implicitDefEqProofs [l_markWriteS_L0, l_markWriteS_L0b, hl, hw, h1, h2, h3]
    exact ⟨by omega, by rw [modify_two]; exact fillM_set _ _ _ _ (by simp) (by simpa using hl) (by simp)⟩
  · simp -implicitDefEqProofs [l_markWriteS_L0, l_markWriteS_L0b]
theorem c_l_markWriteS (l : List Wr) (k : Int) (hb : l.length ≤ 1048600) (hk : 0 ≤ k) (hk' : k ≤ 10000000) : ev L TT 51 [.row .own 2 (l.map eW), .int .i64 k] = some (.int .i64 (k + 2 * l.length), [.row .own 2 ((marksW l.length k).map eW), .dead]) := by
  rw [ev_run (b := l_markWriteS_b) (rs := [.t 4]) (n := 2) rfl rfl]
  have h1 := L_l_markWriteS (L := L) l k hb hk hk' 
  simp at h1
  simp -implicitDefEqProofs [l_markWriteS_b, h1]
theorem c_l_markDisk (d : Dsk) (k : Int) (hb : d.cells.length ≤ 1048600) (hb' : d.pending.length ≤ 1048600) (hk : 0 ≤ k) (hk' : k ≤ 1000000) : ev L TT 21 [.agg (eDsk .own d), .int .i64 k] = some (.int .i64 (k + d.cells.length + 2 * d.pending.length), [.agg (eDsk .own (marksD d k)), .dead]) := by
  rw [ev_run (b := l_markDisk_b) (rs := [.t 4]) (n := 2) rfl rfl]
  have h1 := c_l_markStringS (L := L) d.cells k hb hk (by omega) 
  have h2 := c_l_markWriteS (L := L) d.pending (k + d.cells.length) hb' (by omega) (by omega)
  simp -implicitDefEqProofs [l_markDisk_b, h1, h2, marksD, callM, mutE, putM, mutPost, setB]
theorem L_l_heldStringS (n : Nat) (k : Int) (hb : n ≤ 1048600) (hk : 0 ≤ k) (hk' : k ≤ 10000000) : loopW (evA (ev L TT) (okT TT) l_heldStringS_L0) [(0, .row .bor 1 ((marksS n k).map eS)), (1, .int .i64 (k + (0 : Nat))), (5, .int .i64 0)] = some (.exit 0, [(0, .row .bor 1 ((marksS n k).map eS)), (1, .int .i64 (k + n)), (5, .int .i64 n), (9, .bool false)]) := by
  refine loop_count (f := evA (ev L TT) (okT TT) l_heldStringS_L0) ((marksS n k)) (fun i => [(0, .row .bor 1 ((marksS n k).map eS)), (1, .int .i64 (k + (i : Nat))), (5, .int .i64 i)]) _ (fun i b hi hl => ?_) ?_
  · have hw := wrap_succ i (by first | omega | (simp at hl; omega))
    obtain ⟨_, rfl⟩ := List.getElem?_eq_some_iff.1 hi
    have hl' : i < n := by simpa using hl 
    have h1 := c_l_markText (L := L) (k + i) (by omega) 
    have h2 := wrap_id (n := k + i + 1) (by omega) (by omega)
    simp -implicitDefEqProofs [l_heldStringS_L0, l_heldStringS_L0b, hl, hw, h1, h2, hl']
    omega
  · simp -implicitDefEqProofs [l_heldStringS_L0, l_heldStringS_L0b]
theorem c_l_heldStringS (n : Nat) (k : Int) (hb : n ≤ 1048600) (hk : 0 ≤ k) (hk' : k ≤ 10000000) : ev L TT 52 [.row .bor 1 ((marksS n k).map eS), .int .i64 k] = some (.int .i64 (k + n), [.dead, .dead]) := by
  rw [ev_run (b := l_heldStringS_b) (rs := [.t 4]) (n := 2) rfl rfl]
  have h1 := L_l_heldStringS (L := L) n k hb hk hk' 
  simp at h1
  simp -implicitDefEqProofs [l_heldStringS_b, h1]
theorem L_l_heldWriteS (n : Nat) (k : Int) (hb : n ≤ 1048600) (hk : 0 ≤ k) (hk' : k ≤ 10000000) : loopW (evA (ev L TT) (okT TT) l_heldWriteS_L0) [(0, .row .bor 2 ((marksW n k).map eW)), (1, .int .i64 (k + 2 * (0 : Nat))), (5, .int .i64 0)] = some (.exit 0, [(0, .row .bor 2 ((marksW n k).map eW)), (1, .int .i64 (k + 2 * n)), (5, .int .i64 n), (9, .bool false)]) := by
  refine loop_count (f := evA (ev L TT) (okT TT) l_heldWriteS_L0) ((marksW n k)) (fun i => [(0, .row .bor 2 ((marksW n k).map eW)), (1, .int .i64 (k + 2 * (i : Nat))), (5, .int .i64 i)]) _ (fun i b hi hl => ?_) ?_
  · have hw := wrap_succ i (by first | omega | (simp at hl; omega))
    obtain ⟨_, rfl⟩ := List.getElem?_eq_some_iff.1 hi
    have hl' : i < n := by simpa using hl 
    have h1 := c_l_markText (L := L) (k + 2 * i + 1) (by omega) 
    have h2 := wrap_id (n := k + 2 * i + 1) (by omega) (by omega) 
    have h3 := wrap_id (n := k + 2 * i + 1 + 1) (by omega) (by omega)
    simp -implicitDefEqProofs [l_heldWriteS_L0, l_heldWriteS_L0b, hl, hw, h1, h2, h3, hl']
    omega
  · simp -implicitDefEqProofs [l_heldWriteS_L0, l_heldWriteS_L0b]
theorem c_l_heldWriteS (n : Nat) (k : Int) (hb : n ≤ 1048600) (hk : 0 ≤ k) (hk' : k ≤ 10000000) : ev L TT 53 [.row .bor 2 ((marksW n k).map eW), .int .i64 k] = some (.int .i64 (k + 2 * n), [.dead, .dead]) := by
  rw [ev_run (b := l_heldWriteS_b) (rs := [.t 4]) (n := 2) rfl rfl]
  have h1 := L_l_heldWriteS (L := L) n k hb hk hk' 
  simp at h1
  simp -implicitDefEqProofs [l_heldWriteS_b, h1]
theorem c_l_heldDisk (d : Dsk) (k : Int) (hb : d.cells.length ≤ 1048600) (hb' : d.pending.length ≤ 1048600) (hk : 0 ≤ k) (hk' : k ≤ 1000000) : ev L TT 22 [.agg (eDsk .bor (marksD d k)), .int .i64 k] = some (.int .i64 (k + d.cells.length + 2 * d.pending.length), [.dead, .dead]) := by
  rw [ev_run (b := l_heldDisk_b) (rs := [.t 4]) (n := 2) rfl rfl]
  have h1 := c_l_heldStringS (L := L) d.cells.length k hb hk (by omega) 
  have h2 := c_l_heldWriteS (L := L) d.pending.length (k + d.cells.length) hb' (by omega) (by omega) 
  have h3 : ¬ (k + d.cells.length < 0) := by omega 
  have h4 : ¬ (k + d.cells.length + 2 * d.pending.length < 0) := by omega
  simp -implicitDefEqProofs [l_heldDisk_b, h1, h2, h3, h4, marksD]
end M
