/- What the functions come to in the machine; no conditions. -/
import Derived.Test.YtanjldhhcnfibaaCone
import Derived.Test.YtanjldhhcnfibaaCond
set_option linter.unusedSectionVars false
set_option linter.unusedVariables false
set_option linter.unusedSimpArgs false
namespace M
open Go
theorem map_eB_app (l : List Bool) (b : Bool) : l.map eB ++ [[.bool b]] = (l ++ [b]).map eB := by simp
theorem x_s_l12DrawKeep (c : Cur) (n : Int) (h0 : 0 ≤ n) (hn : n ≤ 100) : ∃ (c' : Cur) (keep : List Bool), keep.length ≤ 200 ∧ ev LL TT 65 [.ptr .own (eCur c), .int .i64 n] = some (.row .own 1 (keep.map eB), [.ptr .own (eCur c'), .dead]) := by
  obtain ⟨⟨⟨c', i⟩, keep⟩, ⟨hs, hi⟩, e⟩ := loop_ms (f := evA (ev LL TT) (okT TT) s_l12DrawKeep_L0)
    (fun (g : (Cur × Nat) × List Bool) => [(0, .adr 100000 [] 0 0), (1, .int .i64 n), (5, .row .own 1 (g.2.map eB)), (6, .int .i64 g.1.2), (100000, .ptr .own (eCur g.1.1))])
    (fun g => 200 - g.1.2) (fun g => g.2.length = g.1.2 ∧ g.1.2 ≤ 110)
    (fun g => [(0, .adr 100000 [] 0 0), (1, .int .i64 n), (5, .row .own 1 (g.2.map eB)), (6, .int .i64 g.1.2), (14, .bool false), (100000, .ptr .own (eCur g.1.1))])
    (fun g hg => by
      obtain ⟨⟨c, i⟩, keep⟩ := g
      obtain ⟨h1, h2⟩ := hg
      simp only at h1 h2
      have b := belowV_b c 3 (by omega) (by omega)
      have e1 := c_s_l1Below c 3 (by omega)
      obtain ⟨v, hv⟩ : ∃ v, belowV c 3 = v := ⟨_, rfl⟩
      rw [hv] at e1 b
      have w1 := wrap_id (n := n + v) (by omega) (by omega)
      have w2 := wrap_id (n := n + v - 1) (by omega) (by omega)
      have e2 := c_s_l1Once (belowN c 3) 2 (by omega)
      obtain ⟨o, ho⟩ : ∃ o, decide (belowV (belowN c 3) 2 = 0) = o := ⟨_, rfl⟩
      rw [ho] at e2
      by_cases h : (i : Int) < n + v - 1
      · right
        have hw := wrap_succ i (by omega)
        refine ⟨((belowN (belowN c 3) 2, i + 1), keep ++ [o]), ⟨by simp [h1], by simp only; omega⟩, by simp only; omega, ?_⟩
        simp -implicitDefEqProofs [s_l12DrawKeep_L0, s_l12DrawKeep_L0b, e1, e2, w1, w2, h, hw, takeE, h1, (by omega : i + 1 ≤ 140737488355328)]
      · left
        refine ⟨((belowN c 3, i), keep), ⟨h1, h2⟩, ?_⟩
        simp -implicitDefEqProofs [s_l12DrawKeep_L0, s_l12DrawKeep_L0b, e1, w1, w2, h])
    ((c, 0), []) ⟨rfl, by simp⟩
  refine ⟨c', keep, by simp only at hs hi; omega, ?_⟩
  rw [ev_run (b := s_l12DrawKeep_b) (rs := [.t 4]) (n := 2) rfl rfl]
  simp at e
  simp -implicitDefEqProofs [s_l12DrawKeep_b, e]
theorem x_s_DrawCrash (code : List UInt8) (hl : code.length ≤ 1048576) : ∃ (d : Dsk) (keep : List Bool), small d ∧ keep.length ≤ 200 ∧ ∃ ps, ev LL TT 32 [.row .sl 1 (code.map eU)] = some (.tup [.agg (eDsk .own d), .row .own 1 (keep.map eB)], ps) := by
  obtain ⟨c, hc⟩ := x_s_l1New code hl
  have h := c_s_l12Draw c
  have hs := drawV_ok c
  obtain ⟨c2, keep, hk, h2⟩ := x_s_l12DrawKeep (drawN c) (drawV c).pending.length (by omega) (by have := hs.2; omega)
  refine ⟨drawV c, keep, hs, hk, ?_⟩
  simp at h
  rw [ev_run (b := s_DrawCrash_b) (rs := [.c 2 2 true 29, .t 3]) (n := 1) rfl rfl]
  simp -implicitDefEqProofs [s_DrawCrash_b, s_DrawCrash_d0, hc, h, h2]
theorem c_l_big (code : List UInt8) : ev LL TT 31 [.row .bor 1 (code.map eU)] = some (.bool (decide (1048576 < code.length)), [.dead]) := by
  rw [ev_run (b := l_big_b) (rs := [.t 2]) (n := 1) rfl rfl]
  simp -implicitDefEqProofs [l_big_b]
  omega
theorem L_l_sameTexts (ps : List (Str × Str)) (hb : ps.length ≤ 9223372036854775807) : loopW (evA (ev LL TT) (okT TT) l_sameTexts_L0) [(0, .row .bor 1 (ps.map fun x => eS x.1)), (1, .row .bor 1 (ps.map fun x => eS x.2)), (5, .int .i64 0)] = if allB eqB (ps) = true then some (.exit 0, [(0, .row .bor 1 (ps.map fun x => eS x.1)), (1, .row .bor 1 (ps.map fun x => eS x.2)), (5, .int .i64 ps.length), (14, .bool false)]) else some (.ret, [(4, .bool false)]) := by
  refine loop_all (f := evA (ev LL TT) (okT TT) l_sameTexts_L0) (ps) (fun i => [(0, .row .bor 1 (ps.map fun x => eS x.1)), (1, .row .bor 1 (ps.map fun x => eS x.2)), (5, .int .i64 i)]) eqB _ _ (fun i b hi hl => ?_) ?_
  · have hw := wrap_succ i (by first | omega | (simp at hl; omega))
    obtain ⟨_, rfl⟩ := List.getElem?_eq_some_iff.1 hi
    simp -implicitDefEqProofs [l_sameTexts_L0, l_sameTexts_L0b, hl, hw, eqB]
  · simp -implicitDefEqProofs [l_sameTexts_L0, l_sameTexts_L0b]
theorem c_l_sameTexts (a b : List Str) (hb : a.length ≤ 9223372036854775807) : ev LL TT 35 [.row .bor 1 (a.map eS), .row .bor 1 (b.map eS)] = some (.bool (decide (a = b)), [.dead, .dead]) := by
  rw [ev_run (b := l_sameTexts_b) (rs := [.t 4]) (n := 2) rfl rfl]
  simp -implicitDefEqProofs [l_sameTexts_b]
  by_cases h : a.length = b.length 
  · obtain ⟨ps, rfl, rfl⟩ := zip_ex h 
    have h1 := L_l_sameTexts ps (by simpa using hb) 
    have h2 := allB_eq ps 
    simp at h1 
    cases h3 : allB eqB ps <;> rw [h3] at h1 h2 <;> simp [h1, Function.comp_def, ← h2] 
  · have : ¬ a = b := fun e => h (by rw [e]) 
    simp [this] 
    omega
end M
set_option linter.unusedVariables false
set_option linter.unusedSimpArgs false
namespace M
open Go
theorem foldI_congr {k k' : Nat → Bool} : ∀ (ws : List Wr) (s : Nat) (cs : List Str), (∀ i, s ≤ i → i < s + ws.length → k i = k' i) → foldI (landF k) s ws cs = foldI (landF k') s ws cs
  | [], _, _, _ => rfl
  | w :: ws, s, cs, h => by
    simp only [foldI]
    have h0 : landF k s cs w = landF k' s cs w := by unfold landF; rw [h s (Nat.le_refl _) (by simp)]
    rw [h0]
    exact foldI_congr ws (s + 1) _ fun i h1 h2 => h i (by omega) (by simp at h2 ⊢; omega)
theorem foldI_get (n : Nat) : ∀ (ws : List Wr) (s : Nat) (cs : List Str), allOk ws → cs.length = 20 → n < 20 → (foldI (landF fun _ => true) s ws cs).getD n [] = ws.foldl (fun out w => if w.at_ = (n : Int) then w.text else out) (cs.getD n [])
  | [], _, _, _, _, _ => rfl
  | w :: ws, s, cs, ho, hc, hn => by
    have hw := ho w (List.mem_cons_self ..)
    simp only [foldI, List.foldl_cons]
    rw [foldI_get n ws (s + 1) _ (fun x hx => ho x (List.mem_cons_of_mem _ hx)) (by rw [landF_len]; exact hc) hn]
    congr 1
    unfold landF
    simp only [if_true]
    by_cases h : w.at_ = (n : Int)
    · rw [if_pos h]
      have : w.at_.toNat = n := by omega
      rw [this, List.getD_eq_getElem?_getD, List.getElem?_set_self (by omega)]
      rfl
    · rw [if_neg h]
      have : w.at_.toNat ≠ n := by omega
      rw [List.getD_eq_getElem?_getD, List.getD_eq_getElem?_getD, List.getElem?_set_ne this]
theorem flush_get {d : Dsk} (h : okD d = true) (n : Nat) (hn : n < 20) : getF (flushD d) n = getF d n := by
  have h1 := okD_len h
  unfold flushD
  rw [if_pos h]
  show (landC (keepOf [] true) d.cells d.pending).getD ((n : Int)).toNat [] = _
  have e : landC (keepOf [] true) d.cells d.pending = foldI (landF fun _ => true) 0 d.pending d.cells := foldI_congr _ _ _ fun i _ _ => by simp [keepOf]
  rw [e]
  have := foldI_get n d.pending 0 d.cells (okD_all h) h1.1 hn
  simpa [getF] using this
theorem crash_flush {d : Dsk} (h : okD d = true) (keep : List Bool) : crashD (flushD d) keep = flushD d := by
  unfold crashD
  rw [if_pos (ok_flush h)]
  unfold flushD
  rw [if_pos h]
  rfl
theorem crash_all {d : Dsk} (h : okD d = true) : crashD d (List.replicate d.pending.length true) = flushD d := by
  unfold crashD flushD
  rw [if_pos h, if_pos h]
  congr 1
  exact foldI_congr _ _ _ fun i _ hi => by simp at hi; simp [keepOf, hi]
theorem foldI_none : ∀ (ws : List Wr) (s : Nat) (cs : List Str), foldI (landF fun _ => false) s ws cs = cs
  | [], _, _ => rfl
  | w :: ws, s, cs => by simp only [foldI, landF, Bool.false_eq_true, if_false]; exact foldI_none ws _ _
theorem crash_nil {d : Dsk} (h : okD d = true) : crashD d [] = ⟨d.cells, []⟩ := by
  unfold crashD
  rw [if_pos h]
  congr 1
  exact (foldI_congr (k' := fun _ => false) _ _ _ fun i _ _ => by simp [keepOf]).trans (foldI_none _ _ _)
theorem ok_cells {d : Dsk} (h : okD d = true) : okD ⟨d.cells, []⟩ = true := by
  have := okD_len h
  simp [okD, allB, this]
theorem L_l_FnDisk0 (d : Dsk) (keep : List Bool) (e g : Dsk) (hb : d.pending.length ≤ 100) : loopW (evA (ev LL TT) (okT TT) l_FnDisk_L0) [(3, .ptr .own (eDsk .own d)), (4, .ref 15 [(0, 1)]), (5, .ptr .own (eDsk .own e)), (7, .ptr .own (eDsk .own g)), (8, .row .own 1 ((List.replicate 0 true).map eB)), (9, .int .i64 0), (13, .tup [.agg [.dead, .dead], .ref 15 [(0, 1)]]), (15, .tup [.agg [.dead, .dead], .row .own 1 (keep.map eB)])] = some (.exit 0, [(3, .ptr .own (eDsk .own d)), (4, .ref 15 [(0, 1)]), (5, .ptr .own (eDsk .own e)), (7, .ptr .own (eDsk .own g)), (8, .row .own 1 ((List.replicate d.pending.length true).map eB)), (9, .int .i64 d.pending.length), (13, .tup [.agg [.dead, .dead], .ref 15 [(0, 1)]]), (15, .tup [.agg [.dead, .dead], .row .own 1 (keep.map eB)]), (51, .bool false)]) := by
  refine loop_count (f := evA (ev LL TT) (okT TT) l_FnDisk_L0) (d.pending) (fun i => [(3, .ptr .own (eDsk .own d)), (4, .ref 15 [(0, 1)]), (5, .ptr .own (eDsk .own e)), (7, .ptr .own (eDsk .own g)), (8, .row .own 1 ((List.replicate i true).map eB)), (9, .int .i64 i), (13, .tup [.agg [.dead, .dead], .ref 15 [(0, 1)]]), (15, .tup [.agg [.dead, .dead], .row .own 1 (keep.map eB)])]) _ (fun i b hi hl => ?_) ?_
  · have hw := wrap_succ i (by first | omega | (simp at hl; omega))
    obtain ⟨_, rfl⟩ := List.getElem?_eq_some_iff.1 hi
    have h2 : i + 1 ≤ 140737488355328 := by omega 
    have h3 : List.replicate (i + 1) [X.bool true] = List.replicate i [X.bool true] ++ [[X.bool true]] := by rw [List.replicate_succ']
    simp -implicitDefEqProofs [l_FnDisk_L0, l_FnDisk_L0b, hl, hw, takeE, h2, h3]
  · simp -implicitDefEqProofs [l_FnDisk_L0, l_FnDisk_L0b]
set_option maxHeartbeats 2000000 in
theorem L_l_FnDisk1 (d : Dsk) (keep : List Bool) (e : Dsk) (h : okD d = true) (hk : keep.length ≤ 200) : ∃ u : Unit, True ∧ loopW (evA (ev LL TT) (okT TT) l_FnDisk_L1) [(3, .ptr .own (eDsk .own d)), (4, .ref 15 [(0, 1)]), (5, .ptr .own (eDsk .own e)), (7, .ptr .own (eDsk .own (flushD d))), (8, .row .own 1 ((List.replicate d.pending.length true).map eB)), (10, .int .i64 0), (13, .tup [.agg [.dead, .dead], .ref 15 [(0, 1)]]), (15, .tup [.agg [.dead, .dead], .row .own 1 (keep.map eB)])] =
    some (.exit 2, [(3, .ptr .own (eDsk .own d)), (4, .ref 15 [(0, 1)]), (5, .ptr .own (eDsk .own e)), (7, .ptr .own (eDsk .own (flushD d))), (8, .row .own 1 ((List.replicate d.pending.length true).map eB)), (10, .int .i64 20), (13, .tup [.agg [.dead, .dead], .ref 15 [(0, 1)]]), (15, .tup [.agg [.dead, .dead], .row .own 1 (keep.map eB)]), (58, .bool false)]) := by
  have ho := okD_len h
  refine loop_ex2 (f := evA (ev LL TT) (okT TT) l_FnDisk_L1) 2 20 (fun i (_ : Unit) => [(3, .ptr .own (eDsk .own d)), (4, .ref 15 [(0, 1)]), (5, .ptr .own (eDsk .own e)), (7, .ptr .own (eDsk .own (flushD d))), (8, .row .own 1 ((List.replicate d.pending.length true).map eB)), (10, .int .i64 i), (13, .tup [.agg [.dead, .dead], .ref 15 [(0, 1)]]), (15, .tup [.agg [.dead, .dead], .row .own 1 (keep.map eB)])]) (fun _ _ => True) (fun _ => _) () trivial (fun i _ hi _ => ⟨(), ?_, trivial⟩) (fun _ _ => ?_)
  · have hw := wrap_succ i (by omega)
    have hf := ok_flush h
    have hfl := okD_len hf
    have g1 := c_i_DiskGet (L := LL) (flushD d) i (by omega)
    have g2 := c_i_DiskGet (L := LL) d i (by omega)
    have g3 := c_i_Crash (flushD d) keep (by omega) (by omega)
    have g4 := c_i_Crash d (List.replicate d.pending.length true) (by omega) (by simp; omega)
    have g5 := c_i_Crash d [] (by omega) (by simp)
    have g6 := c_i_DiskGet (L := LL) ⟨d.cells, []⟩ i (by simp)
    rw [crash_flush h] at g3
    rw [crash_all h] at g4
    rw [crash_nil h] at g5
    rw [if_pos ⟨hf, by omega, by omega⟩, flush_get h i hi] at g1
    rw [if_pos ⟨h, by omega, by omega⟩] at g2
    rw [if_pos ⟨ok_cells h, by omega, by omega⟩] at g6
    obtain ⟨t, ht⟩ : ∃ t, getF d i = t := ⟨_, rfl⟩
    rw [ht] at g1 g2
    have hc : i < d.cells.length := by omega
    have g7 : getF ⟨d.cells, []⟩ i = d.cells[i] := by simp [getF, hc]
    rw [g7] at g6
    have hi2 : (i : Int) < 20 := by omega
    have m1 := mdLL_eB .bor (List.replicate d.pending.length true)
    simp at g1 g2 g3 g4 g5 g6 m1
    simp -implicitDefEqProofs [l_FnDisk_L1, l_FnDisk_L1b, hw, hi2, hc, g1, g2, g3, g4, g5, g6, m1]
  · simp -implicitDefEqProofs [l_FnDisk_L1, l_FnDisk_L1b]
theorem law_FnDisk (code : List UInt8) (k : code.length ≤ 9223372036854775807 ∧ ∀ b ∈ code, True) : ∃ ps, ev LL TT 9 [.row .sl 1 (code.map eU)] = some (.bool true, ps) := by
  rw [ev_run (b := l_FnDisk_b) (rs := [.t 2]) (n := 1) rfl rfl]
  have h1 := c_l_big code
  by_cases hbig : 1048576 < code.length
  · simp -implicitDefEqProofs [l_FnDisk_b, h1, hbig]
  obtain ⟨d, keep, hs, hk, ps, e1⟩ := x_s_DrawCrash code (by omega)
  have hb : d.pending.length ≤ 9223372036854775807 := by have := hs.2; omega
  have h2 := c_i_Crash d keep hb (by omega)
  have h3 := c_s_Crash d keep hb (by omega)
  have h4 := c_l_sameTexts (crashD d keep).cells (crashD d keep).cells (by have := (crashD_len d keep).1; omega)
  have h5 := c_i_DiskOk (L := LL) d hb
  have h6 := c_s_DiskOk (L := LL) d hb
  have h7 := c_i_Flush d hb
  simp at h2 h3 h4 h5 h6 h7 e1
  by_cases ho : okD d = true
  · simp -implicitDefEqProofs [l_FnDisk_b, h1, hbig, e1, h2, h3, h4, h5, h6, h7, ho]
    have hp : d.pending.length ≤ 100 := by have := hs.2; omega
    have h8 := L_l_FnDisk0 d keep (crashD d keep) (flushD d) hp
    obtain ⟨_, _, h9⟩ := L_l_FnDisk1 d keep (crashD d keep) ho hk
    have f1 := (crashD_len d keep).2
    have f2 := (flushD_len d).2
    simp at h8 h9
    simp [h8, h9, f1, f2]
  · have hc : (crashD d keep).cells = [] := by unfold crashD; rw [if_neg ho]
    rw [hc] at h2 h3 h4
    simp at h2 h3 h4
    simp -implicitDefEqProofs [l_FnDisk_b, h1, hbig, e1, h2, h3, h4, h5, h6, h7, ho]
end M
set_option linter.unusedVariables false
set_option linter.unusedSimpArgs false
namespace M
open Go
def textL : List Str := [[32], [44], [97], [90], [55], [45], [61], [120], [58], [1], [64], [91]]
theorem textL_one (k : Nat) (h : k < 12) : ∃ b, textL.getD k [] = [b] := by
  have : k = 0 ∨ k = 1 ∨ k = 2 ∨ k = 3 ∨ k = 4 ∨ k = 5 ∨ k = 6 ∨ k = 7 ∨ k = 8 ∨ k = 9 ∨ k = 10 ∨ k = 11 := by omega
  rcases this with rfl | rfl | rfl | rfl | rfl | rfl | rfl | rfl | rfl | rfl | rfl | rfl <;> exact ⟨_, rfl⟩
theorem x_s_l1DrawText (c : Cur) : ∃ (c' : Cur) (t : Str), t.length ≤ 100 ∧ ev LL TT 71 [.ptr .own (eCur c)] = some (.str ⟨t.toArray⟩, [.ptr .own (eCur c')]) := by
  obtain ⟨⟨⟨c', i⟩, out⟩, ⟨hs, hi⟩, e⟩ := loop_ms (f := evA (ev LL TT) (okT TT) s_l1DrawText_L0)
    (fun (g : (Cur × Nat) × Str) => [(0, .adr 100000 [] 0 0), (3, .row .own 1 (g.2.map eU)), (4, .int .i64 g.1.2), (100000, .ptr .own (eCur g.1.1))])
    (fun g => 200 - g.1.2) (fun g => g.2.length = g.1.2 ∧ g.1.2 ≤ 20)
    (fun g => [(0, .adr 100000 [] 0 0), (3, .row .own 1 (g.2.map eU)), (4, .int .i64 g.1.2), (9, .bool false), (100000, .ptr .own (eCur g.1.1))])
    (fun g hg => by
      obtain ⟨⟨c, i⟩, out⟩ := g
      obtain ⟨h1, h2⟩ := hg
      simp only at h1 h2
      have b := belowV_b c 14 (by omega) (by omega)
      have e1 := c_s_l1Below c 14 (by omega)
      obtain ⟨v, hv⟩ : ∃ v, belowV c 14 = v := ⟨_, rfl⟩
      rw [hv] at e1 b
      have e2 := c_s_l1Pick (belowN c 14) textL (by decide) (by decide)
      have b2 := belowV_b (belowN c 14) 12 (by omega) (by omega)
      obtain ⟨x, hx⟩ := textL_one (belowV (belowN c 14) 12).toNat (by omega)
      have e3 : (belowV (belowN c 14) textL.length) = belowV (belowN c 14) 12 := rfl
      have e4 : (belowN (belowN c 14) textL.length) = belowN (belowN c 14) 12 := rfl
      rw [e3, e4, hx] at e2
      simp [textL] at e2
      by_cases h : (i : Int) < v
      · right
        have hw := wrap_succ i (by omega)
        refine ⟨((belowN (belowN c 14) 12, i + 1), out ++ [x]), ⟨by simp [h1], by simp only; omega⟩, by simp only; omega, ?_⟩
        simp -implicitDefEqProofs [s_l1DrawText_L0, s_l1DrawText_L0b, e1, e2, h, hw, takeE, h1, (by omega : i + 1 ≤ 140737488355328)]
      · left
        refine ⟨((belowN c 14, i), out), ⟨h1, h2⟩, ?_⟩
        simp -implicitDefEqProofs [s_l1DrawText_L0, s_l1DrawText_L0b, e1, h])
    ((c, 0), []) ⟨rfl, by simp⟩
  refine ⟨c', out, by simp only at hs hi; omega, ?_⟩
  rw [ev_run (b := s_l1DrawText_b) (rs := [.t 2]) (n := 1) rfl rfl]
  have hu : u8s (out.map eU) = some out := u8s_map out
  simp only at hs hi
  simp at e
  simp -implicitDefEqProofs [s_l1DrawText_b, e, hu, (by omega : out.length ≤ 9223372036854775807)]
theorem x_s_DrawDiskPut (code : List UInt8) (hl : code.length ≤ 1048576) : ∃ (d : Dsk) (a : Int) (t : Str), small d ∧ t.length ≤ 100 ∧ ∃ ps, ev LL TT 37 [.row .sl 1 (code.map eU)] = some (.tup [.agg (eDsk .own d), .int .i64 a, .str ⟨t.toArray⟩], ps) := by
  obtain ⟨c, hc⟩ := x_s_l1New code hl
  have h := c_s_l12Draw c
  have hs := drawV_ok c
  have h2 := c_s_l1PickInt (drawN c) [0, 3, 19, 20, -1] (by decide) (by decide)
  obtain ⟨a, ha⟩ : ∃ a : Int, ([0, 3, 19, 20, -1] : List Int).getD (belowV (drawN c) ([0, 3, 19, 20, -1] : List Int).length).toNat 0 = a := ⟨_, rfl⟩
  rw [ha] at h2
  obtain ⟨c3, t, ht, h3⟩ := x_s_l1DrawText (belowN (drawN c) 5)
  refine ⟨drawV c, a, t, hs, ht, ?_⟩
  simp at h h2
  rw [ev_run (b := s_DrawDiskPut_b) (rs := [.c 2 2 true 29, .t 3, .t 4]) (n := 1) rfl rfl]
  simp -implicitDefEqProofs [s_DrawDiskPut_b, s_DrawDiskPut_d0, s_DrawDiskPut_d1, s_DrawDiskPut_d2, s_DrawDiskPut_d3, s_DrawDiskPut_d4, s_DrawDiskPut_d5, s_DrawDiskPut_d6, hc, h, h2, h3]
theorem x_s_DrawDiskGet (code : List UInt8) (hl : code.length ≤ 1048576) : ∃ (d : Dsk) (a : Int), small d ∧ ∃ ps, ev LL TT 40 [.row .sl 1 (code.map eU)] = some (.tup [.agg (eDsk .own d), .int .i64 a], ps) := by
  obtain ⟨c, hc⟩ := x_s_l1New code hl
  have h := c_s_l12Draw c
  have hs := drawV_ok c
  have h2 := c_s_l1Below (drawN c) 22 (by omega)
  have b := belowV_b (drawN c) 22 (by omega) (by omega)
  obtain ⟨v, hv⟩ : ∃ v, belowV (drawN c) 22 = v := ⟨_, rfl⟩
  rw [hv] at h2 b
  refine ⟨drawV c, IntKind.i64.wrap (v - 1), hs, ?_⟩
  simp at h
  rw [ev_run (b := s_DrawDiskGet_b) (rs := [.c 2 2 true 29, .t 3]) (n := 1) rfl rfl]
  simp -implicitDefEqProofs [s_DrawDiskGet_b, s_DrawDiskGet_d0, s_DrawDiskGet_d1, hc, h, h2]
theorem c_i_DiskNew  : ev LL TT 19 [] = some (.agg (eDsk .own ⟨List.replicate 20 [], []⟩), []) := by
  rw [ev_run (b := i_DiskNew_b) (rs := [.c 0 2 true 29]) (n := 0) rfl rfl]
  simp -implicitDefEqProofs [i_DiskNew_b]
theorem put_get {d : Dsk} {a : Int} {t : Str} (h : putB d a = true) (n : Nat) (hn : (n : Int) ≠ a) : getF (putD2 d a t) n = getF d n := by
  simp only [putB, Bool.and_eq_true, decide_eq_true_eq] at h
  unfold putD2
  rw [if_pos h.1, if_pos h.2]
  simp only [getF, List.foldl_append, List.foldl_cons, List.foldl_nil]
  rw [if_neg (fun e => hn e.symm)]
theorem put_got {d : Dsk} {a : Int} {t : Str} (h : putB d a = true) : getF (putD2 d a t) a = t := by
  simp only [putB, Bool.and_eq_true, decide_eq_true_eq] at h
  unfold putD2
  rw [if_pos h.1, if_pos h.2]
  simp [getF]
theorem L_l_FnDiskPut (d : Dsk) (a : Int) (t : Str) (h : putB d a = true) : ∃ u : Unit, True ∧ loopW (evA (ev LL TT) (okT TT) l_FnDiskPut_L0) [(3, .ptr .own (eDsk .own d)), (4, .int .i64 a), (5, .str ⟨t.toArray⟩), (6, .ptr .own (eDsk .own (putD2 d a t))), (13, .int .i64 0)] =
    some (.exit 0, [(3, .ptr .own (eDsk .own d)), (4, .int .i64 a), (5, .str ⟨t.toArray⟩), (6, .ptr .own (eDsk .own (putD2 d a t))), (13, .int .i64 20), (85, .bool false)]) := by
  have hd : okD d = true := by simp only [putB, Bool.and_eq_true] at h; exact h.1
  have hl := okD_len hd
  have he := ok_put t h
  have hel := okD_len he
  refine loop_ex (f := evA (ev LL TT) (okT TT) l_FnDiskPut_L0) 20 (fun i (_ : Unit) => [(3, .ptr .own (eDsk .own d)), (4, .int .i64 a), (5, .str ⟨t.toArray⟩), (6, .ptr .own (eDsk .own (putD2 d a t))), (13, .int .i64 i)]) (fun _ _ => True) (fun _ => _) () trivial (fun i _ hi _ => ⟨(), ?_, trivial⟩) (fun _ _ => ?_)
  · have hw := wrap_succ i (by omega)
    have g1 := c_i_DiskGet (L := LL) (putD2 d a t) i (by omega)
    have g2 := c_i_DiskGet (L := LL) d i (by omega)
    rw [if_pos ⟨he, by omega, by omega⟩] at g1
    rw [if_pos ⟨hd, by omega, by omega⟩] at g2
    have hi2 : (i : Int) < 20 := by omega
    by_cases hn : (i : Int) = a
    · subst hn
      simp -implicitDefEqProofs [l_FnDiskPut_L0, l_FnDiskPut_L0b, hw, hi2]
    · rw [put_get h i hn] at g1
      simp at g1 g2
      simp -implicitDefEqProofs [l_FnDiskPut_L0, l_FnDiskPut_L0b, hw, hi2, hn, g1, g2]
  · simp -implicitDefEqProofs [l_FnDiskPut_L0, l_FnDiskPut_L0b]
theorem law_FnDiskPut (code : List UInt8) (k : code.length ≤ 9223372036854775807 ∧ ∀ b ∈ code, True) : ∃ ps, ev LL TT 10 [.row .sl 1 (code.map eU)] = some (.bool true, ps) := by
  rw [ev_run (b := l_FnDiskPut_b) (rs := [.t 2]) (n := 1) rfl rfl]
  have h1 := c_l_big code
  by_cases hbig : 1048576 < code.length
  · simp -implicitDefEqProofs [l_FnDiskPut_b, h1, hbig]
  obtain ⟨d, a, t, hs, ht, ps, e1⟩ := x_s_DrawDiskPut code (by omega)
  obtain ⟨d2, a2, hs2, ps2, e2⟩ := x_s_DrawDiskGet code (by omega)
  obtain ⟨d3, hs3, ps3, e3⟩ := x_s_DrawFlush code (by omega)
  have hb : d.pending.length ≤ 9223372036854775807 := by have := hs.2; omega
  have hb2 : d2.pending.length ≤ 9223372036854775807 := by have := hs2.2; omega
  have hb3 : d3.pending.length ≤ 9223372036854775807 := by have := hs3.2; omega
  have h2 := c_i_DiskPut d a t hb
  have h3 := c_s_DiskPut d a t hb
  have h4 := c_i_DiskGet (L := LL) d2 a2 hb2
  have h5 := c_s_DiskGet (L := LL) d2 a2 hb2
  have h6 := c_i_Flush d3 hb3
  have h7 := c_s_Flush d3 hb3
  have h8 := c_l_sameTexts (flushD d3).cells (flushD d3).cells (by have := (flushD_len d3).1; omega)
  have h9 := c_i_DiskNew
  obtain ⟨s2, hs2'⟩ : ∃ s, (if okD d2 = true ∧ 0 ≤ a2 ∧ a2 ≤ 19 then getF d2 a2 else []) = s := ⟨_, rfl⟩
  rw [hs2'] at h4 h5
  simp at e1 e2 e3 h2 h3 h4 h5 h6 h7 h8 h9
  cases hp : putB d a with
  | false =>
    rw [hp] at h2 h3
    have hq : (putD2 d a t).cells.length = 0 ∨ (putD2 d a t).pending.length = d.pending.length := by
      unfold putD2
      by_cases ho : okD d = true
      · rw [if_pos ho, if_neg]
        · exact .inr rfl
        · intro hh
          simp [putB, ho] at hp
          have := hp hh.1 hh.2.1
          omega
      · rw [if_neg ho]; exact .inl rfl
    simp -implicitDefEqProofs [l_FnDiskPut_b, h1, hbig, e1, e2, e3, h2, h3, h4, h5, h6, h7, h8, h9]
    rcases hq with hq | hq
    · have hz : (putD2 d a t).cells = [] := List.length_eq_zero_iff.1 hq
      simp [hz]
    · by_cases hz : (putD2 d a t).cells = [] <;> simp [hq, hz]
  | true =>
    rw [hp] at h2 h3
    obtain ⟨_, _, h10⟩ := L_l_FnDiskPut d a t hp
    have hpp := hp
    simp only [putB, Bool.and_eq_true, decide_eq_true_eq] at hpp
    have he := ok_put t hp
    have g1 := c_i_DiskGet (L := LL) (putD2 d a t) a (by have := (putD2_len d a t).2; omega)
    rw [if_pos ⟨he, hpp.2.1, hpp.2.2.1⟩, put_got hp] at g1
    have g2 := c_i_DiskOk (L := LL) (putD2 d a t) (by have := (putD2_len d a t).2; omega)
    rw [he] at g2
    simp at h10 g1 g2
    simp -implicitDefEqProofs [l_FnDiskPut_b, h1, hbig, e1, e2, e3, h2, h3, h4, h5, h6, h7, h8, h9, h10, g1, g2]
end M
