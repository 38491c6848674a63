/- A machine of values for loaded Go functions, sound for the calculus of calls; part 2; no conditions. -/
import Derived.Test.YtcpbpjanigljcaaGreatDoorMa
import Derived.Laws.IdiomStrings
import Derived.Laws.Entries
import Derived.Laws.OwnMore
import Derived.Great.BuildSlice
import Derived.Laws.IdiomCopy
import Derived.Lib.SliceRun
set_option linter.unusedSectionVars false
set_option linter.unusedVariables false
set_option linter.unusedSimpArgs false
namespace M
open Go Go.RowKit
variable [Bs]
section
variable {P : Program} {c : Ctx} {G : Nat → C} {zl : Nat → Nat → Prop} {s : Slots} {a : Act} {w : World} {o : Oper} {K : Slots → Prop}

theorem agg_at {n : Nat} {f : Nat → C} {j : Nat} (hj : j < n) : ((List.range n).map fun j => (f j).val).toArray[j]? = some (f j).val := by
  rw [List.getElem?_toArray, C.map_range_get?, if_pos hj]
/-- Cells out of a struct. -/
theorem agg_part {zb : Nat → Nat → Prop} {n : Nat} {f : Nat → C} (hy : Opd w zl zb G (.agg n f)) {off sz : Nat} (h : off + sz ≤ n) : Opd w zl zb G (.agg sz fun j => f (j + off)) where
  ok := ⟨fun j hj => hy.ok.1 (j + off) (by omega), fun j hj b k hf j' hj' hne => hy.ok.2 (j + off) (by omega) b k hf (j' + off) (by omega) (by omega)⟩
  rf := fun j hj => hy.rf (j + off) (by omega)
  nofp := fun b k ⟨j, hj, hf⟩ => hy.nofp b k ⟨j + off, by omega, hf⟩
theorem agg_one {zb : Nat → Nat → Prop} {n : Nat} {f : Nat → C} (hy : Opd w zl zb G (.agg n f)) {j : Nat} (h : j < n) : Opd w zl zb G (f j) where
  ok := (hy.ok.1 j h).2
  rf := hy.rf j h
  nofp := fun b k hf => hy.nofp b k ⟨j, h, hf⟩
theorem agg_part_er (n : Nat) (f : Nat → C) {off sz : Nat} (h : off + sz ≤ n) : (C.agg sz fun j => f (j + off)).er = .agg ((((List.range n).map fun j => (f j).er).drop off).take sz) := by
  simp only [C.er, ← List.map_drop, range_drop, ← List.map_take, List.take_range]
  rw [Nat.min_eq_left (by omega), List.map_map]
  rfl
theorem agg_part_val (n : Nat) (f : Nat → C) {off sz : Nat} (h : off + sz ≤ n) : (C.agg sz fun j => f (j + off)).val = .agg (((List.range n).map fun j => (f j).val).toArray.extract off (off + sz)) := by
  simp only [C.val]
  congr 1
  apply Array.ext_getElem?
  intro i
  rw [List.getElem?_toArray, C.map_range_get?, Array.getElem?_extract]
  by_cases hi : i < sz
  · have h1 : i < min (off + sz) ((List.range n).map fun j => (f j).val).toArray.size - off := by simp; omega
    rw [if_pos hi, if_pos h1, List.getElem?_toArray, C.map_range_get?, if_pos (by omega), Nat.add_comm]
  · have h1 : ¬ i < min (off + sz) ((List.range n).map fun j => (f j).val).toArray.size - off := by simp; omega
    rw [if_neg hi, if_neg h1]
theorem headD_drop (n : Nat) (f : Nat → C) {off : Nat} (h : off < n) : (((List.range n).map fun j => (f j).er).drop off).headD .dead = (f off).er := by
  rw [List.headD_eq_head?_getD, List.head?_drop, C.map_range_get?, if_pos h]
  rfl
/-- A part of a struct, or of an array. -/
theorem run_part {n : Nat} {f : Nat → C} {off sz : Nat} {agg : Bool} {ty : TypeId} (h : off + sz ≤ n) (h1 : agg = true ∨ sz = 1) (hsz : ∃ i, P.info? ty = some i ∧ i.size = sz) (hagg : ∃ dd, P.underlying ty = some dd ∧ (match dd with | .struct _ => true | .array _ _ => true | _ => false) = agg) :
    (part ty ((List.range n).map fun j => (f j).val).toArray off).run P w = .ok (bif agg then (C.agg sz fun j => f (j + off)) else f off).val w := by
  obtain ⟨i, hi, hisz⟩ := hsz
  obtain ⟨dd, hdd, hda⟩ := hagg
  have hrunA : (isAgg ty).run P w = .ok agg w := by
    subst hda
    simp only [isAgg, Sem.run_bind, run_underlying hdd, Result.andThen_ok]
    cases dd <;> rfl
  have hsize : (Go.sizeOf ty).run P w = .ok sz w := by simp [Go.sizeOf, typeInfo, hi, hisz]
  unfold part
  simp only [Sem.run_bind, hrunA, Result.andThen_ok]
  cases agg with
  | true => simp only [if_true, Sem.run_bind, hsize, Result.andThen_ok, Sem.run_pure, cond_true, agg_part_val n f h]
  | false =>
    have hs1 : sz = 1 := h1.resolve_left (by simp)
    simp only [Bool.false_eq_true, if_false, agg_at (f := f) (show off < n by omega), Sem.run_pure, cond_false]
theorem good_part (h : St c G zl s a w) {n : Nat} {f : Nat → C} {off sz : Nat} {agg : Bool} (hy : Opd w zl c.zb G (.agg n f)) (hb : off + sz ≤ n) (h1 : agg = true ∨ sz = 1) {d : Nat} (hd : o.dst = some d) (hn : d < c.nt)
    (hrun : ∀ w', Ext (fun _ _ => False) w w' → (execOp a.eval o).run P w' = .ok (.value (bif agg then (C.agg sz fun j => f (j + off)) else f off).val) w')
    (hK : K (put d (bif agg then .agg ((((List.range n).map fun j => (f j).er).drop off).take sz) else (((List.range n).map fun j => (f j).er).drop off).headD .dead) s)) : GoodR P c o a w K := by
  cases agg with
  | true => exact good_opd h hd hn (agg_part hy hb) hrun (by rw [agg_part_er n f hb]; exact hK)
  | false =>
    have hs1 : sz = 1 := h1.resolve_left (by simp)
    exact good_opd h hd hn (agg_one hy (by omega)) hrun (by rw [← headD_drop n f (by omega)]; exact hK)

theorem op_fld (h : St c G zl s a w) {d off sz fi : Nat} {agg : Bool} {ty : TypeId} {fs : Array Field} {f : Field} {x : AV} {x' : Operand} (ho : o.op = .field ty x' fi) (hu : P.underlying ty = some (.struct fs)) (hf : fs[fi]? = some f) (hfo : f.offset = off)
    (hsz : ∃ i, P.info? f.type = some i ∧ i.size = sz) (hagg : ∃ dd, P.underlying f.type = some dd ∧ (match dd with | .struct _ => true | .array _ _ => true | _ => false) = agg)
    (h1 : agg = true ∨ sz = 1) (hd : o.dst = some d) (hn : d < c.nt) (hx : chkV x' x = true) (hK : awpOp P (.fld d x off sz agg) s K) : GoodR P c o a w K := by
  obtain ⟨y, e1, e2, e3⟩ := av_ok h hx
  subst hfo
  simp only [awpOp] at hK
  rw [← e1] at hK
  cases y with
  | agg n g =>
    simp only [C.er] at hK
    obtain ⟨hb, hK⟩ := hK
    have hb : f.offset + sz ≤ n := by simpa using hb
    refine good_part h e3 hb h1 hd hn (fun w' _ => ?_) hK
    simp only [execOp, ho, ← e2, C.val, Instr.field, Sem.run_bind, run_underlying hu, Result.andThen_ok, hf, asAgg, Sem.run_pure, run_part hb h1 hsz hagg]
  | _ => exact hK.elim

theorem op_aidx (h : St c G zl s a w) {d n sz : Nat} {agg : Bool} {ty el : TypeId} {x y : AV} {x' y' : Operand} (ho : o.op = .index ty x' y') (hu : P.underlying ty = some (.array n el))
    (hsz : ∃ i, P.info? el = some i ∧ i.size = sz) (hagg : ∃ dd, P.underlying el = some dd ∧ (match dd with | .struct _ => true | .array _ _ => true | _ => false) = agg)
    (h1 : agg = true ∨ sz = 1) (hd : o.dst = some d) (hn : d < c.nt) (hx : chkV x' x = true) (hy : chkV y' y = true) (hK : awpOp P (.aidx d n sz agg x y) s K) : GoodR P c o a w K := by
  obtain ⟨p, p1, p2, p3⟩ := av_ok h hx
  obtain ⟨q, q1, q2, q3⟩ := av_ok h hy
  simp only [awpOp] at hK
  rw [← p1] at hK
  cases p with
  | agg m g =>
    simp only [C.er] at hK
    split at hK
    · rename_i k j h2 h3
      injection h2 with h2
      subst h2
      rw [← q1] at h3
      have := er_int h3
      subst this
      obtain ⟨k1, k2, k3, hK⟩ := hK
      have k3 : m = n * sz := by simpa using k3
      have hb : j.toNat * sz + sz ≤ m := by
        rw [k3]
        have : (j.toNat + 1) * sz ≤ n * sz := Nat.mul_le_mul_right _ (by omega)
        rw [Nat.add_mul] at this
        omega
      obtain ⟨i, hi, hisz⟩ := hsz
      refine good_part h p3 hb h1 hd hn (fun w' _ => ?_) hK
      have hrp := run_part (P := P) (w := w') (f := g) hb h1 ⟨i, hi, hisz⟩ hagg
      have hbd : 0 ≤ j ∧ j < (n : Int) := ⟨k1, k2⟩
      have hsize : (Go.sizeOf el).run P w' = .ok sz w' := by simp [Go.sizeOf, typeInfo, hi, hisz]
      simp only [execOp, ho, ← p2, ← q2, C.val, Instr.index, asIntOf, Sem.run_bind, run_underlying hu, Result.andThen_ok, Sem.run_pure, if_pos hbd, hsize, hrp]
    · exact hK.elim
  | _ => simp only [C.er] at hK

theorem op_mn (h : St c G zl s a w) {d : Nat} {ts : Array TypeId} {x y : AV} {x' y' : Operand} (ho : o.op = .call { callee := .builtin .min, args := #[x', y'], argTypes := ts }) (hd : o.dst = some d) (hn : d < c.nt) (hx : chkV x' x = true) (hy : chkV y' y = true)
    (hK : awpOp P (.mn d [x, y]) s K) : GoodR P c o a w K := by
  obtain ⟨p, p1, p2, p3⟩ := av_ok h hx
  obtain ⟨q, q1, q2, q3⟩ := av_ok h hy
  simp only [awpOp, List.map_cons, List.map_nil] at hK
  rw [← p1, ← q1] at hK
  split at hK
  · rename_i k m k' n he
    simp only [List.cons.injEq, and_true] at he
    have e1 := er_int he.1
    have e2 := er_int he.2
    subst e1; subst e2
    obtain ⟨rfl, hK⟩ := hK
    refine good_flat h hd hn (x := .int k (if n < m then n else m)) trivial (fun _ _ _ _ _ _ e => (by cases e)) trivial (fun w' _ => ?_) hK
    simp [execOp, ho, resolve, invoke, builtin, ← p2, ← q2, C.val, Builtin.min_, Builtin.min2]
  · exact hK.elim
theorem op_mx (h : St c G zl s a w) {d : Nat} {ts : Array TypeId} {x y : AV} {x' y' : Operand} (ho : o.op = .call { callee := .builtin .max, args := #[x', y'], argTypes := ts }) (hd : o.dst = some d) (hn : d < c.nt) (hx : chkV x' x = true) (hy : chkV y' y = true)
    (hK : awpOp P (.mx d [x, y]) s K) : GoodR P c o a w K := by
  obtain ⟨p, p1, p2, p3⟩ := av_ok h hx
  obtain ⟨q, q1, q2, q3⟩ := av_ok h hy
  simp only [awpOp, List.map_cons, List.map_nil] at hK
  rw [← p1, ← q1] at hK
  split at hK
  · rename_i k m k' n he
    simp only [List.cons.injEq, and_true] at he
    have e1 := er_int he.1
    have e2 := er_int he.2
    subst e1; subst e2
    obtain ⟨rfl, hK⟩ := hK
    refine good_flat h hd hn (x := .int k (if n > m then n else m)) trivial (fun _ _ _ _ _ _ e => (by cases e)) trivial (fun w' _ => ?_) hK
    simp [execOp, ho, resolve, invoke, builtin, ← p2, ← q2, C.val, Builtin.max_, Builtin.max2]
  · exact hK.elim

def chkO : Option Operand → Option AV → Bool
  | none, none => true
  | some x', some x => chkV x' x
  | _, _ => false
/-- A bound of a slice. -/
theorem bound_ok (h : St c G zl s a w) {lo' : Option Operand} {lo : Option AV} (hc : chkO lo' lo = true) (d : Nat) (h0 : 0 ≤ asNat s lo d) :
    (lo'.map a.eval = none ∧ asNat s lo d = d) ∨ ∃ k, lo'.map a.eval = some (.int k (asNat s lo d)) := by
  cases lo' with
  | none =>
    cases lo with
    | none => exact .inl ⟨rfl, rfl⟩
    | some x => cases hc
  | some x' =>
    cases lo with
    | none => cases hc
    | some x =>
      obtain ⟨p, p1, p2, p3⟩ := av_ok h hc
      simp only [asNat] at h0 ⊢
      rw [← p1] at h0 ⊢
      cases p <;> simp [C.er] at h0
      · exact .inr ⟨_, by simp only [Option.map_some, ← p2]; rfl⟩
theorem run_sliceBound {k : IntKind} {i : Int} {y : Nat} {code : BoundsCode} (h : 0 ≤ i ∧ i ≤ y) : (Instr.sliceBound (.int k i) y code).run P w = .ok i.toNat w := by
  simp [Instr.sliceBound, asIntOf, h]
/-- Both bounds. -/
theorem run_bounds {w' : World} (h : St c G zl s a w) {lo' hi' : Option Operand} {lo hi : Option AV} (h1 : chkO lo' lo = true) (h2 : chkO hi' hi = true) {isS : Bool} {len cap : Nat} (hlc : len ≤ cap)
    (k1 : 0 ≤ asNat s lo 0) (k2 : asNat s lo 0 ≤ asNat s hi len) (k3 : asNat s hi len ≤ len) :
    (Instr.sliceBounds isS len cap (lo'.map a.eval) (hi'.map a.eval) none).run P w' = .ok ((asNat s lo 0).toNat, (asNat s hi len).toNat, cap) w' := by
  have B : ∀ {k : IntKind} {i : Int} {y : Nat} {code : BoundsCode}, 0 ≤ i ∧ i ≤ y → (Instr.sliceBound (.int k i) y code).run P w' = .ok i.toNat w' := run_sliceBound
  unfold Instr.sliceBounds
  rcases bound_ok h h2 len (by omega) with ⟨e1, e2⟩ | ⟨k, e1⟩
  · rw [e2] at k2 ⊢
    rcases bound_ok h h1 0 k1 with ⟨e3, e4⟩ | ⟨k', e3⟩
    · rw [e1, e3, e4]
      simp
    · rw [e1, e3]
      simp only [Sem.run_bind, Sem.run_pure, Result.andThen_ok, B (And.intro k1 k2)]
      simp
  · rcases bound_ok h h1 0 k1 with ⟨e3, e4⟩ | ⟨k', e3⟩
    · rw [e1, e3, e4]
      simp only [Sem.run_bind, Sem.run_pure, Result.andThen_ok, B (show 0 ≤ asNat s hi len ∧ asNat s hi len ≤ (cap : Int) by omega)]
      simp
    · rw [e1, e3]
      have hle : asNat s lo 0 ≤ ((asNat s hi len).toNat : Int) := by omega
      simp only [Sem.run_bind, Sem.run_pure, Result.andThen_ok, B (show 0 ≤ asNat s hi len ∧ asNat s hi len ≤ (cap : Int) by omega), B (And.intro k1 hle)]

theorem op_sslice (h : St c G zl s a w) {d : Nat} {ty : TypeId} {x : AV} {x' : Operand} {lo' hi' : Option Operand} {lo hi : Option AV} (ho : o.op = .slice ty x' lo' hi' none) (hu : P.underlying ty = some .string) (hd : o.dst = some d) (hn : d < c.nt) (hx : chkV x' x = true)
    (h1 : chkO lo' lo = true) (h2 : chkO hi' hi = true) (hK : awpOp P (.sslice d x lo hi) s K) : GoodR P c o a w K := by
  obtain ⟨y, e1, e2, e3⟩ := av_ok h hx
  simp only [awpOp] at hK
  split at hK
  · rename_i t ht
    rw [← e1] at ht
    have := er_str ht
    subst this
    obtain ⟨k1, k2, k3, k4⟩ := hK
    refine good_flat h hd hn (x := .str _) trivial (fun _ _ _ _ _ _ e => (by cases e)) ?_ (fun w' _ => ?_) k4
    · have : t.size ≤ 9223372036854775807 := e3.ok
      show (t.extract _ _).size ≤ _
      rw [ByteArray.size_extract]
      omega
    · simp only [execOp, ho, ← e2, C.val, Instr.sliceAt, Instr.slice, Sem.run_bind, run_underlying hu, Result.andThen_ok, Option.map_none, Option.isSome_none, Bool.false_eq_true, if_false, Sem.run_pure, run_bounds h h1 h2 (Nat.le_refl t.size) k1 k2 k3]
  · exact hK.elim

theorem op_rslice (h : St c G zl s a w) {d sz : Nat} {ty el : TypeId} {x : AV} {x' : Operand} {lo' hi' : Option Operand} {lo hi : Option AV} (ho : o.op = .slice ty x' lo' hi' none) (hu : P.underlying ty = some (.slice el)) (hsz : ∃ i, P.info? el = some i ∧ i.size = sz) (hd : o.dst = some d) (hn : d < c.nt) (hx : chkV x' x = true)
    (h1 : chkO lo' lo = true) (h2 : chkO hi' hi = true) (hK : awpOp P (.rslice d sz x lo hi) s K) : GoodR P c o a w K := by
  obtain ⟨y, e1, e2, e3⟩ := av_ok h hx
  obtain ⟨xs, k0, k1, k2, k3, hK⟩ := hK
  rw [← e1] at k0 hK
  obtain ⟨ii, hii, hisz⟩ := hsz
  have hsize : ∀ w : World, (Go.sizeOf el).run P w = .ok sz w := by intro w; simp [Go.sizeOf, typeInfo, hii, hisz]
  have hrun : ∀ (A : Option Ad) (cap : Nat), y.val = .slice (A.map fun q => ⟨q.1, q.2.1, q.2.2⟩) xs.length cap → xs.length ≤ cap → ∃ A' cap', (∀ w', Ext (fun _ _ => False) w w' → (execOp a.eval o).run P w' = .ok (.value (.slice (Option.map (fun q : Ad => (⟨q.1, q.2.1, q.2.2⟩ : Addr)) A') (((asNat s hi xs.length).toNat - (asNat s lo 0).toNat)) cap')) w') ∧
      cap' = cap - (asNat s lo 0).toNat ∧ (A = none → A' = none) ∧ ((asNat s lo 0).toNat < cap → A' = A.map fun q => adv ((asNat s lo 0).toNat * sz) q) ∧ ((A' = A ∧ cap' = 0) ∨ A' = A.map fun q => adv ((asNat s lo 0).toNat * sz) q) := by
    intro A cap hv hcap
    refine ⟨if cap = (asNat s lo 0).toNat then A else A.map fun q => adv ((asNat s lo 0).toNat * sz) q, cap - (asNat s lo 0).toNat, fun w' _ => ?_, rfl, fun hA => by subst hA; split <;> rfl, fun hlt => if_neg (by omega), ?_⟩
    rotate_left
    · by_cases hh : cap = (asNat s lo 0).toNat
      · exact .inl ⟨if_pos hh, by omega⟩
      · exact .inr (if_neg hh)
    have hb := run_bounds (P := P) (w' := w') h h1 h2 (isS := true) hcap k1 k2 k3
    simp only [execOp, ho, ← e2, hv, Instr.sliceAt, Instr.slice, Sem.run_bind, run_underlying hu, Result.andThen_ok, Option.map_none, hb, hsize, Sem.run_pure]
    congr 3
    split
    · rfl
    · cases A with
      | none => rfl
      | some q => simp [adv_adr]
  cases y with
  | row m z A len cap e =>
    simp only [C.er, rowAt, Option.some.injEq, Prod.mk.injEq] at k0
    obtain ⟨rfl, rfl⟩ := k0
    have hlen : ((List.range len).map fun i => (List.range z).map fun j => (e i j).er).length = len := by simp
    rw [hlen] at hrun k2 k3 hK
    obtain ⟨o1, o2, o3, o4, o5⟩ := e3.ok
    obtain ⟨A', cap', r1, r2, r3, r4, -⟩ := hrun A cap rfl o1
    obtain ⟨L, hL⟩ : ∃ L, L = (asNat s lo 0).toNat := ⟨_, rfl⟩
    obtain ⟨H, hH⟩ : ∃ H, H = (asNat s hi len).toNat := ⟨_, rfl⟩
    rw [← hL, ← hH] at r1 hK
    rw [← hL] at r2 r4
    have hLH : L ≤ H := by omega
    have hHl : H ≤ len := by omega
    have hA' : L < H → A' = A.map fun q => adv (L * z) q := fun hlt => r4 (by omega)
    refine good_opd h hd hn (x := .row m z A' (H - L) cap' fun i j => e (i + L) j) ⟨⟨by omega, fun i j hi hj => ?_, fun i j hi hj => o3 (i + L) j (by omega) hj, fun hm => ?_, fun i j hi hj b k hf => ?_⟩, trivial, fun b k hf => ?_⟩ r1 ?_
    · obtain ⟨g, o', q1, q2, q3⟩ := o2 (i + L) j (by omega) hj
      refine ⟨g, o' + L * z, by rw [hA' (by omega), q1, Option.map_some, adv_none], ?_, fun hm => ?_⟩
      · rw [show o' + L * z + i * z + j = o' + (i + L) * z + j by rw [Nat.add_mul]; omega]; exact q2
      · rw [show o' + L * z + i * z + j = o' + (i + L) * z + j by rw [Nat.add_mul]; omega]; exact q3 hm
    · rcases o4 hm with ⟨q1, q2⟩ | ⟨g, o', arr, t, fz, q1, _⟩
      · exact .inl ⟨r3 q1, by omega⟩
      · exact (e3.nofp g 0 ⟨hm, .inl ⟨_, q1⟩⟩).elim
    · exact (e3.nofp b k (C.in_row (o3 (i + L) j (by omega) hj).1 (o3 (i + L) j (by omega) hj).2.2.1 (by omega) hj hf)).elim
    · obtain ⟨hm, ⟨o', hA⟩ | ⟨i, j, hi, hj, hf⟩⟩ := hf
      · rcases o4 hm with ⟨q1, _⟩ | ⟨g, o2', _, _, _, q1, _⟩
        · rw [r3 q1] at hA; cases hA
        · exact e3.nofp g 0 ⟨hm, .inl ⟨_, q1⟩⟩
      · exact e3.nofp b k (C.in_row (o3 (i + L) j (by omega) hj).1 (o3 (i + L) j (by omega) hj).2.2.1 (by omega) hj hf)
    · have hX : (C.row m z A' (H - L) cap' fun i j => e (i + L) j).er = .row m z ((((List.range len).map fun i => (List.range z).map fun j => (e i j).er).take H).drop L) := by
        simp only [C.er, ← List.map_take, ← List.map_drop, List.take_range]
        rw [Nat.min_eq_left hHl, range_drop, List.map_map]
        rfl
      rw [hX]
      exact hK
  | ref v r p =>
    obtain ⟨y', z', hs, hF, hv, m, sz', A, len, cap, e, rfl⟩ := e3.rf
    cases hF with
    | row m m' sz' A len cap e e' =>
      simp only [C.er, rowAt, look] at k0
      rw [← h.inv.er, C.sub_er, hs] at k0
      simp only [Option.map_some, C.er, Option.some.injEq, Prod.mk.injEq] at k0
      obtain ⟨rfl, rfl⟩ := k0
      have hlen : ((List.range len).map fun i => (List.range sz').map fun j => (e' i j).er).length = len := by simp
      rw [hlen] at hrun k2 k3 hK
      obtain ⟨o1, o2, o3, o4, o5⟩ := C.sub_ok p hs (h.inv.ok r)
      obtain ⟨A', cap', r1, r2, r3, r4, r5⟩ := hrun A cap hv.symm o1
      refine good_opd h hd hn (x := .cut _ r p (asNat s lo 0).toNat (asNat s hi len).toNat) ⟨trivial, ⟨m', _, A, len, cap, e', A', cap', hs, rfl, by omega, by omega, by omega, fun hlt => r4 (by omega), by omega, r5⟩, fun _ _ hh => hh⟩ r1 hK
  | _ => exact hK.elim

def chkL : List Operand → List AV → Bool
  | [], [] => true
  | x' :: l', x :: l => chkV x' x && chkL l' l
  | _, _ => false
theorem opds_ok (h : St c G zl s a w) : ∀ {l' : List Operand} {l : List AV}, chkL l' l = true → ∃ cs : List C, cs.map C.er = l.map (opv s) ∧ cs.map C.val = l'.map a.eval ∧ ∀ x ∈ cs, Opd w zl c.zb G x
  | [], [], _ => ⟨[], rfl, rfl, fun _ hx => (by cases hx)⟩
  | x' :: l', x :: l, hc => by
    simp only [chkL, Bool.and_eq_true] at hc
    obtain ⟨cs, l1, l2, l3⟩ := opds_ok h hc.2
    obtain ⟨p, p1, p2, p3⟩ := av_ok h hc.1
    refine ⟨p :: cs, by simp [p1, l1], by simp [p2, l2], fun x hx => ?_⟩
    rcases List.mem_cons.1 hx with rfl | hx
    · exact p3
    · exact l3 x hx
  | [], _ :: _, hc => by cases hc
  | _ :: _, [], hc => by cases hc
theorem op_mkfn (h : St c G zl s a w) {d : Nat} {f : FuncId} {cs : List AV} {cs' : Array Operand} (ho : o.op = .makeFunc (.func f) #[] cs') (hd : o.dst = some d) (hn : d < c.nt) (hx : chkL cs'.toList cs = true)
    (hK : awpOp P (.mkfn d f cs) s K) : GoodR P c o a w K := by
  obtain ⟨l, l1, l2, l3⟩ := opds_ok h hx
  refine good_opd h hd hn (x := .fn f l.length fun j => l.getD j (.dead undef)) ⟨fun j hj => ⟨(l3 _ (getD_mem hj _)).ok, (l3 _ (getD_mem hj _)).nofp⟩, fun j hj => (l3 _ (getD_mem hj _)).rf, fun _ _ hh => hh⟩ (fun w' _ => ?_) ?_
  · have : (C.fn f l.length fun j => l.getD j (.dead undef)).val = .func (.func f) #[] (l.map C.val).toArray := by
      show Value.func _ _ _ = _
      rw [range_getD l _ C.val]
    rw [this, l2]
    have hm : (cs'.toList.map a.eval).toArray = cs'.map a.eval := by
      rw [← Array.toList_map, Array.toArray_toList]
    rw [hm]
    simp [execOp, ho, Instr.makeFunc]
  · have : (C.fn f l.length fun j => l.getD j (.dead undef)).er = .fn f (l.map C.er) := by
      show X.fn _ _ = _
      rw [range_getD l _ C.er]
    rw [this, l1]
    exact hK

theorem op_text (h : St c G zl s a w) {d : Nat} {src dst el : TypeId} {x : AV} {x' : Operand} (ho : o.op = .convert src dst x') (hs : P.underlying src = some (.slice el)) (he : P.underlying el = some (.int .u8)) (hdt : P.underlying dst = some .string) (hd : o.dst = some d) (hn : d < c.nt) (hx : chkV x' x = true)
    (hK : awpOp P (.text d x) s K) : GoodR P c o a w K := by
  obtain ⟨y, e1, e2, e3⟩ := av_ok h hx
  obtain ⟨xs, k1, k2, l, k3, hK⟩ := hK
  rw [← e1] at k1
  obtain ⟨A, len, cap, e, hxs, hv⟩ := row_of h.inv e3 k1
  have hlen : len = l.length := by
    have := congrArg List.length (hxs.symm.trans k3)
    simpa [rowX] using this
  subst hlen
  have hcell : ∀ j (hj : j < l.length), (e j 0).val = .int .u8 (l[j].toNat : Int) := by
    intro j hj
    have := congrArg (fun t : List (List X) => t[j]?) (hxs.symm.trans k3)
    simp only [rowX] at this
    rw [C.map_range_get?, if_pos hj, List.getElem?_map, List.getElem?_eq_getElem hj] at this
    simp only [Option.map_some, Option.some.injEq] at this
    have hz : (e j 0).er = .int .u8 (l[j].toNat : Int) := by
      have h2 := congrArg (fun t : List X => t[0]?) this
      simpa using h2
    rw [er_int hz]
    rfl
  refine good_flat h hd hn (x := .str ⟨l.toArray⟩) trivial (fun _ _ _ _ _ _ e => (by cases e)) ?_ (fun w' hE => ?_) hK
  · show (⟨l.toArray⟩ : ByteArray).size ≤ _
    rw [k3] at k2
    simpa [ByteArray.size] using k2
  · cases hA : A with
    | none =>
      have hl0 : l = [] := by
        cases hl : l with
        | nil => rfl
        | cons b t =>
          obtain ⟨g, o', hg, _⟩ := hv.cell 0 0 (by rw [hl]; simp) (by omega)
          rw [hA] at hg; cases hg
      subst hl0
      have hv' := hv.val
      rw [hA] at hv'
      simp only [Option.map_none] at hv'
      simp [execOp, ho, ← e2, hv', convert, run_underlying hs, run_underlying he, run_underlying hdt, Conv.bytesToString, C.val]
      rfl
    | some q =>
      have hv' := hv.val
      rw [hA] at hv'
      simp only [Option.map_some] at hv'
      have := run_convert_bytes_back (P := P) w' src dst el ⟨q.1, q.2.1, q.2.2⟩ cap l hs he hdt (fun j hj => by
        obtain ⟨g, o', hg, hcl⟩ := hv.cell j 0 hj (by omega)
        rw [hA] at hg
        injection hg with hg
        subst hg
        rw [add_at, ← hcell j hj]
        exact hE.cell (fun hs => hs) (by simpa using hcl))
      simp [execOp, ho, ← e2, hv', this, C.val]
end
end M
set_option linter.unusedVariables false
set_option linter.unusedSimpArgs false
namespace M
open Go Go.RowKit
variable [Bs]
variable {w w' : World} {zl zb : Nat → Nat → Prop} {G G1 : Nat → C} {s s1 : Slots} {Z : Md → Nat → Nat → Prop}

theorem getD_of {α : Type} {l : List α} {i : Nat} {x : α} (h : l[i]? = some x) (d : α) : l.getD i d = x := by rw [List.getD_eq_getElem?_getD, h]; rfl
theorem C.fits_any (c : C) : c.fits .own := by cases c <;> first | trivial | exact .inl rfl
theorem flatten_at {α : Type} {sz : Nat} : ∀ {L : List (List α)} (h : ∀ e ∈ L, e.length = sz) (i j : Nat) (hi : i < L.length) (hj : j < sz), L.flatten[i * sz + j]? = (L[i]?).bind (·[j]?)
  | [], h, i, j, hi, hj => by simp at hi
  | e :: L, h, 0, j, hi, hj => by
    have := h e (List.mem_cons_self ..)
    simp only [Nat.zero_mul, Nat.zero_add, List.flatten_cons, List.getElem?_cons_zero, Option.bind_some]
    rw [List.getElem?_append_left (by omega)]
  | e :: L, h, i + 1, j, hi, hj => by
    have he := h e (List.mem_cons_self ..)
    have hh : ∀ e ∈ L, e.length = sz := fun x hx => h x (List.mem_cons_of_mem _ hx)
    simp only [List.flatten_cons, List.getElem?_cons_succ]
    rw [List.getElem?_append_right (by rw [he, Nat.add_mul]; omega), ← flatten_at hh i j (by simpa using hi) hj, he]
    congr 1
    rw [Nat.add_mul]; omega
theorem flatten_length {α : Type} {sz : Nat} : ∀ {L : List (List α)} (h : ∀ e ∈ L, e.length = sz), L.flatten.length = L.length * sz
  | [], h => by simp
  | e :: L, h => by
    rw [List.flatten_cons, List.length_append, h e (List.mem_cons_self ..), flatten_length fun x hx => h x (List.mem_cons_of_mem _ hx), List.length_cons, Nat.add_mul]
    omega

/-- A row of one's own, told by its elements. -/
def rowE (L : List (List C)) (i j : Nat) : C := (L.getD i []).getD j (.dead undef)
def rowL (g o sz cap : Nat) (L : List (List C)) : C := .row .own sz (some (g, o, none)) L.length cap (rowE L)
theorem rowE_at {L : List (List C)} {sz i j : Nat} (h : ∀ e ∈ L, e.length = sz) (hi : i < L.length) (hj : j < sz) : L.flatten[i * sz + j]? = some (rowE L i j) ∧ rowE L i j ∈ L.flatten := by
  have h1 : L[i]? = some L[i] := List.getElem?_eq_getElem hi
  have hl : L[i].length = sz := h _ (List.getElem_mem hi)
  have h2 : (L[i])[j]? = some (L[i])[j] := List.getElem?_eq_getElem (by omega)
  have h3 : rowE L i j = (L[i])[j] := by unfold rowE; rw [getD_of h1, getD_of h2]
  have h4 := flatten_at h i j hi hj
  rw [h1, Option.bind_some, h2] at h4
  rw [h3]
  exact ⟨h4, List.mem_of_getElem? h4⟩
theorem rowL_er {g o sz cap : Nat} {L : List (List C)} (h : ∀ e ∈ L, e.length = sz) : (rowL g o sz cap L).er = .row .own sz (L.map fun e => e.map C.er) := by
  simp only [rowL, C.er]
  congr 1
  apply List.ext_getElem?
  intro i
  rw [C.map_range_get?, List.getElem?_map]
  by_cases hi : i < L.length
  · rw [if_pos hi, List.getElem?_eq_getElem hi, Option.map_some]
    congr 1
    have hl : L[i].length = sz := h _ (List.getElem_mem hi)
    apply List.ext_getElem?
    intro j
    rw [C.map_range_get?, List.getElem?_map]
    by_cases hj : j < sz
    · rw [if_pos hj, List.getElem?_eq_getElem (by omega), Option.map_some]
      unfold rowE
      rw [getD_of (List.getElem?_eq_getElem hi), getD_of (List.getElem?_eq_getElem (by omega))]
    · rw [if_neg hj, List.getElem?_eq_none (by omega)]; rfl
  · rw [if_neg hi, List.getElem?_eq_none (by omega)]; rfl
theorem rowL_val (g o sz cap : Nat) (L : List (List C)) : (rowL g o sz cap L).val = .slice (some ⟨g, o, none⟩) L.length cap := rfl
theorem rowL_fp {g o sz cap : Nat} {L : List (List C)} (h : ∀ e ∈ L, e.length = sz) {b k : Nat} (hf : (rowL g o sz cap L).fp b k) : b = g ∨ ∃ x ∈ L.flatten, x.fp b k := by
  obtain ⟨_, ⟨o', hA⟩ | ⟨i, j, hi, hj, hf⟩⟩ := hf
  · injection hA with hA; injection hA with e1 e2; exact .inl e1.symm
  · exact .inr ⟨_, (rowE_at h hi hj).2, hf⟩
theorem pairwise_get {l : List C} (h : l.Pairwise fun a b => ∀ x k, a.fp x k → ¬ b.fp x k) {p q : Nat} {x y : C} (hp : l[p]? = some x) (hq : l[q]? = some y) (hne : p ≠ q) {b k : Nat} (hf : x.fp b k) : ¬ y.fp b k := by
  obtain ⟨hp', rfl⟩ := List.getElem?_eq_some_iff.1 hp
  obtain ⟨hq', rfl⟩ := List.getElem?_eq_some_iff.1 hq
  rcases Nat.lt_or_gt_of_ne hne with hlt | hlt
  · exact List.pairwise_iff_getElem.1 h p q hp' hq' hlt b k hf
  · exact fun hf' => List.pairwise_iff_getElem.1 h q p hq' hp' hlt b k hf' hf
theorem rowL_ok {g o sz cap : Nat} {L : List (List C)} (h : ∀ e ∈ L, e.length = sz) (hcap : L.length ≤ cap) {arr : Array Value} {t : TypeId} {fz : Nat × Nat} (hh : w.heap[g]? = some (.cells arr t fz)) (hsz : o + cap * sz ≤ arr.size)
    (hfr : ∀ k, o ≤ k → k < o + cap * sz → w.frozen? ⟨g, k, none⟩ = false) (hcell : ∀ q x, L.flatten[q]? = some x → w.cell? ⟨g, o + q, none⟩ = some x.val)
    (hx : ∀ x ∈ L.flatten, x.cell ∧ x.solid ∧ x.ok w Z) (hpw : L.flatten.Pairwise fun a b => ∀ x k, a.fp x k → ¬ b.fp x k) (hg : ∀ x ∈ L.flatten, ∀ b k, x.fp b k → b ≠ g) : (rowL g o sz cap L).ok w Z := by
  refine ⟨hcap, fun i j hi hj => ⟨g, o, rfl, ?_, fun hm => (hm rfl).elim⟩, fun i j hi hj => ?_, fun _ => .inr ⟨g, o, arr, t, fz, rfl, hh, hsz, hfr⟩, fun i j hi hj b k hf => ⟨fun _ o' hA => ?_, fun i' j' hi' hj' hne => ?_⟩⟩
  · rw [Nat.add_assoc]; exact hcell _ _ (rowE_at h hi hj).1
  · obtain ⟨a1, a2, a3⟩ := hx _ (rowE_at h hi hj).2
    exact ⟨a1, a2, C.fits_any _, a3⟩
  · injection hA with hA; injection hA with e1 e2
    exact hg _ (rowE_at h hi hj).2 b k hf e1.symm
  · refine pairwise_get hpw (rowE_at h hi hj).1 (rowE_at h hi' hj').1 (fun e => hne ?_) hf
    obtain ⟨rfl, rfl⟩ := place_ne hj hj' e
    rfl

/-- A variable of one's own, told by its cells. -/
def ptrL (g : Nat) (l : List C) : C := .ptr .own g 0 l.length fun j => l.getD j (.dead undef)
theorem ptrL_er (g : Nat) (l : List C) : (ptrL g l).er = .ptr .own (l.map C.er) := by simp only [ptrL, C.er, range_getD]
theorem ptrL_fp {g : Nat} {l : List C} {b k : Nat} (hf : (ptrL g l).fp b k) : b = g ∨ ∃ x ∈ l, x.fp b k := by
  obtain ⟨_, hA | ⟨j, hj, hf⟩⟩ := hf
  · exact .inl hA.1
  · exact .inr ⟨_, getD_mem hj _, hf⟩
theorem ptrL_ok {g : Nat} {l : List C} (hg : g < w.heap.size) (hcell : ∀ q x, l[q]? = some x → w.cell? ⟨g, q, none⟩ = some x.val) (hfr : ∀ k, k < l.length → w.frozen? ⟨g, k, none⟩ = false)
    (hx : ∀ x ∈ l, x.cell ∧ x.ok w Z) (hpw : l.Pairwise fun a b => ∀ x k, a.fp x k → ¬ b.fp x k) (hgx : ∀ x ∈ l, ∀ b k, x.fp b k → b ≠ g) : (ptrL g l).ok w Z := by
  refine ⟨fun j hj => ⟨?_, fun hm => (hm rfl).elim, fun _ => ?_⟩, hg, fun j hj => ?_, fun j hj b k hf => ⟨fun _ hb => ?_, fun j' hj' hne => ?_⟩⟩
  · rw [Nat.zero_add]
    exact hcell j _ (by show _ = some (l.getD j (.dead undef)); rw [getD_of (List.getElem?_eq_getElem hj)]; exact List.getElem?_eq_getElem hj)
  · rw [Nat.zero_add]; exact hfr j hj
  · obtain ⟨a1, a3⟩ := hx _ (getD_mem hj (.dead undef))
    exact ⟨a1, C.fits_any _, a3⟩
  · exact hgx _ (getD_mem hj _) b k hf hb.1
  · exact pairwise_getD hpw _ hj hj' hne hf

/-- The cells of a value. -/
def C.cells : C → List C
  | .agg n f => (List.range n).map f
  | .tup _ _ => []
  | .dead _ => []
  | x => [x]
def C.shape (x : C) : Prop := x.cells = [] ∨ (∃ n f, x = .agg n f) ∨ (x.cells = [x] ∧ x.cell)
theorem shape_of {x : C} (h : x.rf G) : x.shape := by
  cases x with
  | agg n f => exact .inr (.inl ⟨n, f, rfl⟩)
  | tup n f => exact .inl rfl
  | dead v => exact .inl rfl
  | ref v r p => exact .inr (.inr ⟨rfl, rf_cells h⟩)
  | adr v r p i c =>
    obtain ⟨y, hs, hy⟩ := h
    refine .inr (.inr ⟨rfl, ?_⟩)
    rcases hy with ⟨m, sz, g, o', len, cap, e, rfl, hv⟩ | ⟨m, g, o', n, cc, rfl, _, hv⟩ <;> (subst hv; rfl)
  | cut v r p lo hi =>
    obtain ⟨m, sz, A, len, cap, e, A', cap', hs, hv, _⟩ := h
    refine .inr (.inr ⟨rfl, ?_⟩)
    subst hv; rfl
  | _ => exact .inr (.inr ⟨rfl, trivial⟩)
theorem cells_er (x : C) : x.cells.map C.er = cellsOf x.er := by
  cases x <;> simp [C.cells, C.er, cellsOf]
theorem cells_val {x : C} (h : 0 < x.cells.length) (hc : x.shape) : x.val.cells = (x.cells.map C.val).toArray := by
  rcases hc with hc | ⟨n, f, rfl⟩ | ⟨h1, h2⟩
  · rw [hc] at h; simp at h
  · simp [C.cells, C.val, Value.cells]
  · rw [h1]; exact one_cells (Inv.cell_val h2)
theorem cells_fp {x y : C} (hy : y ∈ x.cells) {b k : Nat} (hf : y.fp b k) : x.fp b k := by
  cases x with
  | agg n f =>
    obtain ⟨j, hj, rfl⟩ := List.mem_map.1 hy
    exact ⟨j, by simpa using hj, hf⟩
  | tup n f => cases hy
  | dead v => cases hy
  | _ => simp only [C.cells, List.mem_singleton] at hy; subst hy; exact hf
theorem cells_ok {x y : C} (hc : x.shape) (hx : x.ok w Z) (hy : y ∈ x.cells) : y.cell ∧ y.ok w Z := by
  rcases hc with hc | ⟨n, f, rfl⟩ | ⟨h1, h2⟩
  · rw [hc] at hy; cases hy
  · obtain ⟨j, hj, rfl⟩ := List.mem_map.1 hy
    exact hx.1 j (by simpa using hj)
  · rw [h1, List.mem_singleton] at hy; subst hy; exact ⟨h2, hx⟩
theorem cells_rf {x y : C} (hx : x.rf G) (hy : y ∈ x.cells) : y.rf G := by
  cases x with
  | agg n f =>
    obtain ⟨j, hj, rfl⟩ := List.mem_map.1 hy
    exact hx j (by simpa using hj)
  | tup n f => cases hy
  | dead v => cases hy
  | _ => simp only [C.cells, List.mem_singleton] at hy; subst hy; exact hx
theorem cells_apart {x : C} (hx : x.ok w Z) : x.cells.Pairwise fun a b => ∀ x k, a.fp x k → ¬ b.fp x k := by
  cases x with
  | agg n f =>
    refine List.pairwise_map.2 ?_
    refine List.Pairwise.imp_of_mem (R := fun a b => a < b) ?_ List.pairwise_lt_range
    intro i j hi hj hlt b k hf
    exact hx.2 i (by simpa using hi) b k hf j (by simpa using hj) (by omega)
  | tup n f => exact List.Pairwise.nil
  | dead v => exact List.Pairwise.nil
  | _ => exact List.pairwise_singleton _ _

theorem TookL.one {c : C} (h : Took w zl zb G c G1 s1) : TookL w zl zb G [c] G1 s1 := TookL.cons h (TookL.nil h.inv)
theorem TookL.flat {cs : List C} (h : TookL w zl zb G cs G1 s1) (hc : ∀ x ∈ cs, x.shape) : TookL w zl zb G (cs.flatMap C.cells) G1 s1 where
  inv := h.inv
  all := fun c hx => by
    obtain ⟨x, hx, hc'⟩ := List.mem_flatMap.1 hx
    obtain ⟨a1, a2, a3, a4⟩ := h.all x hx
    exact ⟨(cells_ok (hc x hx) a1 hc').2, fun t b k hf => a2 t b k (cells_fp hc' hf), fun b k hf => a3 b k (cells_fp hc' hf), fun b k hf => a4 b k (cells_fp hc' hf)⟩
  apart := by
    have h1 := h.apart
    have h2 := h.all
    clear h hc
    induction cs with
    | nil => exact List.Pairwise.nil
    | cons x cs ih =>
      rw [List.flatMap_cons]
      rw [List.pairwise_cons] at h1
      refine List.pairwise_append.2 ⟨cells_apart (h2 x (List.mem_cons_self ..)).1, ih h1.2 (fun c hc => h2 c (List.mem_cons_of_mem _ hc)), fun a ha b hb y k hf hf' => ?_⟩
      obtain ⟨x', hx', hb⟩ := List.mem_flatMap.1 hb
      exact h1.1 x' hx' y k (cells_fp ha hf) (cells_fp hb hf')
  val := h.val
  mono := h.mono

namespace Inv
theorem ext (h : Inv w zl zb G s) {S : Nat → Nat → Prop} (hE : Ext S w w') (hS : ∀ t b k, (G t).fp b k → ¬ S b k) (hZ : ∀ b k, zl b k ∨ zb b k → ¬ S b k) : Inv w' zl zb G s where
  er := h.er
  ok := fun t => C.ok_ext hE (fun m b k hz => by cases m with
    | own => exact hz.elim
    | sl => exact hZ b k (.inl hz)
    | bor => exact hZ b k hz) _ (hS t) (h.ok t)
  sep := h.sep
  fz := h.fz
  rf := h.rf
  zin := fun b k hz => Nat.lt_of_lt_of_le (h.zin b k hz) hE.size
end Inv

/-- New memory or that of one's hands turns, and what lies there is put into a slot. -/
theorem St.fresh' {c : Ctx} {zl : Nat → Nat → Prop} {a : Act} {l : List C} {S : Nat → Nat → Prop} (h : St c G zl s a w) (hT : TookL w zl c.zb G l G1 s1) (hE : Ext S w w') (hS : ∀ b k, S b k → w.heap.size ≤ b ∨ ∃ y ∈ l, y.fp b k) {x : C} {n : Nat} (hn : n < c.nt) (hok : x.ok w' (Zf zl c.zb)) (hrf : x.rf G1)
    (hfp : ∀ b k, x.fp b k → w.heap.size ≤ b ∨ ∃ y ∈ l, y.fp b k) : ∃ G', St c G' zl (M.put n x.er s1) (a.put (some n) x.val) w' := by
  have hi : Inv w' zl c.zb G1 s1 := hT.inv.ext hE (fun t b k hf hs => by
    rcases hS b k hs with hb | ⟨y, hy, hf'⟩
    · have := C.fp_lt _ (hT.inv.ok t) b k hf; omega
    · exact (hT.all y hy).2.1 t b k hf' hf) (fun b k hz hs => by
    rcases hS b k hs with hb | ⟨y, hy, hf'⟩
    · have := hT.inv.zin b k hz; omega
    · exact hz.elim ((hT.all y hy).2.2.1 b k hf').1 ((hT.all y hy).2.2.1 b k hf').2)
  have hdom : ∀ b k, (w.heap.size ≤ b ∨ ∃ y ∈ l, y.fp b k) → c.F0 b k ∨ c.w0.heap.size ≤ b := fun b k hh => by
    rcases hh with hb | ⟨y, hy, hf⟩
    · exact .inr (Nat.le_trans h.tr.ext.size hb)
    · obtain ⟨t, ht⟩ := (hT.all y hy).2.2.2 b k hf
      exact h.tr.dom t b k ht
  have h1 : St c G1 zl s1 a w' := h.move hi hT.val hE (fun b k hs => hdom b k (hS b k hs)) (fun t b k hf => .inl ⟨t, hT.mono t b k hf⟩)
  refine h1.put hn hok (fun t _ b k hf hf' => ?_) (fun b k hf => ?_) hrf (fun b k hf => hdom b k (hfp b k hf))
  · rcases hfp b k hf with hb | ⟨y, hy, hf⟩
    · have := C.fp_lt _ (hT.inv.ok t) b k hf'; omega
    · exact (hT.all y hy).2.1 t b k hf hf'
  · rcases hfp b k hf with hb | ⟨y, hy, hf⟩
    · exact ⟨fun hz => by have := hT.inv.zin b k (.inl hz); omega, fun hz => by have := hT.inv.zin b k (.inr hz); omega⟩
    · exact (hT.all y hy).2.2.1 b k hf
theorem St.fresh {c : Ctx} {zl : Nat → Nat → Prop} {a : Act} {l : List C} (h : St c G zl s a w) (hT : TookL w zl c.zb G l G1 s1) (hE : Ext (fun b _ => w.heap.size ≤ b) w w') {x : C} {n : Nat} (hn : n < c.nt) (hok : x.ok w' (Zf zl c.zb)) (hrf : x.rf G1)
    (hfp : ∀ b k, x.fp b k → w.heap.size ≤ b ∨ ∃ y ∈ l, y.fp b k) : ∃ G', St c G' zl (M.put n x.er s1) (a.put (some n) x.val) w' :=
  h.fresh' hT hE (fun _ _ hs => .inl hs) hn hok hrf hfp
theorem TookL.fits' {l : List C} {S : Nat → Nat → Prop} (hT : TookL w zl zb G l G1 s1) (hE : Ext S w w') (hZ : ∀ b k, zl b k ∨ zb b k → ¬ S b k) {x : C} (hx : x.ok w (Zf zl zb)) (hS : ∀ b k, x.fp b k → ¬ S b k) : x.ok w' (Zf zl zb) :=
  C.ok_ext hE (fun m b k hz => by cases m with
    | own => exact hz.elim
    | sl => exact hZ b k (.inl hz)
    | bor => exact hZ b k hz) _ hS hx
theorem TookL.fits {l : List C} (hT : TookL w zl zb G l G1 s1) (hE : Ext (fun b _ => w.heap.size ≤ b) w w') {x : C} (hx : x ∈ l) : x.ok w' (Zf zl zb) := by
  obtain ⟨a1, a2, a3, a4⟩ := hT.all x hx
  exact C.ok_ext hE (fun m b k hz hs => by have := Zf_lt hT.inv.zin m b k hz; omega) _ (fun b k hf hs => by have := C.fp_lt _ a1 b k hf; omega) a1

theorem heap_new (w : World) (o : Obj) : (w.alloc o).heap[w.heap.size]? = some o := by
  show (w.heap.push o)[w.heap.size]? = _
  simp
theorem alloc_ext (w : World) (o : Obj) : Ext (fun b _ => w.heap.size ≤ b) w (w.alloc o) := Ext.alloc w _ o
theorem drew_ext (w : World) (o : Obj) : Ext (fun b _ => w.heap.size ≤ b) w (w.drew.alloc o) :=
  (Ext.drew w (fun b _ => w.heap.size ≤ b)).trans (Ext.alloc w.drew (fun b _ => w.heap.size ≤ b) o) (fun _ _ h _ => h)
end M
set_option linter.unusedVariables false
set_option linter.unusedSimpArgs false
namespace M
open Go Go.RowKit
variable [Bs]
section
variable {P : Program} {c : Ctx} {G : Nat → C} {zl : Nat → Nat → Prop} {s : Slots} {a : Act} {w : World} {o : Oper} {K : Slots → Prop}

/-- Cells of a zero value: what is known of each; where nothing is, it is one cell. -/
def chkZ : List Value → List X → Bool
  | [], [] => true
  | v :: vs, x :: xs => (chkC v x || (match x with | .dead => v.oneCell' | _ => false)) && chkZ vs xs
  | _, _ => false
structure Zeros (w : World) (zl zb : Nat → Nat → Prop) (vs : List Value) (xs : List X) (l : List C) : Prop where
  er : l.map C.er = xs
  val : l.map C.val = vs
  all : ∀ x ∈ l, x.plain ∧ x.ok w (Zf zl zb) ∧ ∀ b k, ¬ x.fp b k
theorem zeros_ok (w : World) (zl zb : Nat → Nat → Prop) : ∀ {vs : List Value} {xs : List X}, chkZ vs xs = true → ∃ l, Zeros w zl zb vs xs l
  | [], [], _ => ⟨[], rfl, rfl, fun _ hx => (by cases hx)⟩
  | v :: vs, x :: xs, h => by
    simp only [chkZ, Bool.and_eq_true, Bool.or_eq_true] at h
    obtain ⟨l, l1, l2, l3⟩ := zeros_ok w zl zb h.2
    have : ∃ d : C, d.er = x ∧ d.val = v ∧ d.plain ∧ d.ok w (Zf zl zb) ∧ ∀ b k, ¬ d.fp b k := by
      rcases h.1 with h1 | h1
      · obtain ⟨d, d1, d2, d3, d4⟩ := const_ok (w := w) (zl := zl) (c := ⟨w, zl, zl, zb, 0, []⟩) (G := fun _ => .dead undef) h1
        exact ⟨d, d1, d2, d4, d3.ok, d3.nofp⟩
      · cases x with
        | dead => exact ⟨.dead v, rfl, rfl, h1, trivial, fun _ _ h => h⟩
        | _ => cases h1
    obtain ⟨d, d1, d2, d3⟩ := this
    refine ⟨d :: l, by simp [d1, l1], by simp [d2, l2], fun x hx => ?_⟩
    rcases List.mem_cons.1 hx with rfl | hx
    · exact d3
    · exact l3 x hx
  | [], _ :: _, h => by cases h
  | _ :: _, [], h => by cases h
theorem apart_of {l : List C} (h : ∀ x ∈ l, ∀ b k, ¬ x.fp b k) : l.Pairwise fun a b => ∀ x k, a.fp x k → ¬ b.fp x k := by
  induction l with
  | nil => exact List.Pairwise.nil
  | cons x l ih => exact List.pairwise_cons.2 ⟨fun y _ b k hf => (h x (List.mem_cons_self ..) b k hf).elim, ih fun y hy => h y (List.mem_cons_of_mem _ hy)⟩
theorem TookL.none (h : Inv w zl c.zb G s) {l : List C} (hl : ∀ x ∈ l, x.ok w (Zf zl c.zb) ∧ ∀ b k, ¬ x.fp b k) : TookL w zl c.zb G l G s :=
  ⟨h, fun x hx => ⟨(hl x hx).1, fun t b k hf => ((hl x hx).2 b k hf).elim, fun b k hf => ((hl x hx).2 b k hf).elim, fun b k hf => ((hl x hx).2 b k hf).elim⟩, apart_of fun x hx => (hl x hx).2, fun _ => rfl, fun _ _ _ hf => hf⟩

/-- A new variable with these cells. -/
theorem good_ptr (h : St c G zl s a w) {l : List C} {G1 : Nat → C} {s1 : Slots} (hT : TookL w zl c.zb G l G1 s1) (hcell : ∀ x ∈ l, x.cell) (hrf : ∀ x ∈ l, x.rf G1) {d : Nat} (hd : o.dst = some d) (hn : d < c.nt) {t : TypeId} {arr : Array Value} (harr : arr = (l.map C.val).toArray)
    (hrun : (execOp a.eval o).run P w = .ok (.value (.pointer (some ⟨w.heap.size, 0, none⟩))) (w.alloc (.cells arr t))) (hK : K (put d (.ptr .own (l.map C.er)) s1)) : GoodQ P c o a w K := by
  subst harr
  have hE := alloc_ext w (.cells (l.map C.val).toArray t)
  have hnew := heap_new w (.cells (l.map C.val).toArray t)
  have hok : (ptrL w.heap.size l).ok (w.alloc (.cells (l.map C.val).toArray t)) (Zf zl c.zb) := by
    refine ptrL_ok ?_ (fun q x hq => ?_) (fun k _ => frozen_of_row _ _ _ _ _ hnew) (fun x hx => ⟨hcell x hx, hT.fits hE hx⟩) hT.apart (fun x hx b k hf => ?_)
    · exact (Array.getElem?_eq_some_iff.1 hnew).1
    · rw [cell_of_row _ _ _ _ _ (0, 0) hnew]
      simp [hq]
    · have := C.fp_lt _ (hT.all x hx).1 b k hf; omega
  obtain ⟨G', h'⟩ := h.fresh hT hE hn hok (fun j hj => hrf _ (getD_mem hj _)) (fun b k hf => (ptrL_fp hf).imp (fun e => by omega) id)
  refine ⟨_, _, hrun, hE.mono (fun b k hs hb => by omega), G', zl, _, hK, ?_⟩
  rw [hd]
  rw [ptrL_er] at h'
  exact h'
/-- A new row with these elements. -/
theorem good_row (h : St c G zl s a w) {L : List (List C)} {sz cap : Nat} {G1 : Nat → C} {s1 : Slots} (hL : ∀ e ∈ L, e.length = sz) (hcap : L.length ≤ cap) (hT : TookL w zl c.zb G L.flatten G1 s1) (hpl : ∀ x ∈ L.flatten, x.plain) {d : Nat} (hd : o.dst = some d) (hn : d < c.nt)
    {t : TypeId} {arr : Array Value} {fz : Nat × Nat} {w' : World} (hE : Ext (fun b _ => w.heap.size ≤ b) w w') (hnew : w'.heap[w.heap.size]? = some (.cells arr t fz)) (hsz : cap * sz ≤ arr.size) (hfz : ∀ k, k < cap * sz → ¬ (fz.1 ≤ k ∧ k < fz.2)) (harr : ∀ (q : Nat) (x : C), L.flatten[q]? = some x → arr[q]? = some x.val)
    (hrun : (execOp a.eval o).run P w = .ok (.value (.slice (some ⟨w.heap.size, 0, none⟩) L.length cap)) w') (hK : K (put d (.row .own sz (L.map fun e => e.map C.er)) s1)) : GoodQ P c o a w K := by
  have hok : (rowL w.heap.size 0 sz cap L).ok w' (Zf zl c.zb) := by
    refine rowL_ok hL hcap hnew (by omega) (fun k _ hk => ?_) (fun q x hq => ?_) (fun x hx => ⟨C.plain_cell (hpl x hx), C.plain_solid (hpl x hx), hT.fits hE hx⟩) hT.apart (fun x hx b k hf => ?_)
    · have := hfz k (by omega)
      simp [World.frozen?, hnew]
      omega
    · rw [cell_of_row _ _ _ _ _ fz hnew, Nat.zero_add]
      exact harr q x hq
    · have := C.fp_lt _ (hT.all x hx).1 b k hf; omega
  obtain ⟨G', h'⟩ := h.fresh hT hE hn hok trivial (fun b k hf => (rowL_fp hL hf).imp (fun e => by omega) id)
  refine ⟨_, _, hrun, hE.mono (fun b k hs hb => by omega), G', zl, _, hK, ?_⟩
  rw [hd]
  rw [rowL_er hL] at h'
  exact h'

theorem op_new (h : St c G zl s a w) {d : Nat} {ty : TypeId} {i : TypeInfo} {v : Value} {z : List X} (ho : o.op = .alloc ty) (hi : P.info? ty = some i) (hz : i.zero = some v) (hc : chkZ v.cells.toList z = true) (hd : o.dst = some d) (hn : d < c.nt)
    (hK : awpOp P (.new d z) s K) : GoodQ P c o a w K := by
  obtain ⟨l, l1, l2, l3⟩ := zeros_ok w zl c.zb hc
  refine good_ptr h (TookL.none h.inv fun x hx => (l3 x hx).2) (fun x hx => C.plain_cell (l3 x hx).1) (fun x hx => C.plain_rf (l3 x hx).1 _) hd hn (t := ty) (arr := v.cells) ?_ ?_ (by rw [l1]; exact hK)
  · rw [l2]
  · simp [execOp, ho, Instr.alloc, zeroValue, typeInfo, hi, hz, newVar, newRow]

theorem op_box (h : St c G zl s a w) {d : Nat} {tk : Tk} {ty : TypeId} {x : AV} {x' : Operand} (ho : o.op = .box ty x') (hd : o.dst = some d) (hn : d < c.nt) (hx : chkV x' x = true)
    (hK : awpOp P (.box d tk x) s K) : GoodQ P c o a w K := by
  obtain ⟨y, e1, e2, e3⟩ := av_ok h hx
  obtain ⟨y', G1, f1, f2, f3, f4⟩ := take_ok tk h.inv e3
  obtain ⟨k1, k2⟩ := hK
  rw [← e1, ← f1, ← cells_er] at k1 k2
  have hsh := shape_of f4.rf
  have hT := TookL.flat (TookL.one f4) (fun x hx => by rw [List.mem_singleton] at hx; subst hx; exact hsh)
  simp only [List.flatMap_cons, List.flatMap_nil, List.append_nil] at hT
  refine good_ptr h hT (fun x hx => (cells_ok hsh f4.ok hx).1) (fun x hx => cells_rf f4.rf hx) hd hn (t := ty) (cells_val (by simpa using k1) hsh) ?_ k2
  rw [f2, e2]
  simp [execOp, ho, Instr.box, newVar, newRow]

theorem op_make (h : St c G zl s a w) {d sz bytes : Nat} {ty el : TypeId} {i : TypeInfo} {v : Value} {z : List X} {n : AV} {n' n2 : Operand} (ho : o.op = .makeSlice ty n' n2) (hu : P.underlying ty = some (.slice el)) (hi : P.info? el = some i) (hz : i.zero = some v) (hsz : i.size = sz) (hb : i.bytes = bytes) (hb0 : 0 < bytes)
    (h0 : 0 < sz) (hzs : z.length = sz) (hc : chkZ v.cells.toList z = true) (hd : o.dst = some d) (hn : d < c.nt) (hx : chkV n' n = true) (hx2 : chkV n2 n = true) (hK : awpOp P (.make d sz bytes z n) s K) : GoodQ P c o a w K := by
  obtain ⟨y, e1, e2, e3⟩ := av_ok h hx
  obtain ⟨y2, g1, g2, g3⟩ := av_ok h hx2
  simp only [awpOp] at hK
  split at hK
  · rename_i k m hm
    have hm2 := hm
    rw [← e1] at hm
    rw [← g1] at hm2
    have := er_int hm
    subst this
    have := er_int hm2
    subst this
    obtain ⟨k1, k2, k3⟩ := hK
    obtain ⟨l, l1, l2, l3⟩ := zeros_ok w zl c.zb hc
    have hll : l.length = sz := by rw [← hzs, ← l1]; simp
    have hvs : v.cells.size = sz := by
      have := congrArg List.length l2
      simp only [List.length_map, Array.length_toList] at this
      omega
    have hL : ∀ e ∈ List.replicate m.toNat l, e.length = sz := fun e he => by rw [(List.mem_replicate.1 he).2]; exact hll
    have hfl : ∀ x ∈ (List.replicate m.toNat l).flatten, x ∈ l := fun x hx => by
      obtain ⟨e, he, hx⟩ := List.mem_flatten.1 hx
      rw [(List.mem_replicate.1 he).2] at hx; exact hx
    have hmul : m ≤ m * bytes := by
      have : m * 1 ≤ m * (bytes : Int) := Int.mul_le_mul_of_nonneg_left (by omega) k1
      omega
    have hr := run_make (P := P) w ty el i v hu hi hz k k m m k1 (Int.le_refl _) (by rw [hb, Int.mul_comm]; omega) (by omega)
    refine good_row h (L := List.replicate m.toNat l) (cap := m.toNat) hL (by simp) (TookL.none h.inv fun x hx => (l3 x (hfl x hx)).2) (fun x hx => (l3 x (hfl x hx)).1) hd hn (alloc_ext w (.cells (madeCells v.cells (m.toNat * i.size)) el (0, 0))) (heap_new w (.cells (madeCells v.cells (m.toNat * i.size)) el (0, 0))) ?_ ?_ ?_ ?_ ?_
    · rw [size_madeCells, hsz]; exact Nat.le_refl _
    · intro k _ hh; simp at hh
    · intro q x hq
      have hqlt : q < m.toNat * sz := by
        have := (List.getElem?_eq_some_iff.1 hq).1
        rw [flatten_length hL, List.length_replicate] at this
        exact this
      have hj : q % sz < sz := Nat.mod_lt _ h0
      have hi' : q / sz < m.toNat := Nat.div_lt_of_lt_mul (by rw [Nat.mul_comm]; exact hqlt)
      have hqe : q = q / sz * sz + q % sz := by have := Nat.div_add_mod q sz; rw [Nat.mul_comm] at this; omega
      have := flatten_at hL (q / sz) (q % sz) (by simpa using hi') hj
      rw [← hqe, hq, List.getElem?_replicate, if_pos hi'] at this
      simp only [Option.bind_some] at this
      have hv : v.cells.toList[q % sz]? = some x.val := by rw [← l2, List.getElem?_map, ← this]; rfl
      have hv' : v.cells[q % sz]? = some x.val := by simpa using hv
      rw [hsz]
      simp only [madeCells, Array.getElem?_map]
      rw [Array.getElem?_range, if_pos hqlt]
      simp [hvs, getElem!_def, hv']
    · simp [execOp, ho, ← e2, ← g2, C.val, hr]
    · rw [List.map_replicate, l1]; exact k3
  · exact hK.elim

theorem op_bytes (h : St c G zl s a w) {d : Nat} {src dst el : TypeId} {x : AV} {x' : Operand} (ho : o.op = .convert src dst x') (hs : P.underlying src = some .string) (hu : P.underlying dst = some (.slice el)) (he : P.underlying el = some (.int .u8)) (hd : o.dst = some d) (hn : d < c.nt) (hx : chkV x' x = true)
    (hK : awpOp P (.bytes d x) s K) : GoodQ P c o a w K := by
  obtain ⟨y, e1, e2, e3⟩ := av_ok h hx
  simp only [awpOp] at hK
  split at hK
  · rename_i t ht
    rw [← e1] at ht
    have := er_str ht
    subst this
    have hr := run_bytes_of_string (P := P) w src dst el t hs hu he
    have hge := grownCap_ge w t.size 0 el
    generalize grownCap w t.size 0 el = cap at hr hge
    have hL : ∀ e ∈ t.data.toList.map (fun b : UInt8 => [C.int .u8 (b.toNat : Int)]), e.length = 1 := fun e he => by
      obtain ⟨b, _, rfl⟩ := List.mem_map.1 he; rfl
    have hfl : ∀ x ∈ (t.data.toList.map (fun b : UInt8 => [C.int .u8 (b.toNat : Int)])).flatten, ∃ n, x = C.int .u8 n := fun x hx => by
      obtain ⟨e, he, hx⟩ := List.mem_flatten.1 hx
      obtain ⟨b, _, rfl⟩ := List.mem_map.1 he
      exact ⟨_, List.mem_singleton.1 hx⟩
    have hts : t.size = t.data.size := rfl
    have hlen : (t.data.toList.map (fun b : UInt8 => [C.int .u8 (b.toNat : Int)])).length = t.size := by rw [List.length_map, Array.length_toList]; rfl
    have hsz : (bytesRow t cap).size = cap := by simp [bytesRow]; omega
    refine good_row h (L := t.data.toList.map (fun b : UInt8 => [C.int .u8 (b.toNat : Int)])) (cap := cap) (sz := 1) hL (by rw [hlen]; exact hge) (TookL.none h.inv fun x hx => ?_) (fun x hx => ?_) hd hn (drew_ext w (.cells (bytesRow t cap) el ((bytesRow t cap).size, (bytesRow t cap).size + 1))) (heap_new w.drew (.cells (bytesRow t cap) el ((bytesRow t cap).size, (bytesRow t cap).size + 1))) ?_ ?_ ?_ ?_ ?_
    · obtain ⟨n, rfl⟩ := hfl x hx; exact ⟨trivial, fun _ _ hf => hf⟩
    · obtain ⟨n, rfl⟩ := hfl x hx; trivial
    · rw [hsz]; omega
    · intro k hk; rw [hsz]; omega
    · intro q x hq
      have hqlt : q < t.data.size := by
        have := (List.getElem?_eq_some_iff.1 hq).1
        rw [flatten_length hL, hlen] at this
        omega
      have := flatten_at hL q 0 (by rw [hlen]; omega) (by omega)
      rw [Nat.mul_one, Nat.add_zero, hq, List.getElem?_map] at this
      rw [bytesRow_at t cap q hqlt]
      rw [List.getElem?_eq_getElem (by simpa using hqlt)] at this
      simp at this
      rw [this]
      rfl
    · rw [hlen]
      simp [execOp, ho, ← e2, C.val, hr]
    · rw [List.map_map]
      exact hK
  · exact hK.elim
end
end M
set_option linter.unusedVariables false
set_option linter.unusedSimpArgs false
namespace M
open Go Go.RowKit
variable [Bs]

theorem plain_of_solid {y : C} (hc : y.cell) (h : solid y.er = true) : y.plain := by
  cases y <;> first | exact hc | trivial | (simp [C.er, solid] at h)
theorem solidL_all : ∀ {l : List X}, solidL l = true → ∀ x ∈ l, solid x = true
  | [], _, x, hx => by cases hx
  | y :: l, h, x, hx => by
    simp only [solidL, Bool.and_eq_true] at h
    rcases List.mem_cons.1 hx with rfl | hx
    · exact h.1
    · exact solidL_all h.2 x hx
theorem kid_plain {w : World} {Z : Md → Nat → Nat → Prop} {x y : C} (hs : x.shape) (hok : x.ok w Z) (h : solidL (cellsOf x.er) = true) (hy : y ∈ x.cells) : y.plain := by
  refine plain_of_solid (cells_ok hs hok hy).1 (solidL_all h _ ?_)
  rw [← cells_er]
  exact List.mem_map_of_mem hy

section
variable {P : Program} {c : Ctx} {G : Nat → C} {zl : Nat → Nat → Prop} {s : Slots} {a : Act} {w : World} {o : Oper} {K : Slots → Prop}

theorem St.took0 {x : C} {G1 : Nat → C} {s1 : Slots} (h : St c G zl s a w) (hT : Took w zl c.zb G x G1 s1) : St c G1 zl s1 a w :=
  h.move hT.inv hT.val (Ext.refl (fun _ _ => False) w) (fun _ _ hs => hs.elim) (fun t b k hf => .inl ⟨t, hT.mono t b k hf⟩)
theorem takes_ok (tk : Tk) : ∀ {l' : List Operand} {l : List AV}, chkL l' l = true → ∀ {G : Nat → C} {s : Slots}, St c G zl s a w →
    ∃ cs G', cs.map C.er = (takes tk l s).1 ∧ cs.map C.val = l'.map a.eval ∧ TookL w zl c.zb G cs G' (takes tk l s).2 ∧ ∀ x ∈ cs, x.shape
  | [], [], _, G, s, h => ⟨[], G, rfl, rfl, TookL.nil h.inv, fun _ hx => (by cases hx)⟩
  | x' :: l', x :: l, hc, G, s, h => by
    simp only [chkL, Bool.and_eq_true] at hc
    obtain ⟨p, p1, p2, p3⟩ := av_ok h hc.1
    obtain ⟨y, G1, f1, f2, f3, f4⟩ := take_ok tk h.inv p3
    obtain ⟨cs, G', g1, g2, g3, g4⟩ := takes_ok tk hc.2 (h.took0 f4)
    rw [p1] at f1 g1 g3 f4
    refine ⟨y :: cs, G', by simp [takes, f1, g1], by simp [f2, p2, g2], TookL.cons f4 g3, fun z hz => ?_⟩
    rcases List.mem_cons.1 hz with rfl | hz
    · exact shape_of f4.rf
    · exact g4 z hz
  | [], _ :: _, hc, _, _, _ => by cases hc
  | _ :: _, [], hc, _, _, _ => by cases hc
theorem take_al (x : X) (s : Slots) : take .al x s = (x, s) := by
  cases x <;> rfl
theorem takes_al : ∀ (l : List AV) (s : Slots), takes .al l s = (l.map (opv s), s)
  | [], s => rfl
  | x :: l, s => by simp only [takes, take_al, takes_al l s, List.map_cons]
/-- The same, where the cells are known to point right. -/
theorem takes_all (tk : Tk) {l' : List Operand} {l : List AV} (hc : chkL l' l = true) (h : St c G zl s a w) (hs : solids tk (takes tk l s).1) :
    ∃ cs G', cs.map C.er = (takes tk l s).1 ∧ cs.map C.val = l'.map a.eval ∧ TookL w zl c.zb G cs G' (takes tk l s).2 ∧ (∀ x ∈ cs, x.shape) ∧ ∀ x ∈ cs, ∀ y ∈ x.cells, y.rf G' := by
  have gen : (∀ x ∈ (takes tk l s).1, solidL (cellsOf x) = true) → ∃ cs G', cs.map C.er = (takes tk l s).1 ∧ cs.map C.val = l'.map a.eval ∧ TookL w zl c.zb G cs G' (takes tk l s).2 ∧ (∀ x ∈ cs, x.shape) ∧ ∀ x ∈ cs, ∀ y ∈ x.cells, y.rf G' := by
    intro hs
    obtain ⟨cs, G', g1, g2, g3, g4⟩ := takes_ok tk hc h
    refine ⟨cs, G', g1, g2, g3, g4, fun x hx y hy => C.plain_rf (kid_plain (g4 x hx) (g3.all x hx).1 (hs _ ?_) hy) _⟩
    rw [← g1]
    exact List.mem_map_of_mem hx
  cases tk with
  | al =>
    rw [takes_al]
    obtain ⟨cs, l1, l2, l3⟩ := opds_ok h hc
    exact ⟨cs, G, l1, l2, TookL.none h.inv fun x hx => ⟨(l3 x hx).ok, (l3 x hx).nofp⟩, fun x hx => shape_of (l3 x hx).rf, fun x hx y hy => cells_rf (l3 x hx).rf hy⟩
  | mv => exact gen hs
  | as_ => exact gen hs

/-- A literal's parts: one behind the other. -/
def chkParts : Nat → List (Nat × Operand) → List AV → Bool
  | _, [], [] => true
  | k, (i, x') :: l', x :: l => i == k && chkV x' x && chkParts (k + 1) l' l
  | _, _, _ => false
theorem chkParts_ok (a : Act) : ∀ {k : Nat} {l' : List (Nat × Operand)} {l : List AV}, chkParts k l' l = true → chkL (l'.map (·.2)) l = true ∧ l'.length = l.length ∧ (l'.map fun x => (x.1, a.eval x.2)) = (((l'.map (·.2)).map a.eval).zipIdx k).map fun x => (x.2, x.1)
  | k, [], [], _ => ⟨rfl, rfl, rfl⟩
  | k, (i, x') :: l', x :: l, h => by
    simp only [chkParts, Bool.and_eq_true, beq_iff_eq] at h
    obtain ⟨⟨rfl, h1⟩, h2⟩ := h
    obtain ⟨i1, i2, i3⟩ := chkParts_ok a h2
    exact ⟨by simp [chkL, h1, i1], by simp [i2], by simp [i3, List.zipIdx_cons]⟩
  | k, [], _ :: _, h => by cases h
  | k, _ :: _, [], h => by cases h

theorem op_lit (h : St c G zl s a w) {d sz n : Nat} {tk : Tk} {ty el : TypeId} {i : TypeInfo} {v : Value} {ps : List AV} {ps' : Array (Nat × Operand)} (ho : o.op = .buildSlice ty n ps') (hu : P.underlying ty = some (.slice el)) (hi : P.info? el = some i) (hz : i.zero = some v) (hsz : i.size = sz)
    (h0 : 0 < sz) (hvs : v.cells.size = sz) (hn' : ps'.toList.length = n) (hbig : n * sz ≤ 16777216) (hd : o.dst = some d) (hn : d < c.nt) (hx : chkParts 0 ps'.toList ps = true) (hK : awpOp P (.lit d tk sz ps) s K) : GoodQ P c o a w K := by
  obtain ⟨i1, i2, i3⟩ := chkParts_ok a hx
  obtain ⟨k1, k2⟩ := hK
  obtain ⟨cs, G', g1, g2, g3, g4⟩ := takes_ok tk i1 h
  rw [← g1] at k1 k2
  have hlen : ∀ x ∈ cs, x.cells.length = sz := fun x hx => by
    have := (k1 x.er (List.mem_map_of_mem hx)).1
    rw [← cells_er] at this
    simpa using this
  have hcl : cs.length = n := by
    have := congrArg List.length g2
    simp only [List.length_map] at this
    omega
  have hL : ∀ e ∈ cs.map C.cells, e.length = sz := fun e he => by
    obtain ⟨x, hx, rfl⟩ := List.mem_map.1 he
    exact hlen x hx
  have hfl : (cs.map C.cells).flatten = cs.flatMap C.cells := by rw [List.flatMap_def]
  have hval : ∀ x ∈ cs, x.val.cells = (x.cells.map C.val).toArray := fun x hx => cells_val (by rw [hlen x hx]; exact h0) (g4 x hx)
  have hvl : ∀ v ∈ cs.map C.val, v.cells.size = sz := fun v hv => by
    obtain ⟨x, hx, rfl⟩ := List.mem_map.1 hv
    rw [hval x hx]
    simp [hlen x hx]
  have hflat : ((cs.map C.val).flatMap fun v => v.cells.toList) = (cs.flatMap C.cells).map C.val := by
    rw [List.map_flatMap, List.flatMap_map]
    clear k1 k2 g1 g2 g3 g4 hcl hL hfl hvl hlen
    induction cs with
    | nil => rfl
    | cons x cs ih =>
      rw [List.flatMap_cons, List.flatMap_cons, ih fun y hy => hval y (List.mem_cons_of_mem _ hy), hval x (List.mem_cons_self ..)]
  have hparts : (ps'.map fun (i, x) => (i, a.eval x)).toList = ((cs.map C.val).zipIdx 0).map fun x => (x.2, x.1) := by
    rw [Array.toList_map, g2]
    exact i3
  have hrun : (Instr.buildSlice ty n (ps'.map fun (i, x) => (i, a.eval x))).run P w = .ok (.slice (some ⟨w.heap.size, 0, none⟩) n n) (w.alloc (.cells ((cs.flatMap C.cells).map C.val).toArray el)) := by
    by_cases hz0 : n = 0
    · subst hz0
      have hc0 : cs = [] := List.eq_nil_of_length_eq_zero hcl
      subst hc0
      have hp : ps' = #[] := by
        apply Array.ext'
        exact List.eq_nil_of_length_eq_zero hn'
      subst hp
      simp [Instr.buildSlice, run_underlying hu, Go.sizeOf, typeInfo, hi, newRow, Instr.fill, Array.range_zero']
    · have hsmall : ¬ n * i.size > 2 ^ 24 := by rw [hsz]; omega
      have hpos : ¬ n * i.size = 0 := by
        rw [hsz]
        have := Nat.mul_pos (Nat.pos_of_ne_zero hz0) h0
        omega
      refine run_buildSlice (P := P) w ty el n _ _ i v hu hi hz hsmall hpos ?_
      rw [hparts, hsz, ← hflat]
      exact Great.fill_whole h0 _ _ hvl (by simp [hcl])
  refine good_row h (L := cs.map C.cells) (cap := n) (sz := sz) (fz := (0, 0)) (w' := w.alloc (.cells ((cs.flatMap C.cells).map C.val).toArray el)) hL (by simp [hcl]) (by rw [hfl]; exact TookL.flat g3 g4) (fun y hy => ?_) hd hn (alloc_ext w _) (heap_new w _) ?_ (fun k _ hh => by simp at hh) ?_ ?_ ?_
  · rw [hfl] at hy
    obtain ⟨x, hx, hy⟩ := List.mem_flatMap.1 hy
    exact kid_plain (g4 x hx) (g3.all x hx).1 (k1 x.er (List.mem_map_of_mem hx)).2 hy
  · have := flatten_length hL
    rw [hfl] at this
    simp only [List.length_map] at this
    simp [this, hcl]
  · intro q x hq
    rw [hfl] at hq
    simp [hq]
  · have : (cs.map C.cells).length = n := by simp [hcl]
    rw [this]
    simp only [execOp, ho, Sem.run_bind, hrun, Result.andThen_ok, Sem.run_pure]
  · rw [List.map_map] at k2 ⊢
    have : cs.map (cellsOf ∘ C.er) = cs.map ((fun e => e.map C.er) ∘ C.cells) := List.map_congr_left fun x _ => (cells_er x).symm
    rw [← this]
    exact k2

/-! ### Structs built -/
theorem foldl_fillX : ∀ (vs : List Value) (off k : Nat) (cells : Array Value), ((vs.zipIdx k).foldl (fun cs (x : Value × Nat) => cs.setIfInBounds (off + x.2) x.1) cells).toList = fillX cells.toList (off + k) vs
  | [], off, k, cells => rfl
  | v :: vs, off, k, cells => by
    rw [List.zipIdx_cons, List.foldl_cons, foldl_fillX vs off (k + 1)]
    rw [Array.toList_setIfInBounds]
    rfl
theorem fillX_map {α β : Type} (f : α → β) : ∀ (ys : List α) (l : List α) (o : Nat), (fillX l o ys).map f = fillX (l.map f) o (ys.map f)
  | [], l, o => rfl
  | y :: ys, l, o => by
    simp only [fillX, List.map_cons]
    rw [fillX_map f ys, List.map_set]
theorem fillX_length {α : Type} : ∀ (ys : List α) (l : List α) (o : Nat), (fillX l o ys).length = l.length
  | [], l, o => rfl
  | y :: ys, l, o => by simp only [fillX]; rw [fillX_length ys, List.length_set]
theorem fillX_mem {α : Type} : ∀ (ys : List α) (l : List α) (o : Nat), ∀ x ∈ fillX l o ys, x ∈ l ∨ x ∈ ys
  | [], l, o, x, hx => .inl hx
  | y :: ys, l, o, x, hx => by
    rcases fillX_mem ys _ _ x hx with hx | hx
    · rcases List.mem_or_eq_of_mem_set hx with hx | rfl
      · exact .inl hx
      · exact .inr (List.mem_cons_self ..)
    · exact .inr (List.mem_cons_of_mem _ hx)
theorem set_pairwise {α : Type} {R : α → α → Prop} (hsym : ∀ a b, R a b → R b a) {y : α} : ∀ {l : List α}, l.Pairwise R → (∀ x ∈ l, R x y) → ∀ o, (l.set o y).Pairwise R
  | [], h, hy, o => by simp
  | x :: l, h, hy, 0 => by
    rw [List.pairwise_cons] at h
    rw [List.set_cons_zero]
    exact List.pairwise_cons.2 ⟨fun a ha => hsym _ _ (hy a (List.mem_cons_of_mem _ ha)), h.2⟩
  | x :: l, h, hy, o + 1 => by
    rw [List.pairwise_cons] at h
    rw [List.set_cons_succ]
    refine List.pairwise_cons.2 ⟨fun a ha => ?_, set_pairwise hsym h.2 (fun z hz => hy z (List.mem_cons_of_mem _ hz)) o⟩
    rcases List.mem_or_eq_of_mem_set ha with ha | rfl
    · exact h.1 a ha
    · exact hy x (List.mem_cons_self ..)
theorem fillX_pairwise {α : Type} {R : α → α → Prop} (hsym : ∀ a b, R a b → R b a) : ∀ (ys : List α) (l : List α) (o : Nat), l.Pairwise R → ys.Pairwise R → (∀ x ∈ l, ∀ y ∈ ys, R x y) → (fillX l o ys).Pairwise R
  | [], l, o, h, _, _ => h
  | y :: ys, l, o, h, h2, h3 => by
    rw [List.pairwise_cons] at h2
    refine fillX_pairwise hsym ys _ _ (set_pairwise hsym h (fun x hx => h3 x hx y (List.mem_cons_self ..)) o) h2.2 fun x hx z hz => ?_
    rcases List.mem_or_eq_of_mem_set hx with hx | rfl
    · exact h3 x hx z (List.mem_cons_of_mem _ hz)
    · exact h2.1 z hz
def fillsC : List C → List Nat → List C → List C
  | cs, o :: os, y :: ys => fillsC (fillX cs o y.cells) os ys
  | cs, _, _ => cs
theorem fillsC_er : ∀ (cs : List C) (os : List Nat) (ys : List C), (fillsC cs os ys).map C.er = fills (cs.map C.er) os (ys.map C.er)
  | cs, [], ys => by cases ys <;> rfl
  | cs, o :: os, [] => rfl
  | cs, o :: os, y :: ys => by
    simp only [fillsC, fills, List.map_cons]
    rw [fillsC_er, fillX_map, cells_er]
theorem fillsC_mem : ∀ (cs : List C) (os : List Nat) (ys : List C), ∀ x ∈ fillsC cs os ys, x ∈ cs ∨ x ∈ ys.flatMap C.cells
  | cs, [], ys, x, hx => by cases ys <;> exact .inl hx
  | cs, o :: os, [], x, hx => .inl hx
  | cs, o :: os, y :: ys, x, hx => by
    rw [List.flatMap_cons, List.mem_append]
    rcases fillsC_mem _ os ys x hx with hx | hx
    · exact (fillX_mem _ _ _ x hx).imp id .inl
    · exact .inr (.inr hx)
theorem fillsC_pairwise {R : C → C → Prop} (hsym : ∀ a b, R a b → R b a) : ∀ (cs : List C) (os : List Nat) (ys : List C), cs.Pairwise R → (ys.flatMap C.cells).Pairwise R → (∀ x ∈ cs, ∀ y ∈ ys.flatMap C.cells, R x y) → (fillsC cs os ys).Pairwise R
  | cs, [], ys, h, _, _ => by cases ys <;> exact h
  | cs, o :: os, [], h, _, _ => h
  | cs, o :: os, y :: ys, h, h2, h3 => by
    rw [List.flatMap_cons, List.pairwise_append] at h2
    refine fillsC_pairwise hsym _ os ys (fillX_pairwise hsym _ _ _ h h2.1 fun x hx z hz => h3 x hx z (by rw [List.flatMap_cons]; exact List.mem_append_left _ hz)) h2.2.1 fun x hx z hz => ?_
    rcases fillX_mem _ _ _ x hx with hx | hx
    · exact h3 x hx z (by rw [List.flatMap_cons]; exact List.mem_append_right _ hz)
    · exact h2.2.2 x hx z hz

/-- A struct's parts, each at its place. -/
def chkBuild (places : List (Nat × Nat)) (len : Nat) : List (Nat × Operand) → List ((Nat × Nat) × AV) → Bool
  | [], [] => true
  | (i, x') :: l', ((off, size), x) :: l => (match places[i]? with | some q => q.1 == off && q.2 == size | none => false) && decide (0 < size) && decide (off + size ≤ len) && chkV x' x && chkBuild places len l' l
  | _, _ => false
theorem chkBuild_opds {places : List (Nat × Nat)} {len : Nat} : ∀ {l' : List (Nat × Operand)} {l : List ((Nat × Nat) × AV)}, chkBuild places len l' l = true → chkL (l'.map (·.2)) (l.map (·.2)) = true
  | [], [], _ => rfl
  | (i, x') :: l', ((off, size), x) :: l, h => by
    simp only [chkBuild, Bool.and_eq_true] at h
    simp only [List.map_cons, chkL, h.1.2, chkBuild_opds h.2, Bool.and_self]
  | [], _ :: _, h => by cases h
  | _ :: _, [], h => by cases h
theorem fill_build (a : Act) {places : List (Nat × Nat)} {len : Nat} : ∀ {l' : List (Nat × Operand)} {l : List ((Nat × Nat) × AV)}, chkBuild places len l' l = true → ∀ (zs cs : List C), zs.length = len → cs.map C.val = (l'.map (·.2)).map a.eval → (∀ x ∈ cs, x.shape) → sizesOk (l.map (·.1.2)) (cs.map C.er) →
    Instr.fill (fun i => places[i]?) (zs.map C.val).toArray (l'.map fun x => (x.1, a.eval x.2)) = some ((fillsC zs (l.map (·.1.1)) cs).map C.val).toArray
  | [], [], _, zs, cs, hz, hv, hs, hsz => by
    cases cs with
    | nil => rfl
    | cons x cs => simp at hv
  | (i, x') :: l', ((off, size), x) :: l, h, zs, cs, hz, hv, hs, hsz => by
    simp only [chkBuild, Bool.and_eq_true, decide_eq_true_eq] at h
    obtain ⟨⟨⟨⟨h1, h2⟩, h3⟩, h4⟩, h5⟩ := h
    cases cs with
    | nil => simp at hv
    | cons y cs =>
      simp only [List.map_cons, List.cons.injEq] at hv
      simp only [List.map_cons, sizesOk] at hsz
      have hpl : places[i]? = some (off, size) := by
        cases hp : places[i]? with
        | none => rw [hp] at h1; cases h1
        | some q =>
          rw [hp] at h1
          simp only [Bool.and_eq_true, beq_iff_eq] at h1
          rw [← h1.1, ← h1.2]
      have hyl : y.cells.length = size := by
        have := hsz.1
        rw [← cells_er] at this
        simpa using this
      have hyv := cells_val (by rw [hyl]; exact h2) (hs y (List.mem_cons_self ..))
      simp only [List.map_cons]
      unfold Instr.fill
      simp only [hpl, ← hv.1, hyv]
      rw [if_neg (by simp [hyl, hz]; exact h3)]
      have : (((y.cells.map C.val).toArray.zipIdx).foldl (fun cs (x : Value × Nat) => cs.setIfInBounds (off + x.2) x.1) (zs.map C.val).toArray) = ((fillX zs off y.cells).map C.val).toArray := by
        apply Array.ext'
        rw [← Array.foldl_toList, Array.toList_zipIdx, foldl_fillX, fillX_map]
        rfl
      have ih := fill_build a h5 (fillX zs off y.cells) cs (by rw [fillX_length]; exact hz) hv.2 (fun x hx => hs x (List.mem_cons_of_mem _ hx)) hsz.2
      simp only [fillsC]
      rw [← ih, ← this]
  | [], _ :: _, h, _, _, _, _, _, _ => by cases h
  | _ :: _, [], h, _, _, _, _, _, _ => by cases h
theorem op_build (h : St c G zl s a w) {d : Nat} {tk : Tk} {ty : TypeId} {i : TypeInfo} {v : Value} {z : List X} {ps : List ((Nat × Nat) × AV)} {ps' : Array (Nat × Operand)} {places : List (Nat × Nat)} (ho : o.op = .build ty ps')
    (hb : ∀ parts cells, Instr.fill (fun i => places[i]?) v.cells parts = some cells → P.built ty parts = some cells) (hc : chkZ v.cells.toList z = true) (hd : o.dst = some d) (hn : d < c.nt) (hx : chkBuild places z.length ps'.toList ps = true)
    (hK : awpOp P (.build d tk z ps) s K) : GoodQ P c o a w K := by
  obtain ⟨k1, k2, k3⟩ := hK
  obtain ⟨cs, G', g1, g2, g3, g4, g5⟩ := takes_all tk (chkBuild_opds hx) h k1
  obtain ⟨l, l1, l2, l3⟩ := zeros_ok w zl c.zb hc
  rw [← g1] at k2 k3
  have hll : l.length = z.length := by rw [← l1]; simp
  have hfill := fill_build a hx l cs hll g2 g4 k2
  have hvz : (l.map C.val).toArray = v.cells := by rw [l2]
  rw [hvz] at hfill
  have hrun : (Instr.build ty (ps'.map fun (i, x) => (i, a.eval x))).run P w = .ok (.agg ((fillsC l (ps.map (·.1.1)) cs).map C.val).toArray) w := by
    refine run_build w ty _ _ (hb _ _ ?_)
    rw [Array.toList_map]
    exact hfill
  have hT := TookL.flat g3 g4
  have hall : ∀ x ∈ fillsC l (ps.map (·.1.1)) cs, x.cell ∧ x.ok w (Zf zl c.zb) ∧ x.rf G' ∧ ∀ b k, x.fp b k → ∃ y ∈ cs.flatMap C.cells, y.fp b k := fun x hx => by
    rcases fillsC_mem _ _ _ x hx with hx | hx
    · obtain ⟨a1, a2, a3⟩ := l3 x hx
      exact ⟨C.plain_cell a1, a2, C.plain_rf a1 _, fun b k hf => (a3 b k hf).elim⟩
    · obtain ⟨y, hy, hx'⟩ := List.mem_flatMap.1 hx
      obtain ⟨b1, b2⟩ := cells_ok (g4 y hy) (g3.all y hy).1 hx'
      exact ⟨b1, b2, g5 y hy x hx', fun b k hf => ⟨x, hx, hf⟩⟩
  have hpw : (fillsC l (ps.map (·.1.1)) cs).Pairwise fun a b => ∀ x k, a.fp x k → ¬ b.fp x k :=
    fillsC_pairwise (fun a b hab x k hf hf' => hab x k hf' hf) _ _ _ (apart_of fun x hx => (l3 x hx).2.2) hT.apart fun x hx y _ b k hf => ((l3 x hx).2.2 b k hf).elim
  obtain ⟨G2, h'⟩ := h.fresh hT (Ext.refl _ w) hn (x := aggL (fillsC l (ps.map (·.1.1)) cs)) ⟨fun j hj => ⟨(hall _ (getD_mem hj _)).1, (hall _ (getD_mem hj _)).2.1⟩, fun j hj b k hf j' hj' hne => pairwise_getD hpw _ hj hj' hne hf⟩ (fun j hj => (hall _ (getD_mem hj _)).2.2.1) (fun b k hf => by
    obtain ⟨x, hx, hf⟩ := (aggL_fp _ _ _).1 hf
    exact .inr ((hall x hx).2.2.2 b k hf))
  refine ⟨.agg ((fillsC l (ps.map (·.1.1)) cs).map C.val).toArray, w, ?_, Ext.refl _ _, G2, zl, _, k3, ?_⟩
  · simp only [execOp, ho, Sem.run_bind, hrun, Result.andThen_ok, Sem.run_pure]
  · rw [hd]
    rw [aggL_er, fillsC_er, l1, aggL_val] at h'
    exact h'
end
end M
set_option linter.unusedVariables false
set_option linter.unusedSimpArgs false
namespace M
open Go Go.RowKit
variable [Bs]
section
variable {P : Program}

theorem run_store1 {w : World} {g k : Nat} {v u : Value} (hv : v.oneCell' = true) (hc : w.cell? ⟨g, k, none⟩ = some u) (hf : w.frozen? ⟨g, k, none⟩ = false) : (store ⟨g, k, none⟩ v).run P w = .ok () (w.setCell ⟨g, k, none⟩ v) := by
  rw [run_store P w _ v _ hv, hc]
  simp [hf]

theorem Spot.hand {d y z : C} {i c g k : Nat} (h : Spot d i c y g k) (hz : y.solid → z.solid) : Spot d i c z g k := by
  cases h with
  | row h hi hc hs => exact .row h hi hc (hz hs)
  | ptr h hi hc => exact .ptr h hi hc
theorem Spot.fp {d y : C} {i c g k : Nat} (h : Spot d i c y g k) : d.fp g k := by
  cases h with
  | row hd hi hc hs => subst hd; exact ⟨rfl, .inl ⟨_, rfl⟩⟩
  | ptr hd hi hc => subst hd; exact ⟨rfl, .inl ⟨rfl, by omega, by omega⟩⟩
/-- What is held in hand while cells are written. -/
structure Hands (w : World) (zl zb : Nat → Nat → Prop) (G : Nat → C) (l : List C) : Prop where
  all : ∀ x ∈ l, x.cell ∧ x.ok w (Zf zl zb) ∧ x.rf G ∧ (∀ t b k, x.fp b k → ¬ (G t).fp b k) ∧ ∀ b k, x.fp b k → ¬ zl b k ∧ ¬ zb b k
  apart : l.Pairwise fun a b => ∀ x k, a.fp x k → ¬ b.fp x k

theorem killL_er (r : Nat) (p : Path) (l : List C) : X.killL r p (l.map C.er) = (l.map fun x => x.cutOff (C.kills r p)).map C.er := by
  rw [X.killL_map, List.map_map]
  exact List.map_congr_left fun x _ => (C.kill_er r p x).symm

theorem stores_ok (r : Nat) (p : Path) (i : Nat) {zl zb : Nat → Nat → Prop} {g k0 : Nat} : ∀ (n : Nat) (l : List C), l.length = n → ∀ (c m : Nat) {w : World} {G : Nat → C} {s : Slots} {d : C}, Inv w zl zb G s → (G r).sub p = some d →
    (∀ q x, l[q]? = some x → Spot d i (c + q) x g (k0 + m + q)) → Hands w zl zb G l →
    ∃ w' G', (storeCells ⟨g, k0, none⟩ (l.map C.val) m).run P w = .ok () w' ∧ Inv w' zl zb G' (setCells r p i c (l.map C.er) s) ∧ (∀ t, (G' t).val = (G t).val) ∧ (∀ t b k, (G' t).fp b k → (∃ x ∈ l, x.fp b k) ∨ (G t).fp b k) ∧ Ext (fun b k => b = g ∧ k0 + m ≤ k ∧ k < k0 + m + n) w w'
  | 0, l, hn, c, m, w, G, s, d, h, hsub, hsp, hh => by
    have : l = [] := List.eq_nil_of_length_eq_zero hn
    subst this
    exact ⟨w, G, rfl, by simpa [setCells] using h, fun _ => rfl, fun t b k hf => .inr hf, Ext.refl _ _⟩
  | n + 1, [], hn, c, m, w, G, s, d, h, hsub, hsp, hh => by simp at hn
  | n + 1, y :: l, hn, c, m, w, G, s, d, h, hsub, hsp, hh => by
    have hsp0 := hsp 0 y rfl
    simp only [Nat.add_zero] at hsp0
    obtain ⟨y1, y2, y3, y4, y5⟩ := hh.all y (List.mem_cons_self ..)
    obtain ⟨G1, i1, i2, i3, i4, i5, i6, i7, d', i8, i9⟩ := h.store r p i c d y g (k0 + m) hsub hsp0 y2 y1 y3 y4 y5
    obtain ⟨u, hu⟩ := i5
    have hE := Ext.setCell w g (k0 + m) y.val
    have hpw := List.pairwise_cons.1 hh.apart
    have hdr : ∀ {b k}, d.fp b k → (G r).fp b k := fun hf => C.sub_fp p hsub (h.ok r) hf
    -- the other hands, as they are now
    have hands : ∀ (f : C → C), (∀ x, f x = if oldRooted r p i c s then x.cutOff (C.kills r (p ++ [(i, c)])) else x) → Hands (w.setCell ⟨g, k0 + m, none⟩ y.val) zl zb G1 (l.map f) := by
      intro f hfx
      have hfp : ∀ x b k, (f x).fp b k ↔ x.fp b k := fun x b k => by
        rw [hfx]; split
        · exact C.off_fp _ x b k
        · exact Iff.rfl
      refine ⟨fun x hx => ?_, ?_⟩
      · obtain ⟨x, hx0, rfl⟩ := List.mem_map.1 hx
        clear hx
        have hx : x ∈ l := hx0
        obtain ⟨x1, x2, x3, x4, x5⟩ := hh.all x (List.mem_cons_of_mem _ hx)
        have hok : x.ok (w.setCell ⟨g, k0 + m, none⟩ y.val) (Zf zl zb) := C.ok_ext hE (fun mm b k hz hs => by
          obtain ⟨rfl, rfl⟩ := hs
          exact h.zfp r mm _ _ hz (hdr i4)) _ (fun b k hf hs => by
          obtain ⟨rfl, rfl⟩ := hs
          exact x4 r _ _ hf (hdr i4)) x2
        refine ⟨?_, ?_, ?_, fun t b k hf hf' => ?_, fun b k hf => x5 b k ((hfp x b k).1 hf)⟩
        · rw [hfx]; split
          · exact C.off_cell _ _ x1
          · exact x1
        · rw [hfx]; split
          · exact C.off_ok _ _ hok
          · exact hok
        · have := i7 x x3
          rw [hfx]
          cases hb : oldRooted r p i c s <;> rw [hb] at this <;> exact this
        · rcases i3 t b k hf' with hy | hg
          · exact hpw.1 x hx b k hy ((hfp x b k).1 hf)
          · exact x4 t b k ((hfp x b k).1 hf) hg
      · refine List.pairwise_map.2 (hpw.2.imp ?_)
        intro a b hab x k hf hf'
        exact hab x k ((hfp a x k).1 hf) ((hfp b x k).1 hf')
    have fin : ∀ (f : C → C), (∀ x, f x = if oldRooted r p i c s then x.cutOff (C.kills r (p ++ [(i, c)])) else x) → setCells r p i c ((y :: l).map C.er) s = setCells r p i (c + 1) ((l.map f).map C.er) (setCell r p i c y.er s) →
        ∃ w' G', (storeCells ⟨g, k0, none⟩ ((y :: l).map C.val) m).run P w = .ok () w' ∧ Inv w' zl zb G' (setCells r p i c ((y :: l).map C.er) s) ∧ (∀ t, (G' t).val = (G t).val) ∧ (∀ t b k, (G' t).fp b k → (∃ x ∈ y :: l, x.fp b k) ∨ (G t).fp b k) ∧ Ext (fun b k => b = g ∧ k0 + m ≤ k ∧ k < k0 + m + (n + 1)) w w' := by
      intro f hfx hset
      have hfp : ∀ x b k, (f x).fp b k ↔ x.fp b k := fun x b k => by
        rw [hfx]; split
        · exact C.off_fp _ x b k
        · exact Iff.rfl
      have hval : (l.map f).map C.val = l.map C.val := by
        rw [List.map_map]
        refine List.map_congr_left fun x _ => ?_
        show (f x).val = x.val
        rw [hfx]; split
        · exact C.off_val _ x
        · rfl
      obtain ⟨w', G', j1, j2, j3, j4, j5⟩ := stores_ok r p i n (l.map f) (by simpa using hn) (c + 1) (m + 1) i1 i8 (fun q x hq => by
        rw [List.getElem?_map] at hq
        cases hlq : l[q]? with
        | none => rw [hlq] at hq; cases hq
        | some x0 =>
          rw [hlq] at hq
          simp only [Option.map_some, Option.some.injEq] at hq
          subst hq
          have h1 := i9 _ _ _ _ _ (hsp (q + 1) x0 (by simpa using hlq))
          rw [show c + 1 + q = c + (q + 1) by omega, show k0 + (m + 1) + q = k0 + m + (q + 1) by omega]
          rw [hfx]; split
          · exact h1.hand fun hs => by rw [C.off_solid _ _ hs]; exact hs
          · exact h1) (hands f hfx)
      refine ⟨w', G', ?_, by rw [hset]; exact j2, fun t => (j3 t).trans (i2 t), fun t b k hf => ?_, ?_⟩
      · rw [List.map_cons, storeCells, Sem.run_bind, add_at, run_store1 (Inv.cell_val y1) hu i6]
        simp only [Result.andThen_ok]
        rw [← hval]
        exact j1
      · rcases j4 t b k hf with ⟨x, hx, hf'⟩ | hf'
        · obtain ⟨x0, hx0, rfl⟩ := List.mem_map.1 hx
          exact .inl ⟨x0, List.mem_cons_of_mem _ hx0, (hfp x0 b k).1 hf'⟩
        · exact (i3 t b k hf').imp (fun hy => ⟨y, List.mem_cons_self .., hy⟩) id
      · refine (hE.mono (S' := fun b k => b = g ∧ k0 + m ≤ k ∧ k < k0 + m + (n + 1)) (fun b k hs _ => ⟨hs.1, by omega, by omega⟩)).trans j5 fun b k hs hb => ⟨hs.1, by omega, by omega⟩
    cases hor : oldRooted r p i c s with
    | true =>
      refine fin (fun x => x.cutOff (C.kills r (p ++ [(i, c)]))) (fun x => by rw [if_pos hor]) ?_
      simp only [List.map_cons]
      rw [setCells, hor, cond_true, killL_er]
    | false =>
      refine fin id (fun x => by rw [hor]; rfl) ?_
      simp only [List.map_cons]
      rw [setCells, hor, cond_false]
      simp
end
end M
set_option linter.unusedVariables false
set_option linter.unusedSimpArgs false
namespace M
open Go Go.RowKit
variable [Bs]
section
variable {P : Program} {c : Ctx} {G : Nat → C} {zl : Nat → Nat → Prop} {s : Slots} {a : Act} {w : World} {o : Oper} {K : Slots → Prop}

/-- Where cells may be written. -/
theorem spots_of {zb : Nat → Nat → Prop} (h : Inv w zl zb G s) {v : Value} {r : Nat} {p : Path} {i k : Nat} (hr : (C.adr v r p i k).rf G) {l : List C} (hs : storable s r p i k (l.map C.er)) (hl : ∀ x ∈ l, solid x.er = true → x.solid) :
    ∃ g k0 d, v = .pointer (some ⟨g, k0, none⟩) ∧ (G r).sub p = some d ∧ ∀ q x, l[q]? = some x → Spot d i (k + q) x g (k0 + q) := by
  obtain ⟨d, hd, hp⟩ := hr
  unfold storable look at hs
  rw [← h.er, C.sub_er, hd] at hs
  simp only [Option.map_some] at hs
  rcases hp with ⟨m, sz, g, o, len, cap, e, rfl, rfl⟩ | ⟨m, g, o, n, f, rfl, rfl, rfl⟩
  · refine ⟨g, o + i * sz + k, _, rfl, hd, fun q x hq => ?_⟩
    simp only [C.er] at hs
    cases m with
    | own =>
      simp only [C.map_range_get?] at hs
      split at hs
      · rename_i e0 he0
        split at he0
        · rename_i hi
          injection he0 with he0
          obtain ⟨h1, h2⟩ := hs
          have hlen : e0.length = sz := by rw [← he0]; simp
          have hq' := (List.getElem?_eq_some_iff.1 hq).1
          simp only [List.length_map] at h1
          have := Spot.row (d := .row .own sz (some (g, o, none)) len cap e) (i := i) (c := k + q) (y := x) rfl hi (by omega) (hl x (List.mem_of_getElem? hq) (solidL_all h2 _ (List.mem_map_of_mem (List.mem_of_getElem? hq))))
          rwa [show o + i * sz + (k + q) = o + i * sz + k + q by omega] at this
        · cases he0
      · exact hs.elim
    | sl => exact hs.elim
    | bor => exact hs.elim
  · refine ⟨g, o + k, _, rfl, hd, fun q x hq => ?_⟩
    simp only [C.er] at hs
    cases m with
    | own =>
      have hq' := (List.getElem?_eq_some_iff.1 hq).1
      simp only [List.length_map, List.length_range] at hs
      have := Spot.ptr (d := .ptr .own g o n f) (i := 0) (c := k + q) (y := x) rfl rfl (by omega)
      rwa [show o + (k + q) = o + k + q by omega] at this
    | sl => exact hs.elim
    | bor => exact hs.elim

theorem solid_of_er {x : C} (h : solid x.er = true) : x.solid := by
  cases x <;> first | trivial | (simp [C.er, solid] at h)

theorem op_store (h : St c G zl s a w) {sz : Nat} {tk : Tk} {ty : TypeId} {x y : AV} {x' y' : Operand} (ho : o.op = .store ty y' x') (hsz : ∃ i, P.info? ty = some i ∧ i.size = sz) (h0 : 0 < sz) (hd : o.dst = none) (hx : chkV x' x = true) (hy : chkV y' y = true)
    (hK : awpOp P (.store sz tk y x) s K) : Good P c o a w K := by
  obtain ⟨p, e1, e2, e3⟩ := av_ok h hx
  obtain ⟨q, G1, f1, f2, f3, f4⟩ := take_ok tk h.inv e3
  obtain ⟨k1, k2⟩ := hK
  rw [e1] at f1 f4
  have h1 := h.took0 f4
  obtain ⟨u, u1, u2, u3⟩ := av_ok h1 hy
  rw [← u1] at k2
  cases u with
  | adr v r pp i k =>
    simp only [C.er] at k2
    obtain ⟨k2, k3⟩ := k2
    rw [← f1, ← cells_er] at k1 k2 k3
    have hsh := shape_of f4.rf
    have hT := TookL.flat (TookL.one f4) (fun x hx => by rw [List.mem_singleton] at hx; subst hx; exact hsh)
    simp only [List.flatMap_cons, List.flatMap_nil, List.append_nil] at hT
    obtain ⟨g, k0, d, hv, hsub, hsp⟩ := spots_of h1.inv u3.rf k2 (fun x _ hs => solid_of_er hs)
    have hlen : q.cells.length = sz := by simpa using k1
    obtain ⟨w', G', j1, j2, j3, j4, j5⟩ := stores_ok (P := P) r pp i (k0 := k0) q.cells.length q.cells rfl k 0 h1.inv hsub (by simpa using hsp) ⟨fun x hx => ⟨(cells_ok hsh f4.ok hx).1, (cells_ok hsh f4.ok hx).2, cells_rf f4.rf hx, (hT.all x hx).2.1, (hT.all x hx).2.2.1⟩, hT.apart⟩
    have hcv := cells_val (by omega) hsh
    refine ⟨undef, w', .inr ⟨?_, rfl⟩, G', zl, _, k3, ?_⟩
    · have hav : a.eval y' = .pointer (some ⟨g, k0, none⟩) := by rw [← u2]; exact hv
      obtain ⟨ii, hi, hisz⟩ := hsz
      have hxv : a.eval x' = q.val := by rw [f2, e2]
      simp [execOp, ho, hav, hxv, Instr.storeAt, Instr.sureAddr, storeVar, hcv, Go.sizeOf, typeInfo, hi, hisz, hlen, j1]
    · rw [hd]
      refine h.move j2 (fun t => (j3 t).trans (f4.val t)) j5 (fun b k' hs => ?_) (fun t b k' hf => ?_)
      · obtain ⟨rfl, hs1, hs2⟩ := hs
        simp only [Nat.add_zero] at hs1 hs2
        have hlt : k' - k0 < q.cells.length := by omega
        have := (hsp (k' - k0) _ (List.getElem?_eq_getElem hlt)).fp
        rw [show k0 + (k' - k0) = k' by omega] at this
        exact h1.tr.dom r _ _ (C.sub_fp pp hsub (h1.inv.ok r) this)
      · refine .inl ?_
        rcases j4 t b k' hf with ⟨x, hx, hf⟩ | hf
        · exact (hT.all x hx).2.2.2 b k' hf
        · exact ⟨t, f4.mono t b k' hf⟩
  | _ => exact k2.elim

/-! ### append -/
/-- A row's cells. -/
def kidsR (len z : Nat) (e : Nat → Nat → C) : List (List C) := (List.range len).map fun i => (List.range z).map fun j => e i j
theorem kidsR_len (len z : Nat) (e : Nat → Nat → C) : ∀ x ∈ kidsR len z e, x.length = z := fun x hx => by
  obtain ⟨i, _, rfl⟩ := List.mem_map.1 hx
  simp
theorem kidsR_er (len z : Nat) (e : Nat → Nat → C) : (kidsR len z e).map (fun x => x.map C.er) = rowX z len e := by
  simp only [kidsR, rowX, List.map_map]
  refine List.map_congr_left fun i _ => ?_
  show ((List.range z).map fun j => e i j).map C.er = _
  rw [List.map_map]
  rfl
theorem kidsR_mem {len z : Nat} {e : Nat → Nat → C} {x : C} (hx : x ∈ (kidsR len z e).flatten) : ∃ i j, i < len ∧ j < z ∧ x = e i j := by
  obtain ⟨l, hl, hx⟩ := List.mem_flatten.1 hx
  obtain ⟨i, hi, rfl⟩ := List.mem_map.1 hl
  obtain ⟨j, hj, rfl⟩ := List.mem_map.1 hx
  exact ⟨i, j, by simpa using hi, by simpa using hj, rfl⟩
theorem kidsR_at {len z : Nat} {e : Nat → Nat → C} {q : Nat} {x : C} (h0 : 0 < z) (h : (kidsR len z e).flatten[q]? = some x) : q / z < len ∧ q % z < z ∧ x = e (q / z) (q % z) := by
  have hq := (List.getElem?_eq_some_iff.1 h).1
  rw [flatten_length (kidsR_len len z e)] at hq
  have hl : (kidsR len z e).length = len := by simp [kidsR]
  rw [hl] at hq
  have h1 : q % z < z := Nat.mod_lt _ h0
  have h2 : q / z < len := Nat.div_lt_of_lt_mul (by rw [Nat.mul_comm]; exact hq)
  have hqe : q = q / z * z + q % z := by have := Nat.div_add_mod q z; rw [Nat.mul_comm] at this; omega
  have := flatten_at (kidsR_len len z e) (q / z) (q % z) (by rw [hl]; exact h2) h1
  rw [← hqe, h] at this
  simp only [kidsR, C.map_range_get?, if_pos h2, Option.bind_some, if_pos h1] at this
  exact ⟨h2, h1, Option.some.inj this⟩
theorem kidsR_apart {Z : Md → Nat → Nat → Prop} {z len cap : Nat} {A : Option Ad} {e : Nat → Nat → C} (h : (C.row .own z A len cap e).ok w Z) : (kidsR len z e).flatten.Pairwise fun a b => ∀ x k, a.fp x k → ¬ b.fp x k := by
  obtain ⟨h1, h2, h3, h4, h5⟩ := h
  refine List.pairwise_flatten.2 ⟨fun l hl => ?_, ?_⟩
  · obtain ⟨i, hi, rfl⟩ := List.mem_map.1 hl
    have hi : i < len := by simpa using hi
    refine List.pairwise_map.2 (List.Pairwise.imp_of_mem (R := fun a b => a < b) ?_ List.pairwise_lt_range)
    intro j j' hj hj' hlt b k hf
    exact (h5 i j hi (by simpa using hj) b k hf).2 i j' hi (by simpa using hj') (by simp; omega)
  · refine List.pairwise_map.2 (List.Pairwise.imp_of_mem (R := fun a b => a < b) ?_ List.pairwise_lt_range)
    intro i i' hi hi' hlt x hx y hy b k hf
    obtain ⟨j, hj, rfl⟩ := List.mem_map.1 hx
    obtain ⟨j', hj', rfl⟩ := List.mem_map.1 hy
    exact (h5 i j (by simpa using hi) (by simpa using hj) b k hf).2 i' j' (by simpa using hi') (by simpa using hj') (by simp; omega)
/-- The cells of a slice, as 'append' reads them. -/
theorem first_ok {w1 : World} {z len cap : Nat} {A : Option Ad} {e : Nat → Nat → C} (h0 : 0 < z) (hc : ∀ i j, i < len → j < z → ∃ g o, A = some (g, o, none) ∧ w1.cell? ⟨g, o + i * z + j, none⟩ = some (e i j).val) :
    (Builtin.firstCells z len (.slice (A.map fun q => ⟨q.1, q.2.1, q.2.2⟩) len cap)).run P w1 = .ok ((kidsR len z e).flatten.map C.val).toArray w1 ∧ (A = none → len = 0) := by
  cases A with
  | none =>
    have hl : len = 0 := by
      rcases Nat.eq_zero_or_pos len with h | h
      · exact h
      · obtain ⟨g, o, hA, _⟩ := hc 0 0 h h0; cases hA
    subst hl
    exact ⟨run_firstCells_none w1 z 0 0 cap, fun _ => rfl⟩
  | some q =>
    refine ⟨?_, fun h => by cases h⟩
    refine run_firstCells_some w1 z len ⟨q.1, q.2.1, q.2.2⟩ len cap _ ?_ fun j v hj => ?_
    · rw [List.length_map, flatten_length (kidsR_len len z e)]; simp [kidsR]
    · rw [List.getElem?_map] at hj
      cases hk : (kidsR len z e).flatten[j]? with
      | none => rw [hk] at hj; cases hj
      | some x =>
        rw [hk] at hj
        obtain ⟨a1, a2, rfl⟩ := kidsR_at h0 hk
        injection hj with hj
        obtain ⟨g, o, hA, hcl⟩ := hc _ _ a1 a2
        injection hA with hA
        subst hA
        have hqe : j = j / z * z + j % z := by have := Nat.div_add_mod j z; rw [Nat.mul_comm] at this; omega
        rw [add_at, ← hj, ← hcl]
        congr 2
        show o + j = _
        omega
end
end M
set_option linter.unusedVariables false
set_option linter.unusedSimpArgs false
namespace M
open Go Go.RowKit
variable [Bs]
section
variable {P : Program}
theorem TookL.sub {w : World} {zl zb : Nat → Nat → Prop} {G G1 : Nat → C} {s1 : Slots} {l ks : List C} (hT : TookL w zl zb G l G1 s1) (hok : ∀ x ∈ ks, x.ok w (Zf zl zb)) (hfp : ∀ x ∈ ks, ∀ b k, x.fp b k → ∃ y ∈ l, y.fp b k)
    (hpw : ks.Pairwise fun a b => ∀ x k, a.fp x k → ¬ b.fp x k) : TookL w zl zb G ks G1 s1 where
  inv := hT.inv
  all := fun x hx => ⟨hok x hx, fun t b k hf => by obtain ⟨y, hy, hf⟩ := hfp x hx b k hf; exact (hT.all y hy).2.1 t b k hf, fun b k hf => by obtain ⟨y, hy, hf⟩ := hfp x hx b k hf; exact (hT.all y hy).2.2.1 b k hf,
    fun b k hf => by obtain ⟨y, hy, hf⟩ := hfp x hx b k hf; exact (hT.all y hy).2.2.2 b k hf⟩
  apart := hpw
  val := hT.val
  mono := hT.mono

theorem Ext.setCells (b : Nat) : ∀ (vs : List Value) (o : Nat) (w : World), Ext (fun g k => g = b ∧ o ≤ k ∧ k < o + vs.length) w (w.setCells b o vs)
  | [], o, w => Ext.refl _ _
  | v :: vs, o, w => by
    rw [World.setCells]
    refine ((Ext.setCell w b o v).mono (S' := fun g k => g = b ∧ o ≤ k ∧ k < o + (v :: vs).length) (fun g k hs _ => ⟨hs.1, by omega, by simp only [List.length_cons]; omega⟩)).trans (Ext.setCells b vs (o + 1) _) fun g k hs _ => ⟨hs.1, by omega, by simp only [List.length_cons]; omega⟩

theorem run_app_room {w : World} {t u ty e e' : TypeId} {i : TypeInfo} (ht : P.underlying t = some (.slice e)) (hu : P.underlying u = some (.slice e')) (hi : P.info? e = some i) {A B : Option Addr} {len cap m cap2 : Nat} {news : List Value} (h : len + m ≤ cap)
    (hx : (Builtin.firstCells i.size m (.slice B m cap2)).run P w = .ok news.toArray w) :
    (Builtin.append_ #[t, u] ty #[.slice A len cap, .slice B m cap2]).run P w = match A with
      | some a => ((storeCells (a.add (len * i.size)) news).run P w).andThen fun _ w' => .ok (.slice (some a) (len + m) cap) w'
      | none => .ok (.slice none (len + m) cap) w := by
  cases A with
  | none => simp [Builtin.append_, run_underlying ht, run_underlying hu, Go.sizeOf, typeInfo, hi, Builtin.lenOf, h, hx]
  | some a => simp [Builtin.append_, run_underlying ht, run_underlying hu, Go.sizeOf, typeInfo, hi, Builtin.lenOf, h, hx]
theorem run_app_grow {w : World} {t u ty e e' : TypeId} {i : TypeInfo} {z : Value} (ht : P.underlying t = some (.slice e)) (hu : P.underlying u = some (.slice e')) (hi : P.info? e = some i) (hz : i.zero = some z) {A B : Option Addr} {len cap m cap2 : Nat} {olds news : List Value} (h : ¬ len + m ≤ cap)
    (h63 : len + m ≤ 9223372036854775807) (hfit : Builtin.nextslicecap (len + m) cap * i.bytes ≤ 281474976710656)
    (hx : (Builtin.firstCells i.size m (.slice B m cap2)).run P w.drew = .ok news.toArray w.drew) (hy : (Builtin.firstCells i.size len (.slice A len cap)).run P w.drew = .ok olds.toArray w.drew) :
    (Builtin.append_ #[t, u] ty #[.slice A len cap, .slice B m cap2]).run P w = .ok (.slice (some ⟨w.heap.size, 0, none⟩) (len + m) (grownCap w (len + m) cap e))
        (w.drew.alloc (.cells (olds.toArray ++ news.toArray ++ Builtin.zeroCells z.cells (grownCap w (len + m) cap e - (len + m))) e)) := by
  have h63' : ¬ (9223372036854775807 < ((len : Int) + (m : Int))) := by omega
  have h48' : ¬ (281474976710656 < Builtin.nextslicecap (len + m) cap * i.bytes) := by omega
  simp [Builtin.append_, run_underlying ht, run_underlying hu, Go.sizeOf, typeInfo, zeroValue, hi, hz, Builtin.lenOf, h, h63', h48', Question.forced, hx, hy, newRow, grownCap]
  congr 2
  apply Array.ext'
  simp [List.append_assoc]

variable {c : Ctx} {G : Nat → C} {zl : Nat → Nat → Prop} {s : Slots} {a : Act} {w : World} {o : Oper} {K : Slots → Prop}

theorem app_core (h : St c G zl s a w) {G1 : Nat → C} {s1 : Slots} {l : List C} (hT : TookL w zl c.zb G l G1 s1) {d z bytes : Nat} {ty ty' el el' : TypeId} {i : TypeInfo} {v : Value} {x' y' : Operand}
    (ho : o.op = .call { callee := .builtin .append, args := #[x', y'], argTypes := #[ty, ty'] }) (hu : P.underlying ty = some (.slice el)) (hu' : P.underlying ty' = some (.slice el')) (hi : P.info? el = some i) (hz : i.zero = some v) (hsz : i.size = z) (hb : i.bytes = bytes) (hb0 : 0 < bytes) (h0 : 0 < z) (hvs : v.cells.size = z)
    (hd : o.dst = some d) (hn : d < c.nt) {A : Option Ad} {len cap : Nat} {e : Nat → Nat → C} (hy1 : C.row .own z A len cap e ∈ l) (hv1 : a.eval x' = (C.row .own z A len cap e).val)
    {A2 : Option Ad} {m cap2 : Nat} {e2 : Nat → Nat → C} (hv2 : a.eval y' = .slice (A2.map fun q => ⟨q.1, q.2.1, q.2.2⟩) m cap2) (hc2 : ∀ i j, i < m → j < z → ∃ g o, A2 = some (g, o, none) ∧ w.cell? ⟨g, o + i * z + j, none⟩ = some (e2 i j).val)
    (hk2 : ∀ i j, i < m → j < z → (e2 i j).plain ∧ (e2 i j).ok w (Zf zl c.zb) ∧ ∀ b k, (e2 i j).fp b k → ¬ (C.row .own z A len cap e).fp b k ∧ ∃ y ∈ l, y.fp b k)
    (hp2 : (kidsR m z e2).flatten.Pairwise fun a b => ∀ x k, a.fp x k → ¬ b.fp x k) (hbig : (len + m) * bytes ≤ 140737488355328) (hpl : ∀ i j, i < len → j < z → (e i j).plain)
    (hK : K (put d (.row .own z (rowX z len e ++ rowX z m e2)) s1)) : Good P c o a w K := by
  obtain ⟨y1, y2, y3, y4⟩ := hT.all _ hy1
  have hy1ok := y1
  obtain ⟨r1, r2, r3, r4, r5⟩ := y1
  have hk1 : ∀ i j, i < len → j < z → ∀ b k, (e i j).fp b k → (C.row .own z A len cap e).fp b k := fun i j hi hj b k hf => C.in_row (r3 i j hi hj).1 (r3 i j hi hj).2.2.1 hi hj hf
  have hc1 : ∀ i j, i < len → j < z → ∃ g o, A = some (g, o, none) ∧ w.cell? ⟨g, o + i * z + j, none⟩ = some (e i j).val := fun i j hi hj => by
    obtain ⟨g, o, q1, q2, _⟩ := r2 i j hi hj; exact ⟨g, o, q1, q2⟩
  have hlen : ∀ x ∈ kidsR len z e ++ kidsR m z e2, x.length = z := fun x hx => (List.mem_append.1 hx).elim (kidsR_len _ _ _ x) (kidsR_len _ _ _ x)
  have hL1 : (kidsR len z e).length = len := by simp [kidsR]
  have hL2 : (kidsR m z e2).length = m := by simp [kidsR]
  have hLL : (kidsR len z e ++ kidsR m z e2).length = len + m := by rw [List.length_append, hL1, hL2]
  have her : (kidsR len z e ++ kidsR m z e2).map (fun x => x.map C.er) = rowX z len e ++ rowX z m e2 := by rw [List.map_append, kidsR_er, kidsR_er]
  have hall : ∀ x ∈ (kidsR len z e ++ kidsR m z e2).flatten, x.plain ∧ x.ok w (Zf zl c.zb) ∧ ∀ b k, x.fp b k → ∃ y ∈ l, y.fp b k := fun x hx => by
    rw [List.flatten_append, List.mem_append] at hx
    rcases hx with hx | hx
    · obtain ⟨i, j, hi, hj, rfl⟩ := kidsR_mem hx
      exact ⟨hpl i j hi hj, (r3 i j hi hj).2.2.2, fun b k hf => ⟨_, hy1, hk1 i j hi hj b k hf⟩⟩
    · obtain ⟨i, j, hi, hj, rfl⟩ := kidsR_mem hx
      obtain ⟨a1, a2, a3⟩ := hk2 i j hi hj
      exact ⟨a1, a2, fun b k hf => (a3 b k hf).2⟩
  have hpw : (kidsR len z e ++ kidsR m z e2).flatten.Pairwise fun a b => ∀ x k, a.fp x k → ¬ b.fp x k := by
    rw [List.flatten_append]
    refine List.pairwise_append.2 ⟨kidsR_apart hy1ok, hp2, fun x hx y hy b k hf hf' => ?_⟩
    obtain ⟨i, j, hi, hj, rfl⟩ := kidsR_mem hx
    obtain ⟨i', j', hi', hj', rfl⟩ := kidsR_mem hy
    exact ((hk2 i' j' hi' hj').2.2 b k hf').1 (hk1 i j hi hj b k hf)
  have hTk : TookL w zl c.zb G (kidsR len z e ++ kidsR m z e2).flatten G1 s1 := hT.sub (fun x hx => (hall x hx).2.1) (fun x hx => (hall x hx).2.2) hpw
  have hfl : (kidsR len z e).flatten.length = len * z := by rw [flatten_length (kidsR_len _ _ _), hL1]
  have hfl2 : (kidsR m z e2).flatten.length = m * z := by rw [flatten_length (kidsR_len _ _ _), hL2]
  have hexec : ∀ r w', (Builtin.append_ #[ty, ty'] o.type #[(C.row .own z A len cap e).val, .slice (A2.map fun q => ⟨q.1, q.2.1, q.2.2⟩) m cap2]).run P w = .ok r w' → (execOp a.eval o).run P w = .ok (.value r) w' := fun r w' hr => by
    simp [execOp, ho, resolve, invoke, builtin, hv1, hv2, hr]
  have hmul : len + m ≤ (len + m) * bytes := Nat.le_mul_of_pos_right _ hb0
  subst hsz
  by_cases hroom : len + m ≤ cap
  · have hx := first_ok (P := P) (cap := cap2) h0 hc2
    have hr := run_app_room (P := P) (ty := o.type) (A := A.map fun q => ⟨q.1, q.2.1, q.2.2⟩) hu hu' hi hroom hx.1
    rcases r4 rfl with ⟨hA, hcap⟩ | ⟨g, o', arr, t, fz, hA, hh, hszz, hfr⟩
    · -- no row, and nothing to put into it
      have hm : m = 0 := by omega
      have hl : len = 0 := by omega
      subst hm; subst hl; subst hA; subst hcap
      obtain ⟨G', h'⟩ := h.fresh hT (Ext.refl _ w) hn hy1ok trivial (fun b k hf => .inr ⟨_, hy1, hf⟩)
      refine ⟨_, w, .inl (hexec _ _ hr), G', zl, _, hK, ?_⟩
      rw [hd]
      exact h'
    · subst hA
      have hcz : (len + m) * i.size ≤ cap * i.size := Nat.mul_le_mul_right _ hroom
      rw [Nat.add_mul] at hcz
      have hst := run_storeCells_cells (P := P) g (o' + len * i.size) ((kidsR m i.size e2).flatten.map C.val) 0 w (fun j hj => by
          rw [List.length_map, hfl2] at hj
          rw [cell_of_row _ _ _ _ _ fz hh]
          rw [Array.getElem?_eq_getElem (by omega)]; rfl) (fun j hj => by
          rw [List.length_map, hfl2] at hj
          exact hfr _ (by omega) (by omega)) (fun u hu => by
          obtain ⟨x, hx, rfl⟩ := List.mem_map.1 hu
          obtain ⟨i', j', hi', hj', rfl⟩ := kidsR_mem hx
          exact Inv.cell_val (C.plain_cell (hk2 i' j' hi' hj').1))
      simp only [Option.map_some, add_at, hst, Nat.add_zero, Result.andThen_ok] at hr
      have hE := Ext.setCells g ((kidsR m i.size e2).flatten.map C.val) (o' + len * i.size) w
      rw [List.length_map, hfl2] at hE
      have hin := World.cell?_setCells_in g ((kidsR m i.size e2).flatten.map C.val) (o' + len * i.size) w
      generalize hw' : w.setCells g (o' + len * i.size) ((kidsR m i.size e2).flatten.map C.val) = w' at hr hE hin
      have hg : g < w.heap.size := (Array.getElem?_eq_some_iff.1 hh).1
      have hgf : ∀ k, (C.row .own i.size (some (g, o', none)) len cap e).fp g k := fun k => ⟨rfl, .inl ⟨_, rfl⟩⟩
      obtain ⟨arr', hh', hs'⟩ : ∃ arr', w'.heap[g]? = some (.cells arr' t fz) ∧ arr'.size = arr.size := by
        rcases hE.block g hg with e' | ⟨a1, a2, t', fz', q1, q2, q3, q4⟩
        · exact ⟨arr, e'.trans hh, rfl⟩
        · rw [hh] at q1
          injection q1 with q1
          injection q1 with b1 b2 b3
          subst b1; subst b2; subst b3
          exact ⟨a2, q2, q3⟩
      have hok : (rowL g o' i.size cap (kidsR len i.size e ++ kidsR m i.size e2)).ok w' (Zf zl c.zb) := by
        refine rowL_ok hlen (by rw [hLL]; exact hroom) hh' (by omega) (fun k h1 h2 => (hE.frozen hg).trans (hfr k h1 h2)) (fun q x hq => ?_) (fun x hx => ?_) hpw (fun x hx b k hf => ?_)
        · rw [List.flatten_append] at hq
          by_cases hql : q < len * i.size
          · rw [List.getElem?_append_left (by omega)] at hq
            obtain ⟨a1, a2, rfl⟩ := kidsR_at h0 hq
            obtain ⟨g', o2, hA, hcl⟩ := hc1 _ _ a1 a2
            injection hA with hA
            injection hA with b1 b2
            injection b2 with b2
            subst b1; subst b2
            have hqe : q = q / i.size * i.size + q % i.size := by have := Nat.div_add_mod q i.size; rw [Nat.mul_comm] at this; omega
            refine hE.cell (fun hs => by omega) ?_
            rw [← hcl]
            congr 2
            omega
          · rw [List.getElem?_append_right (by omega)] at hq
            rw [hfl] at hq
            have hq2 := (List.getElem?_eq_some_iff.1 hq).1
            rw [hfl2] at hq2
            have := hin (fun j hj => by
              rw [List.length_map, hfl2] at hj
              rw [cell_of_row _ _ _ _ _ fz hh, Array.getElem?_eq_getElem (by omega)]; rfl) (q - len * i.size) (by rw [List.length_map, hfl2]; exact hq2)
            rw [show o' + len * i.size + (q - len * i.size) = o' + q by omega] at this
            rw [this, ← List.getElem?_eq_getElem, List.getElem?_map, hq]
            rfl
        · obtain ⟨a1, a2, a3⟩ := hall x hx
          refine ⟨C.plain_cell a1, C.plain_solid a1, hT.fits' hE (fun b k hz hs => ?_) a2 (fun b k hf hs => ?_)⟩
          · obtain ⟨rfl, _⟩ := hs
            exact hz.elim (y3 b k (hgf k)).1 (y3 b k (hgf k)).2
          · obtain ⟨rfl, _⟩ := hs
            rw [List.flatten_append, List.mem_append] at hx
            rcases hx with hx | hx
            · obtain ⟨i', j', hi', hj', rfl⟩ := kidsR_mem hx
              exact (r5 i' j' hi' hj' b k hf).1 rfl o' rfl
            · obtain ⟨i', j', hi', hj', rfl⟩ := kidsR_mem hx
              exact ((hk2 i' j' hi' hj').2.2 b k hf).1 (hgf k)
        · intro hbg
          subst hbg
          rw [List.flatten_append, List.mem_append] at hx
          rcases hx with hx | hx
          · obtain ⟨i', j', hi', hj', rfl⟩ := kidsR_mem hx
            exact (r5 i' j' hi' hj' b k hf).1 rfl o' rfl
          · obtain ⟨i', j', hi', hj', rfl⟩ := kidsR_mem hx
            exact ((hk2 i' j' hi' hj').2.2 b k hf).1 (hgf k)
      obtain ⟨G', h'⟩ := h.fresh' hT hE (fun b k hs => .inr ⟨_, hy1, by rw [hs.1]; exact hgf k⟩) hn hok trivial (fun b k hf => by
        rcases rowL_fp hlen hf with rfl | ⟨x, hx, hf⟩
        · exact .inr ⟨_, hy1, hgf k⟩
        · exact .inr ((hall x hx).2.2 b k hf))
      refine ⟨_, w', .inl (hexec _ _ hr), G', zl, _, hK, ?_⟩
      rw [hd]
      rw [rowL_er hlen, her, rowL_val, hLL] at h'
      exact h'
  · have hx := first_ok (P := P) (w1 := w.drew) (cap := cap2) h0 hc2
    have hy := first_ok (P := P) (w1 := w.drew) (cap := cap) h0 hc1
    have hr := run_app_grow (P := P) (ty := o.type) hu hu' hi hz hroom (by omega) (growslice_fits (by omega) (by rw [hb]; exact hbig)) hx.1 hy.1
    have hge := grownCap_ge w (len + m) cap el
    generalize grownCap w (len + m) cap el = cap' at hr hge
    refine GoodQ.good (good_row h (L := kidsR len i.size e ++ kidsR m i.size e2) (cap := cap') (fz := (0, 0)) hlen (by rw [hLL]; exact hge) hTk (fun x hx => (hall x hx).1) hd hn (drew_ext w _) (heap_new w.drew _) ?_ (fun k _ hh => by simp at hh) (fun q x hq => ?_) (by rw [hLL]; exact hexec _ _ hr) (by rw [her]; exact hK))
    · simp only [Array.size_append, List.size_toArray, List.length_map, hfl, hfl2, size_zeroCells, hvs]
      rw [← Nat.add_mul, ← Nat.add_mul]
      exact Nat.mul_le_mul_right _ (by omega)
    · rw [List.flatten_append] at hq
      have hq2 := (List.getElem?_eq_some_iff.1 hq).1
      have hmap : (((kidsR len i.size e).flatten ++ (kidsR m i.size e2).flatten).map C.val)[q]? = some x.val := by rw [List.getElem?_map, hq]; rfl
      rw [Array.getElem?_append_left (by rw [Array.size_append, List.size_toArray, List.size_toArray, List.length_map, List.length_map, ← List.length_append]; exact hq2)]
      rw [← hmap, List.map_append]
      simp
end
end M
set_option linter.unusedVariables false
set_option linter.unusedSimpArgs false
namespace M
open Go Go.RowKit
variable [Bs]
namespace C
def belows (r : Nat) (p : Path) : Nat → Path → Bool := fun s q => s == r && belowB p q
theorem killBL_map (r : Nat) (p : Path) {α : Type} (f : α → X) : ∀ l : List α, X.killBL r p (l.map f) = l.map fun a => (f a).killB r p
  | [] => rfl
  | a :: l => by simp only [List.map_cons, X.killBL, killBL_map r p f l]
theorem killB_er (r : Nat) (p : Path) : ∀ c : C, (c.cutOff (belows r p)).er = c.er.killB r p
  | .ref v s q => by simp only [cutOff, er, X.killB, belows]; cases s == r && belowB p q <;> rfl
  | .adr v s q i c => by simp only [cutOff, er, X.killB, belows]; cases s == r && belowB p q <;> rfl
  | .cut v s q i c => by simp only [cutOff, er, X.killB, belows]; cases s == r && belowB p q <;> rfl
  | .ptr m g o n c => by simp only [cutOff, er, X.killB, killBL_map]; congr 1; exact List.map_congr_left fun j _ => killB_er r p (c j)
  | .agg n c => by simp only [cutOff, er, X.killB, killBL_map]; congr 1; exact List.map_congr_left fun j _ => killB_er r p (c j)
  | .tup n c => by simp only [cutOff, er, X.killB, killBL_map]; congr 1; exact List.map_congr_left fun j _ => killB_er r p (c j)
  | .fn f n c => by simp only [cutOff, er, X.killB, killBL_map]; congr 1; exact List.map_congr_left fun j _ => killB_er r p (c j)
  | .dead _ => by simp only [cutOff, er, X.killB]
  | .int _ _ => by simp only [cutOff, er, X.killB]
  | .bool _ => by simp only [cutOff, er, X.killB]
  | .str _ => by simp only [cutOff, er, X.killB]
  | .row _ _ _ _ _ _ => by simp only [cutOff, er, X.killB]
theorem bare_free (t : Nat → Path → Bool) : ∀ c : C, c.bare → c.free t
  | .ref _ _ _, h => h.elim
  | .adr _ _ _ _ _, h => h.elim
  | .cut _ _ _ _ _, h => h.elim
  | .ptr m g o n c, h => fun j hj => bare_free t (c j) (h j hj)
  | .agg n c, h => fun j hj => bare_free t (c j) (h j hj)
  | .tup n c, h => fun j hj => bare_free t (c j) (h j hj)
  | .fn f n c, h => fun j hj => bare_free t (c j) (h j hj)
  | .dead _, _ => trivial
  | .int _ _, _ => trivial
  | .bool _, _ => trivial
  | .str _, _ => trivial
  | .row _ _ _ _ _ _, _ => trivial
theorem bare_rf (G : Nat → C) : ∀ c : C, c.bare → c.rf G
  | .ref _ _ _, h => h.elim
  | .adr _ _ _ _ _, h => h.elim
  | .cut _ _ _ _ _, h => h.elim
  | .ptr m g o n c, h => fun j hj => bare_rf G (c j) (h j hj)
  | .agg n c, h => fun j hj => bare_rf G (c j) (h j hj)
  | .tup n c, h => fun j hj => bare_rf G (c j) (h j hj)
  | .fn f n c, h => fun j hj => bare_rf G (c j) (h j hj)
  | .dead _, _ => trivial
  | .int _ _, _ => trivial
  | .bool _, _ => trivial
  | .str _, _ => trivial
  | .row _ _ _ _ _ _, _ => trivial
theorem bareL_all {l : List X} : X.bare.bareL l = true ↔ ∀ x ∈ l, x.bare = true := by
  induction l with
  | nil => simp [X.bare.bareL]
  | cons a l ih => simp [X.bare.bareL, ih]
theorem bare_er : ∀ c : C, c.er.bare = true ↔ c.bare
  | .ref _ _ _ => by simp [er, X.bare, bare]
  | .adr _ _ _ _ _ => by simp [er, X.bare, bare]
  | .cut _ _ _ _ _ => by simp [er, X.bare, bare]
  | .ptr m g o n c => by
    simp only [er, X.bare, bare, bareL_all, List.mem_map, List.mem_range]
    exact ⟨fun h j hj => (bare_er (c j)).1 (h _ ⟨j, hj, rfl⟩), fun h x ⟨j, hj, e⟩ => e ▸ (bare_er (c j)).2 (h j hj)⟩
  | .agg n c => by
    simp only [er, X.bare, bare, bareL_all, List.mem_map, List.mem_range]
    exact ⟨fun h j hj => (bare_er (c j)).1 (h _ ⟨j, hj, rfl⟩), fun h x ⟨j, hj, e⟩ => e ▸ (bare_er (c j)).2 (h j hj)⟩
  | .tup n c => by
    simp only [er, X.bare, bare, bareL_all, List.mem_map, List.mem_range]
    exact ⟨fun h j hj => (bare_er (c j)).1 (h _ ⟨j, hj, rfl⟩), fun h x ⟨j, hj, e⟩ => e ▸ (bare_er (c j)).2 (h j hj)⟩
  | .fn f n c => by
    simp only [er, X.bare, bare, bareL_all, List.mem_map, List.mem_range]
    exact ⟨fun h j hj => (bare_er (c j)).1 (h _ ⟨j, hj, rfl⟩), fun h x ⟨j, hj, e⟩ => e ▸ (bare_er (c j)).2 (h j hj)⟩
  | .dead _ => by simp [er, X.bare, bare]
  | .int _ _ => by simp [er, X.bare, bare]
  | .bool _ => by simp [er, X.bare, bare]
  | .str _ => by simp [er, X.bare, bare]
  | .row _ _ _ _ _ _ => by simp [er, X.bare, bare]
theorem pfx_eq : ∀ {p q : Path}, X.pfx p q = true → ¬ p.length < q.length → q = p
  | [], [], _, _ => rfl
  | [], _ :: _, _, h => by simp at h
  | _ :: _, [], h, _ => by simp [X.pfx] at h
  | x :: p, y :: q, h, hl => by
    simp only [X.pfx, Bool.and_eq_true, beq_iff_eq] at h
    obtain ⟨⟨h1, h2⟩, h3⟩ := h
    rw [pfx_eq h3 (by simpa using hl)]
    congr 1
    cases x; cases y; simp only at h1 h2; rw [h1, h2]
end C
theorem get_killBS (r : Nat) (p : Path) (t : Nat) : ∀ s : Slots, get (killBS r p s) t = (get s t).killB r p
  | [] => by simp [killBS, get, X.killB]
  | (k, v) :: s => by
    simp only [killBS, get]
    cases k == t
    · exact get_killBS r p t s
    · rfl

namespace Inv
variable {w w' : World} {zl zl' zb : Nat → Nat → Prop} {G : Nat → C} {s : Slots} {S : Nat → Nat → Prop}
theorem killB (h : Inv w zl zb G s) (r : Nat) (p : Path) : Inv w zl zb (fun t => (G t).cutOff (C.belows r p)) (killBS r p s) :=
  h.off _ fun t => by rw [C.killB_er, get_killBS, h.er]
/-- What was written through by a callee is back in its place. -/
theorem back0 (h : Inv w zl zb G s) (r : Nat) (p : Path) (hfree : ∀ t, (G t).free (C.belows r p)) {d d' : C} (hsub : (G r).sub p = some d) (hF : C.Face d d') (hl : C.Like d d') (hbare : d'.rf G ∧ d'.free (C.belows r p)) (hE : Ext S w w')
    (hS : ∀ b k, S b k → d.fp b k ∨ ((∀ t, ¬ (G t).fp b k) ∧ ¬ zl b k ∧ ¬ zb b k)) (hok : d'.ok w' (Zf zl' zb)) (hz1 : ∀ b k, zl b k → zl' b k) (hz2 : ∀ b k, zl' b k → ¬ d'.fp b k ∧ b < w'.heap.size ∧ ∀ t, (G t).fp b k → d.fp b k)
    (hfp : ∀ b k, d'.fp b k → d.fp b k ∨ ((∀ t, ¬ (G t).fp b k) ∧ ¬ zb b k)) :
    Inv w' zl' zb (updG G r (C.putAt p (G r) d')) ((r, X.putAt p (get s r) d'.er) :: s) ∧ (∀ t, (updG G r (C.putAt p (G r) d') t).val = (G t).val) ∧
      ∀ t b k, (updG G r (C.putAt p (G r) d') t).fp b k → d'.fp b k ∨ ((G t).fp b k ∧ ¬ d.fp b k) := by
  have hdr : ∀ {b k}, d.fp b k → (G r).fp b k := fun hf => C.sub_fp p hsub (h.ok r) hf
  have hZ : ∀ m b k, Zf zl zb m b k → ¬ S b k := fun m b k hz hs => by
    rcases hS b k hs with hs | hs
    · exact h.zfp r m b k hz (hdr hs)
    · cases m with
      | own => exact hz.elim
      | sl => exact hs.2.1 hz
      | bor => exact hz.elim hs.2.1 hs.2.2
  have hM : ∀ m b k, Zf zl zb m b k → Zf zl' zb m b k := fun m b k hz => by
    cases m with
    | own => exact hz
    | sl => exact hz1 b k hz
    | bor => exact hz.imp (hz1 b k) id
  obtain ⟨i1, i2, i3⟩ := C.ok_put hM hE hZ p (G r) d d' (h.ok r) hsub hok hl (fun b k hs => (hS b k hs).imp id fun hn => hn.1 r) (fun b k hf => (hfp b k hf).imp id fun hn => hn.1 r)
  have hr' : ∀ t, t ≠ r → ∀ b k, (C.putAt p (G r) d').fp b k → ¬ (G t).fp b k := fun t e b k hf => by
    rcases i2 b k hf with hf | hf
    · rcases hfp b k hf with hf | hf
      · exact h.sep r t (fun e' => e e'.symm) b k (hdr hf)
      · exact hf.1 t
    · exact h.sep r t (fun e' => e e'.symm) b k hf.1
  have key : ∀ c' : C, c'.free (C.belows r p) → c'.rf G → c'.rf (updG G r (C.putAt p (G r) d')) := fun c' hf hr => C.rf_of (C.belows r p) (fun s' q' y' hk hs => by
    by_cases e : s' = r
    · subst e
      rw [updG_same]
      cases hp : X.pfx p q' with
      | false => exact C.sub_putAt p q' (G s') d' y' hp hs
      | true =>
        have hlen : ¬ p.length < q'.length := by
          simpa [C.belows, belowB, hp] using hk
        have he := C.pfx_eq hp hlen
        subst he
        rw [hsub] at hs
        injection hs with hs
        subst hs
        exact .inl ⟨d', hF, C.sub_put_self _ hsub⟩
    · rw [updG_other _ _ e]
      exact C.self y' _ q' hs) c' hf hr
  refine ⟨⟨fun t => ?_, fun t => ?_, fun t u hne b k hf => ?_, fun t b k hf => ?_, fun t => ?_, fun b k hz => ?_⟩, fun t => ?_, fun t b k hf => ?_⟩
  · rw [get_cons]
    by_cases e : t = r
    · subst e; rw [updG_same, if_pos rfl, C.putAt_er, h.er]
    · rw [updG_other _ _ e, if_neg e]; exact h.er t
  · by_cases e : t = r
    · subst e; rw [updG_same]; exact i1
    · rw [updG_other _ _ e]
      refine C.ok_mono hM _ (C.ok_ext hE hZ _ (fun b k hf hs => ?_) (h.ok t))
      rcases hS b k hs with hs | hs
      · exact h.sep t r e b k hf (hdr hs)
      · exact hs.1 t hf
  · by_cases e : t = r
    · subst e
      rw [updG_same] at hf
      rw [updG_other _ _ (fun e => hne e.symm)]
      exact hr' u (fun e => hne e.symm) b k hf
    · rw [updG_other _ _ e] at hf
      by_cases e' : u = r
      · subst e'
        rw [updG_same]
        exact fun hc => hr' t e b k hc hf
      · rw [updG_other _ _ e']; exact h.sep t u hne b k hf
  · by_cases e : t = r
    · subst e
      rw [updG_same] at hf
      rcases i2 b k hf with hf | ⟨hf, hn⟩
      · refine ⟨fun hz => (hz2 b k hz).1 hf, fun hz => ?_⟩
        rcases hfp b k hf with hf | hf
        · exact (h.fz t b k (hdr hf)).2 hz
        · exact hf.2 hz
      · exact ⟨fun hz => hn ((hz2 b k hz).2.2 t hf), (h.fz t b k hf).2⟩
    · rw [updG_other _ _ e] at hf
      exact ⟨fun hz => h.sep t r e b k hf (hdr ((hz2 b k hz).2.2 t hf)), (h.fz t b k hf).2⟩
  · by_cases e : t = r
    · subst e
      rw [updG_same]
      have inner : ∀ (p' : Path) (c' : C), c'.free (C.belows t p) → c'.rf G → (C.putAt p' c' d').rf (updG G t (C.putAt p (G t) d')) := by
        intro p'
        induction p' with
        | nil => intro c' _ _; exact key d' hbare.2 hbare.1
        | cons x p' ih =>
          intro c' hcf hcr
          simp only [C.putAt]
          cases hst : c'.step x with
          | none => exact key c' hcf hcr
          | some z =>
            cases c' with
            | row m sz A len cap e => trivial
            | ptr m g o n c =>
              simp only [C.step] at hst
              split at hst
              · rename_i hq
                injection hst with hst
                intro j hj
                simp only [C.upd]
                split
                · exact ih z (by rw [← hst]; exact hcf _ hq.2) (by rw [← hst]; exact hcr _ hq.2)
                · exact key _ (hcf j hj) (hcr j hj)
              · cases hst
            | agg n c =>
              simp only [C.step] at hst
              split at hst
              · rename_i hq
                injection hst with hst
                intro j hj
                simp only [C.upd]
                split
                · exact ih z (by rw [← hst]; exact hcf _ hq.2) (by rw [← hst]; exact hcr _ hq.2)
                · exact key _ (hcf j hj) (hcr j hj)
              · cases hst
            | tup n c =>
              simp only [C.step] at hst
              split at hst
              · rename_i hq
                injection hst with hst
                intro j hj
                simp only [C.upd]
                split
                · exact ih z (by rw [← hst]; exact hcf _ hq.2) (by rw [← hst]; exact hcr _ hq.2)
                · exact key _ (hcf j hj) (hcr j hj)
              · cases hst
            | _ => simp [C.step] at hst
      exact inner p (G t) (hfree t) (h.rf t)
    · rw [updG_other _ _ e]; exact key _ (hfree t) (h.rf t)
  · exact hz.elim (fun hz => (hz2 b k hz).2.1) fun hz => Nat.lt_of_lt_of_le (h.zin b k (.inr hz)) hE.size
  · by_cases e : t = r
    · subst e; rw [updG_same]; exact i3.val
    · rw [updG_other _ _ e]
  · by_cases e : t = r
    · subst e
      rw [updG_same] at hf
      exact i2 b k hf
    · rw [updG_other _ _ e] at hf; exact .inr ⟨hf, fun hd => h.sep t r e b k hf (hdr hd)⟩
/-- A call that writes through nothing. -/
theorem back1 (h : Inv w zl zb G s) (hE : Ext S w w') (hS : ∀ b k, S b k → (∀ t, ¬ (G t).fp b k) ∧ ¬ zl b k ∧ ¬ zb b k) (hz1 : ∀ b k, zl b k → zl' b k) (hz2 : ∀ b k, zl' b k → b < w'.heap.size ∧ ∀ t, ¬ (G t).fp b k) : Inv w' zl' zb G s := by
  have h1 := h.ext hE (fun t b k hf hs => (hS b k hs).1 t hf) (fun b k hz hs => hz.elim (hS b k hs).2.1 (hS b k hs).2.2)
  refine ⟨h1.er, fun t => C.ok_mono (fun m b k hz => ?_) _ (h1.ok t), h1.sep, fun t b k hf => ⟨fun hz => (hz2 b k hz).2 t hf, (h1.fz t b k hf).2⟩, h1.rf, fun b k hz => hz.elim (fun hz => (hz2 b k hz).1) fun hz => h1.zin b k (.inr hz)⟩
  cases m with
  | own => exact hz
  | sl => exact hz1 b k hz
  | bor => exact hz.imp (hz1 b k) id
end Inv
end M
set_option linter.unusedVariables false
set_option linter.unusedSimpArgs false
namespace M
open Go Go.RowKit
variable [Bs]
section
variable {P : Program} {c : Ctx} {G : Nat → C} {zl : Nat → Nat → Prop} {s : Slots} {a : Act} {w : World} {o : Oper} {K : Slots → Prop}
theorem op_clr (h : St c G zl s a w) {sz : Nat} {z : List X} {ty el : TypeId} {ii : TypeInfo} {v : Value} {x : AV} {x' : Operand} (ho : o.op = .call { callee := .builtin .clear, args := #[x'], argTypes := #[ty] }) (hu : P.underlying ty = some (.slice el)) (hi : P.info? el = some ii) (hz : ii.zero = some v)
    (hcz : chkZ v.cells.toList z = true) (hzs : z.length = sz) (h0 : 0 < sz) (hd : o.dst = none) (hx : chkV x' x = true) (hK : awpOp P (.clr sz z x) s K) : Good P c o a w K := by
  obtain ⟨q, q1, q2, q3⟩ := av_ok h hx
  simp only [awpOp] at hK
  rw [← q1] at hK
  cases q with
  | cut vv r p lo hi' =>
    simp only [C.er] at hK
    obtain ⟨m, sz1, A, len, cap, e, A', cap', hs, hv, hlo, hhi, hcap, hA', -, -⟩ := q3.rf
    unfold look at hK
    rw [← h.inv.er, C.sub_er, hs] at hK
    cases m with
    | own =>
      simp only [Option.map_some, C.er] at hK
      obtain ⟨rfl, hK⟩ := hK
      obtain ⟨zs, Z⟩ := zeros_ok w zl c.zb hcz
      have hzl : zs.length = z.length := by rw [← Z.er]; simp
      have hvs : v.cells.size = z.length := by rw [← hzl, ← Array.length_toList, ← Z.val]; simp
      have hok := C.sub_ok p hs (h.inv.ok r)
      have hin : ∀ b k, (C.row .own sz1 A len cap e).fp b k → (G r).fp b k := fun b k hf => C.sub_fp p hs (h.inv.ok r) hf
      obtain ⟨h1, h2, h3, h4, h5⟩ := hok
      let e' : Nat → Nat → C := fun i j => if lo ≤ i ∧ i < hi' then zs.getD j (.dead undef) else e i j
      have he : ∀ i j, (lo ≤ i ∧ i < hi') → e' i j = zs.getD j (.dead undef) := fun i j hh => if_pos hh
      have hne : ∀ i j, ¬ (lo ≤ i ∧ i < hi') → e' i j = e i j := fun i j hh => if_neg hh
      have hzm : ∀ j, j < sz1 → zs.getD j (.dead undef) ∈ zs := fun j hj => getD_mem (by omega) _
      have hkid : ∀ i j, i < len → j < sz1 → ∀ b k, (e i j).fp b k → (C.row .own sz1 A len cap e).fp b k := fun i j hi hj b k hf => ⟨rfl, .inr ⟨i, j, hi, hj, hf⟩⟩
      have hdfp : ∀ b k, (C.row .own sz1 A len cap e').fp b k → (C.row .own sz1 A len cap e).fp b k := fun b k hf => by
        obtain ⟨_, hA | ⟨i, j, hi2, hj, hf⟩⟩ := hf
        · exact ⟨rfl, .inl hA⟩
        · by_cases hh : lo ≤ i ∧ i < hi'
          · rw [he i j hh] at hf; exact ((Z.all _ (hzm j hj)).2.2 b k hf).elim
          · rw [hne i j hh] at hf; exact hkid i j hi2 hj b k hf
      -- the run
      have run : ∃ w', (execOp a.eval o).run P w = .ok (.value (.tuple #[])) w' ∧ Ext (fun b k => ∃ o', A = some (b, o', none)) w w' ∧ ∀ i j, i < len → j < sz1 → ∃ g o', A = some (g, o', none) ∧ w'.cell? ⟨g, o' + i * sz1 + j, none⟩ = some (e' i j).val := by
        have hexec : ∀ n' A2 c2 r w', a.eval x' = .slice A2 n' c2 → (Builtin.clear_ #[ty] o.type #[.slice A2 n' c2]).run P w = .ok r w' → (execOp a.eval o).run P w = .ok (.value r) w' := by
          intro n' A2 c2 r w' hh hr
          simp [execOp, ho, hh, resolve, invoke, builtin, hr]
        by_cases hn0 : hi' - lo = 0
        · refine ⟨w, ?_, Ext.refl _ _, fun i j hi'' hj => ?_⟩
          · have hv2 : a.eval x' = .slice (Option.map (fun q : Ad => ⟨q.1, q.2.1, q.2.2⟩) A') 0 cap' := by rw [← q2, C.val, hv, hn0]
            refine hexec _ _ _ _ _ hv2 ?_
            cases A' <;> simp [Builtin.clear_, run_underlying hu]
          · obtain ⟨g, o', b1, b2, _⟩ := h2 i j hi'' hj
            exact ⟨g, o', b1, by rw [b2, hne i j (by omega)]⟩
        · obtain ⟨g, o', b1, _, _⟩ := h2 lo 0 (by omega) h0
          have hAs : A' = some (g, o' + lo * sz1, none) := by rw [hA' (by omega), b1, Option.map_some, adv_none]
          have hall : ∀ i j, i < len → j < sz1 → w.cell? ⟨g, o' + i * sz1 + j, none⟩ = some (e i j).val := fun i j hi'' hj => by
            obtain ⟨g2, o2, c1, c2, _⟩ := h2 i j hi'' hj
            rw [b1] at c1
            injection c1 with c1
            injection c1 with c3 c4
            injection c4 with c4
            subst c3; subst c4
            exact c2
          have hfro : ∀ k, o' ≤ k → k < o' + cap * sz1 → w.frozen? ⟨g, k, none⟩ = false := by
            rcases h4 rfl with ⟨d1, _⟩ | ⟨g2, o2, arr, t, fz, d1, d2, d3, d4⟩
            · rw [b1] at d1; cases d1
            · rw [b1] at d1
              injection d1 with d1
              injection d1 with d5 d6
              injection d6 with d6
              subst d5; subst d6
              exact d4
          let vs : List Value := (Builtin.zeroCells v.cells (hi' - lo)).toList
          have hvl : vs.length = (hi' - lo) * sz1 := by simp [vs, Builtin.zeroCells, hvs, hzs]
          have hvg : ∀ k (hk : k < vs.length), vs[k] = (zs.getD (k % sz1) (.dead undef)).val := by
            intro k hk
            have hm : k % sz1 < zs.length := by rw [hzl, hzs]; exact Nat.mod_lt _ h0
            have hm2 : k % sz1 < v.cells.size := by omega
            have e1 : vs[k] = v.cells[k % v.cells.size]! := by simp [vs, Builtin.zeroCells]
            rw [e1, hvs, hzs, getElem!_pos v.cells (k % sz1) hm2]
            have := congrArg (fun t : List Value => t[k % sz1]?) Z.val
            simp only [List.getElem?_map] at this
            rw [List.getElem?_eq_getElem hm] at this
            rw [List.getD_eq_getElem?_getD, List.getElem?_eq_getElem hm]
            simp only [Option.map_some, Array.getElem?_toList, Array.getElem?_eq_getElem hm2, Option.some.injEq] at this
            exact this.symm
          have hidx : ∀ k, k < (hi' - lo) * sz1 → k / sz1 < hi' - lo ∧ k = k / sz1 * sz1 + k % sz1 := fun k hk => by
            refine ⟨(Nat.div_lt_iff_lt_mul h0).2 hk, ?_⟩
            have := Nat.div_add_mod k sz1
            rw [Nat.mul_comm] at this
            omega
          have hplace : ∀ k, k < (hi' - lo) * sz1 → o' + lo * sz1 + k = o' + (lo + k / sz1) * sz1 + k % sz1 := fun k hk => by
            have := (hidx k hk).2
            rw [Nat.add_mul]
            omega
          have hsome : ∀ j, j < vs.length → (w.cell? ⟨g, o' + lo * sz1 + j, none⟩).isSome = true := fun j hj => by
            rw [hvl] at hj
            rw [hplace j hj, hall _ _ (by have := (hidx j hj).1; omega) (Nat.mod_lt _ h0)]
            rfl
          have hst := run_storeCells_cells (P := P) g (o' + lo * sz1) vs 0 w (by simpa using hsome) (fun j hj => by
            rw [hvl] at hj
            refine hfro _ (by omega) ?_
            rw [Nat.add_zero, hplace j hj]
            have h7 := (hidx j hj).1
            have h8 : (lo + j / sz1 + 1) * sz1 ≤ cap * sz1 := Nat.mul_le_mul_right _ (by omega)
            have h9 := Nat.mod_lt j h0
            rw [Nat.add_mul, Nat.one_mul] at h8
            omega) (fun u hu => by
            obtain ⟨k, hk, rfl⟩ := List.getElem_of_mem hu
            rw [hvg k hk]
            exact Inv.cell_val (C.plain_cell (Z.all _ (hzm _ (Nat.mod_lt _ h0))).1))
          have hE := Ext.setCells g vs (o' + lo * sz1) w
          have hInn := World.cell?_setCells_in g vs (o' + lo * sz1) w hsome
          simp only [Nat.add_zero] at hst
          refine ⟨w.setCells g (o' + lo * sz1) vs, ?_, hE.mono fun b k hh _ => ⟨o', by rw [b1, hh.1]⟩, fun i j hi'' hj => ⟨g, o', b1, ?_⟩⟩
          · have hv2 : a.eval x' = .slice (some ⟨g, o' + lo * sz1, none⟩) (hi' - lo) cap' := by rw [← q2, C.val, hv, hAs]; rfl
            refine hexec _ _ _ _ _ hv2 ?_
            obtain ⟨m, hm⟩ : ∃ m, hi' - lo = m + 1 := ⟨hi' - lo - 1, by omega⟩
            have hzr : ∀ w, (zeroValue el).run P w = .ok v w := by intro w; simp [zeroValue, typeInfo, hi, hz]
            simp only [vs, hm] at hst ⊢
            simp [Builtin.clear_, run_underlying hu, hzr, hst]
          · by_cases hh : lo ≤ i ∧ i < hi'
            · have hk : (i - lo) * sz1 + j < vs.length := by
                rw [hvl]
                have : (i - lo + 1) * sz1 ≤ (hi' - lo) * sz1 := Nat.mul_le_mul_right _ (by omega)
                rw [Nat.add_mul, Nat.one_mul] at this
                omega
              have := hInn _ hk
              rw [hvg _ hk, Nat.mul_add_mod_self_right, Nat.mod_eq_of_lt hj] at this
              have hq : lo * sz1 + (i - lo) * sz1 = i * sz1 := by rw [← Nat.add_mul]; congr 1; omega
              rw [show o' + lo * sz1 + ((i - lo) * sz1 + j) = o' + i * sz1 + j by omega] at this
              rw [he i j hh]
              exact this
            · rw [hne i j hh, World.cell?_setCells_out, hall i j hi'' hj]
              intro _ _
              simp only
              rw [hvl]
              by_cases hl : i < lo
              · left
                have : (i + 1) * sz1 ≤ lo * sz1 := Nat.mul_le_mul_right _ (by omega)
                rw [Nat.add_mul, Nat.one_mul] at this
                omega
              · right
                have t1 : hi' * sz1 ≤ i * sz1 := Nat.mul_le_mul_right _ (by omega)
                have t2 : lo * sz1 + (hi' - lo) * sz1 = hi' * sz1 := by rw [← Nat.add_mul]; congr 1; omega
                omega
      obtain ⟨w', hrun, hE, hcell⟩ := run
      have hSd : ∀ b k, (∃ o', A = some (b, o', none)) → (C.row .own sz1 A len cap e).fp b k := fun b k hh => ⟨rfl, .inl hh⟩
      have hSZ : ∀ m b k, Zf zl c.zb m b k → ¬ (∃ o', A = some (b, o', none)) := fun m b k hz hh => h.inv.zfp r m b k hz (hin b k (hSd b k hh))
      have hd'ok : (C.row .own sz1 A len cap e').ok w' (Zf zl c.zb) := by
        refine ⟨h1, fun i j hi'' hj => ?_, fun i j hi'' hj => ?_, fun hm => ?_, fun i j hi'' hj b k hf => ?_⟩
        · obtain ⟨g, o', c1, c2⟩ := hcell i j hi'' hj
          exact ⟨g, o', c1, c2, fun hm => (hm rfl).elim⟩
        · obtain ⟨a1, a2, a3, a4⟩ := h3 i j hi'' hj
          by_cases hh : lo ≤ i ∧ i < hi'
          · rw [he i j hh]
            obtain ⟨b1, b2, b3⟩ := Z.all _ (hzm j hj)
            exact ⟨C.plain_cell b1, C.plain_solid b1, by cases hq : zs.getD j (.dead undef) <;> first | trivial | exact .inl rfl, C.ok_ext hE hSZ _ (fun b k hf => (b3 b k hf).elim) b2⟩
          · rw [hne i j hh]
            exact ⟨a1, a2, a3, C.ok_ext hE hSZ _ (fun b k hf hS => by obtain ⟨o', hA⟩ := hS; exact (h5 i j hi'' hj b k hf).1 rfl o' hA) a4⟩
        · rcases h4 hm with hh | ⟨g, o', arr, t, fz, d1, d2, d3, d4⟩
          · exact .inl hh
          · have hg : g < w.heap.size := (Array.getElem?_eq_some_iff.1 d2).1
            obtain ⟨arr', hh', hs'⟩ : ∃ arr', w'.heap[g]? = some (.cells arr' t fz) ∧ arr'.size = arr.size := by
              rcases hE.block g hg with e' | ⟨a1, a2, t', fz', q1, q2, q3, q4⟩
              · exact ⟨arr, e'.trans d2, rfl⟩
              · rw [d2] at q1
                injection q1 with q1
                injection q1 with b1 b2 b3
                subst b1; subst b2; subst b3
                exact ⟨a2, q2, q3⟩
            exact .inr ⟨g, o', arr', t, fz, d1, hh', by omega, fun k k1 k2 => (hE.frozen hg).trans (d4 k k1 k2)⟩
        · by_cases hh : lo ≤ i ∧ i < hi'
          · rw [he i j hh] at hf; exact ((Z.all _ (hzm j hj)).2.2 b k hf).elim
          · rw [hne i j hh] at hf
            obtain ⟨a1, a2⟩ := h5 i j hi'' hj b k hf
            refine ⟨a1, fun i' j' hi2 hj2 hne2 hf' => ?_⟩
            by_cases hh' : lo ≤ i' ∧ i' < hi'
            · rw [he i' j' hh'] at hf'; exact (Z.all _ (hzm j' hj2)).2.2 b k hf'
            · rw [hne i' j' hh'] at hf'; exact a2 i' j' hi2 hj2 hne2 hf'
      have hk0 := h.inv.killB r p
      have hs0 : ((G r).cutOff (C.belows r p)).sub p = some (C.row .own sz1 A len cap e) := C.off_sub _ p _ _ (h.inv.ok r) hs
      obtain ⟨i1, i2, i3⟩ := hk0.back0 r p (fun t => C.off_free _ _) hs0 (C.Face.row .own .own sz1 A len cap e e') ⟨rfl, fun h => h, fun h => h, fun h => h, fun m h => h⟩ ⟨trivial, trivial⟩ hE (fun b k hs => .inl (hSd b k hs)) hd'ok (fun b k hz => hz)
        (fun b k hz => ⟨fun hf => (h.inv.fz r b k (hin b k (hdfp b k hf))).1 hz, Nat.lt_of_lt_of_le (h.inv.zin b k (.inl hz)) hE.size, fun t hf => by
          rw [C.off_fp] at hf
          exact ((h.inv.fz t b k hf).1 hz).elim⟩) (fun b k hf => .inl (hdfp b k hf))
      have her : (C.row .own sz1 A len cap e').er = .row .own sz1 (fillE lo hi' z ((List.range len).map fun i => (List.range sz1).map fun j => (e i j).er)) := by
        simp only [C.er, fillE]
        congr 1
        apply List.ext_getElem?
        intro i
        rw [List.getElem?_mapIdx, C.map_range_get?, C.map_range_get?]
        split
        · simp only [Option.map_some, Option.some.injEq]
          by_cases hh : lo ≤ i ∧ i < hi'
          · rw [if_pos hh, ← Z.er, ← range_getD zs (.dead undef) C.er, hzl, hzs]
            exact List.map_congr_left fun j _ => by rw [he i j hh]
          · rw [if_neg hh]
            exact List.map_congr_left fun j _ => by rw [hne i j hh]
        · rfl
      rw [her] at i1
      have hst : St c _ zl _ a w' := h.move i1 (fun t => (i2 t).trans (C.off_val _ _)) hE (fun b k hs => h.tr.dom r b k (hin b k (hSd b k hs))) (fun t b k hf => by
        rcases i3 t b k hf with hd | ⟨hh, _⟩
        · exact .inl ⟨r, hin b k (hdfp b k hd)⟩
        · rw [C.off_fp] at hh
          exact .inl ⟨t, hh⟩)
      exact ⟨.tuple #[], w', .inl hrun, _, zl, _, hK, by rw [hd]; exact hst⟩
    | sl => exact hK.elim
    | bor => exact hK.elim
  | _ => exact hK.elim
end
end M
set_option linter.unusedVariables false
set_option linter.unusedSimpArgs false
namespace M
open Go Go.RowKit
variable [Bs]
section
variable {P : Program} {c : Ctx} {G : Nat → C} {zl : Nat → Nat → Prop} {s : Slots} {a : Act} {w : World} {o : Oper} {K : Slots → Prop}
theorem plain_of {x : C} (hc : x.cell) (hs : x.solid) : x.plain := by
  cases x <;> first | exact hc | exact hs.elim | trivial
theorem er_row {x : C} {m : Md} {z : Nat} {xs : List (List X)} (h : x.er = .row m z xs) : ∃ A len cap e, x = .row m z A len cap e ∧ xs = rowX z len e := by
  cases x with
  | row m' z' A len cap e =>
    simp only [C.er] at h
    injection h with h1 h2 h3
    subst h1; subst h2
    exact ⟨A, len, cap, e, rfl, h3.symm⟩
  | _ => simp [C.er] at h
theorem scalar_kid {z len : Nat} {e : Nat → Nat → C} (h : scalars (rowX z len e)) {i j : Nat} (hi : i < len) (hj : j < z) : scalar (e i j).er = true :=
  h _ (List.mem_map.2 ⟨i, by simpa using hi, rfl⟩) _ (List.mem_map.2 ⟨j, by simpa using hj, rfl⟩)
theorem scalar_plain {x : C} (h : scalar x.er = true) : x.plain ∧ ∀ b k, ¬ x.fp b k := by
  cases x <;> first | exact ⟨trivial, fun _ _ h => h⟩ | (simp [C.er, scalar] at h)

theorem takeE_cut {w : World} {zl zb : Nat → Nat → Prop} {G : Nat → C} {s : Slots} (h : Inv w zl zb G s) {v : Value} {r : Nat} {p : Path} {lo hi : Nat} (hr : (C.cut v r p lo hi).rf G) {z : Nat} {xs : List (List X)} (hl : look s r p = some (.row .own z xs)) :
    ∃ A' cap' e2 G', v = .slice (Option.map (fun q : Ad => ⟨q.1, q.2.1, q.2.2⟩) A') (hi - lo) cap' ∧ ((xs.take hi).drop lo) = rowX z (hi - lo) e2 ∧ (∀ i j, i < hi - lo → j < z → ∃ g o, A' = some (g, o, none) ∧ w.cell? ⟨g, o + i * z + j, none⟩ = some (e2 i j).val) ∧
      (∀ i j, i < hi - lo → j < z → (e2 i j).plain) ∧ TookL w zl zb G (kidsR (hi - lo) z e2).flatten G' (setB r p (.row .own z (deadE lo hi xs)) s) := by
  obtain ⟨m, sz, A, len, cap, e, A', cap', hs, hv, hlo, hhi, hcap, hA', -, -⟩ := hr
  unfold look at hl
  rw [← h.er, C.sub_er, hs] at hl
  simp only [Option.map_some, C.er, Option.some.injEq, X.row.injEq] at hl
  obtain ⟨rfl, rfl, rfl⟩ := hl
  have hok := C.sub_ok p hs (h.ok r)
  have hin : ∀ b k, (C.row .own sz A len cap e).fp b k → (G r).fp b k := fun b k hf => C.sub_fp p hs (h.ok r) hf
  obtain ⟨h1, h2, h3, h4, h5⟩ := hok
  let e' : Nat → Nat → C := fun i j => if lo ≤ i ∧ i < hi then .dead (e i j).val else e i j
  have he : ∀ i j, (lo ≤ i ∧ i < hi) → e' i j = .dead (e i j).val := fun i j hh => if_pos hh
  have hne : ∀ i j, ¬ (lo ≤ i ∧ i < hi) → e' i j = e i j := fun i j hh => if_neg hh
  have hkid : ∀ i j, i < len → j < sz → ∀ b k, (e i j).fp b k → (C.row .own sz A len cap e).fp b k := fun i j hi hj b k hf => ⟨rfl, .inr ⟨i, j, hi, hj, hf⟩⟩
  have hdfp : ∀ b k, (C.row .own sz A len cap e').fp b k → (C.row .own sz A len cap e).fp b k := fun b k hf => by
    obtain ⟨_, hA | ⟨i, j, hi', hj, hf⟩⟩ := hf
    · exact ⟨rfl, .inl hA⟩
    · by_cases hh : lo ≤ i ∧ i < hi
      · rw [he i j hh] at hf; exact hf.elim
      · rw [hne i j hh] at hf; exact hkid i j hi' hj b k hf
  have hd'ok : (C.row .own sz A len cap e').ok w (Zf zl zb) := by
    refine ⟨h1, fun i j hi' hj => ?_, fun i j hi' hj => ?_, h4, fun i j hi' hj b k hf => ?_⟩
    · obtain ⟨g, o, a1, a2, a3⟩ := h2 i j hi' hj
      refine ⟨g, o, a1, ?_, a3⟩
      rw [a2]
      by_cases hh : lo ≤ i ∧ i < hi
      · rw [he i j hh]; rfl
      · rw [hne i j hh]
    · obtain ⟨a1, a2, a3, a4⟩ := h3 i j hi' hj
      by_cases hh : lo ≤ i ∧ i < hi
      · rw [he i j hh]; exact ⟨Inv.cell_val a1, trivial, trivial, trivial⟩
      · rw [hne i j hh]; exact ⟨a1, a2, a3, a4⟩
    · by_cases hh : lo ≤ i ∧ i < hi
      · rw [he i j hh] at hf; exact hf.elim
      · rw [hne i j hh] at hf
        obtain ⟨a1, a2⟩ := h5 i j hi' hj b k hf
        refine ⟨a1, fun i' j' hi2 hj2 hne2 hf' => ?_⟩
        by_cases hh' : lo ≤ i' ∧ i' < hi
        · rw [he i' j' hh'] at hf'; exact hf'
        · rw [hne i' j' hh'] at hf'; exact a2 i' j' hi2 hj2 hne2 hf'
  have h0 := h.killB r p
  have hs0 : ((G r).cutOff (C.belows r p)).sub p = some (C.row .own sz A len cap e) := C.off_sub _ p _ _ (h.ok r) hs
  obtain ⟨i1, i2, i3⟩ := h0.back0 r p (fun t => C.off_free _ _) hs0 (C.Face.row .own .own sz A len cap e e') ⟨rfl, fun h => h, fun h => h, fun h => h, fun m h => h⟩ ⟨trivial, trivial⟩ (Ext.refl (fun _ _ => False) w) (fun b k hs => hs.elim) hd'ok (fun b k hz => hz)
    (fun b k hz => ⟨fun hf => (h.fz r b k (hin b k (hdfp b k hf))).1 hz, h.zin b k (.inl hz), fun t hf => by
      rw [C.off_fp] at hf
      exact ((h.fz t b k hf).1 hz).elim⟩) (fun b k hf => .inl (hdfp b k hf))
  have her : (C.row .own sz A len cap e').er = .row .own sz (deadE lo hi ((List.range len).map fun i => (List.range sz).map fun j => (e i j).er)) := by
    simp only [C.er, deadE]
    congr 1
    apply List.ext_getElem?
    intro i
    rw [List.getElem?_mapIdx, C.map_range_get?, C.map_range_get?]
    split
    · simp only [Option.map_some, Option.some.injEq]
      by_cases hh : lo ≤ i ∧ i < hi
      · rw [if_pos hh, List.map_map]
        exact List.map_congr_left fun j _ => by rw [he i j hh]; rfl
      · rw [if_neg hh]
        exact List.map_congr_left fun j _ => by rw [hne i j hh]
    · rfl
  rw [her] at i1
  have hmem : ∀ x ∈ (kidsR (hi - lo) sz fun i j => e (i + lo) j).flatten, ∃ i j, i < hi - lo ∧ j < sz ∧ x = e (i + lo) j := fun x hx => by
    obtain ⟨i, j, hi', hj, rfl⟩ := kidsR_mem hx
    exact ⟨i, j, hi', hj, rfl⟩
  have hlt : hi - lo ≠ 0 → A' = A.map fun q => adv (lo * sz) q := fun hne => hA' (by omega)
  have hrow : (((List.range len).map fun i => (List.range sz).map fun j => (e i j).er).take hi).drop lo = rowX sz (hi - lo) fun i j => e (i + lo) j := by
    unfold rowX
    rw [← List.map_take, ← List.map_drop, List.take_range, Nat.min_eq_left hhi]
    apply List.ext_getElem?
    intro i
    rw [C.map_range_get?, List.getElem?_map, List.getElem?_drop]
    by_cases hh : i < hi - lo
    · rw [if_pos hh, List.getElem?_range (by omega), Nat.add_comm]
      rfl
    · rw [if_neg hh, List.getElem?_eq_none (by simp; omega)]
      rfl
  have h3' : ∀ i j, i < hi - lo → j < sz → (e (i + lo) j).plain := fun i j hi' hj => plain_of (h3 (i + lo) j (by omega) hj).1 (h3 (i + lo) j (by omega) hj).2.1
  refine ⟨A', cap', fun i j => e (i + lo) j, _, hv, hrow, fun i j hi' hj => ?_, h3', ⟨i1, fun x hx => ?_, ?_, fun t => (i2 t).trans (C.off_val _ _), fun t b k hf => ?_⟩⟩
  · obtain ⟨g, o, a1, a2, a3⟩ := h2 (i + lo) j (by omega) hj
    refine ⟨g, o + lo * sz, by rw [hlt (by omega), a1, Option.map_some, adv_none], ?_⟩
    rw [show o + lo * sz + i * sz + j = o + (i + lo) * sz + j by rw [Nat.add_mul]; omega]
    exact a2
  · obtain ⟨i, j, hi', hj, rfl⟩ := hmem x hx
    have hj2 : i + lo < len := by omega
    refine ⟨(h3 (i + lo) j hj2 hj).2.2.2, fun t b k hf hf' => ?_, fun b k hf => h.fz r b k (hin b k (hkid _ _ hj2 hj b k hf)), fun b k hf => ⟨r, hin b k (hkid _ _ hj2 hj b k hf)⟩⟩
    rcases i3 t b k hf' with hd | ⟨_, hn⟩
    · obtain ⟨_, ⟨o, hA⟩ | ⟨i', j', hi2, hj2', hf2⟩⟩ := hd
      · exact (h5 _ j hj2 hj b k hf).1 rfl o hA
      · by_cases hh : lo ≤ i' ∧ i' < hi
        · rw [he i' j' hh] at hf2; exact hf2
        · rw [hne i' j' hh] at hf2
          refine (h5 _ j hj2 hj b k hf).2 i' j' hi2 hj2' (fun e => hh ?_) hf2
          injection e with e1 e2
          omega
    · exact hn (hkid _ _ hj2 hj b k hf)
  · have hsub : (C.row .own sz (A.map fun q => adv (lo * sz) q) (hi - lo) (cap - lo) fun i j => e (i + lo) j).ok w (Zf zl zb) := (cut_row ⟨h1, h2, h3, h4, h5⟩ hlo hhi (by omega) (by omega) (.inr rfl)).1
    exact kidsR_apart hsub
  · by_cases ht : t = r
    · subst ht
      rcases i3 t b k hf with hd | ⟨hh, _⟩
      · exact hin b k (hdfp b k hd)
      · rwa [C.off_fp] at hh
    · rw [updG_other _ _ ht, C.off_fp] at hf
      exact hf
theorem op_app (h : St c G zl s a w) {d sz bytes : Nat} {tk : Tk} {ty ty' el el' : TypeId} {i : TypeInfo} {v : Value} {x y : AV} {x' y' : Operand}
    (ho : o.op = .call { callee := .builtin .append, args := #[x', y'], argTypes := #[ty, ty'] }) (hu : P.underlying ty = some (.slice el)) (hu' : P.underlying ty' = some (.slice el')) (hi : P.info? el = some i) (hz : i.zero = some v) (hsz : i.size = sz) (hb : i.bytes = bytes) (hb0 : 0 < bytes) (h0 : 0 < sz) (hvs : v.cells.size = sz)
    (hd : o.dst = some d) (hn : d < c.nt) (hx : chkV x' x = true) (hy : chkV y' y = true) (hK : awpOp P (.app d tk sz bytes x y) s K) : Good P c o a w K := by
  obtain ⟨p, e1, e2, e3⟩ := av_ok h hx
  obtain ⟨y1, G1, f1, f2, f3, f4⟩ := take_ok .mv h.inv e3
  simp only [awpOp] at hK
  rw [e1] at f1 f4
  rw [← f1] at hK
  have h1 := h.took0 f4
  have hvx := (f2.trans e2).symm
  cases hE : y1.er with
  | row m z xs =>
    rw [hE] at hK
    cases m with
    | own =>
      obtain ⟨A, len, cap, e, rfl, rfl⟩ := er_row hE
      obtain ⟨rfl, hK⟩ := hK
      obtain ⟨q, q1, q2, q3⟩ := av_ok h1 hy
      have hk1 : ∀ i j, i < len → j < z → (e i j).plain := fun i j hi hj => plain_of (f4.ok.2.2.1 i j hi hj).1 (f4.ok.2.2.1 i j hi hj).2.1
      have hxl : (rowX z len e).length = len := by simp [rowX]
      have other : (∃ ys, rowAt (take .mv (opv s x) s).2 (opv (take .mv (opv s x) s).2 y) = some (z, ys) ∧ ((rowX z len e).length + ys.length) * bytes ≤ 140737488355328 ∧ scalars ys ∧ K (put d (.row .own z (rowX z len e ++ ys)) (take .mv (opv s x) s).2)) → Good P c o a w K := by
        rintro ⟨ys, k1, k2, k3, k4⟩
        rw [← q1] at k1
        obtain ⟨A2, m, cap2, e2, rfl, hv⟩ := row_of h1.inv q3 k1
        have hyl : (rowX z m e2).length = m := by simp [rowX]
        refine app_core h (TookL.one f4) ho hu hu' hi hz hsz hb hb0 h0 hvs hd hn (List.mem_singleton.2 rfl) hvx (by rw [← q2]; exact hv.val) (fun i j hi hj => hv.cell i j hi hj) (fun i j hi hj => ?_) (apart_of fun x hx => ?_) (by rw [hxl, hyl] at k2; exact k2) hk1 k4
        · obtain ⟨s1, s2⟩ := scalar_plain (scalar_kid k3 hi hj)
          exact ⟨s1, (hv.kid i j hi hj).2.2, fun b k hf => (s2 b k hf).elim⟩
        · obtain ⟨i, j, hi, hj, rfl⟩ := kidsR_mem hx
          exact (scalar_plain (scalar_kid k3 hi hj)).2
      cases tk with
      | al => exact other hK
      | as_ => exact other hK
      | mv =>
        simp only at hK
        by_cases hcut : ∃ v r p lo hi, q = .cut v r p lo hi
        · obtain ⟨vv, r, pp, lo, hi', rfl⟩ := hcut
          rw [← q1] at hK
          simp only [C.er, takeE] at hK
          split at hK
          · rename_i hh
            split at hh
            · rename_i z2 xs hl
              simp only [X.row.injEq, true_and] at hh
              obtain ⟨rfl, rfl⟩ := hh
              obtain ⟨rfl, k2, k4⟩ := hK
              obtain ⟨A2, cap2, e3, G3, c1, c2, c3, c4, c5⟩ := takeE_cut h1.inv q3.rf hl
              rw [c2] at k2 k4
              have hyl : (rowX z2 (hi' - lo) e3).length = hi' - lo := by simp [rowX]
              simp only [hl] at k4
              refine app_core h (TookL.cons f4 c5) ho hu hu' hi hz hsz hb hb0 h0 hvs hd hn (List.mem_cons_self ..) hvx (A2 := A2) (m := hi' - lo) (cap2 := cap2) (e2 := e3) (by rw [← q2]; exact c1) c3 (fun i j hi hj => ?_) c5.apart (by rw [hxl, hyl] at k2; exact k2) hk1 k4
              have hm : e3 i j ∈ (kidsR (hi' - lo) z2 e3).flatten := List.mem_flatten.2 ⟨_, List.mem_map.2 ⟨i, by simpa using hi, rfl⟩, List.mem_map.2 ⟨j, by simpa using hj, rfl⟩⟩
              refine ⟨c4 i j hi hj, (c5.all _ hm).1, fun b k hf => ⟨fun hf' => ?_, _, List.mem_cons_of_mem _ hm, hf⟩⟩
              obtain ⟨t, ht⟩ := (c5.all _ hm).2.2.2 b k hf
              exact f4.sep t b k hf' ht
            · cases hh
          · exact hK.elim
        have hte : takeE q.er (take .mv (opv s x) s).2 = take .mv q.er (take .mv (opv s x) s).2 := by
          cases q with
          | cut v r p lo hi => exact (hcut ⟨v, r, p, lo, hi, rfl⟩).elim
          | _ => rfl
        rw [← q1, hte, q1] at hK
        obtain ⟨y2, G2, g1, g2, g3, g4⟩ := take_ok .mv h1.inv q3
        rw [q1] at g1 g4
        rw [← g1] at hK
        cases hE2 : y2.er with
        | row m2 z2 xs2 =>
          rw [hE2] at hK
          cases m2 with
          | own =>
            obtain ⟨A2, m, cap2, e2, rfl, rfl⟩ := er_row hE2
            obtain ⟨rfl, k2, k4⟩ := hK
            have hyl : (rowX z2 m e2).length = m := by simp [rowX]
            obtain ⟨r1, r2, r3, r4, r5⟩ := g4.ok
            refine app_core h (TookL.cons f4 (TookL.one g4)) ho hu hu' hi hz hsz hb hb0 h0 hvs hd hn (List.mem_cons_self ..) hvx (A2 := A2) (m := m) (cap2 := cap2) (e2 := e2) (by rw [← q2, ← g2]; rfl) (fun i j hi hj => ?_) (fun i j hi hj => ?_) (kidsR_apart g4.ok) (by rw [hxl, hyl] at k2; exact k2) hk1 k4
            · obtain ⟨g, o2, a1, a2, _⟩ := r2 i j hi hj; exact ⟨g, o2, a1, a2⟩
            · obtain ⟨a1, a2, a3, a4⟩ := r3 i j hi hj
              refine ⟨plain_of a1 a2, a4, fun b k hf => ?_⟩
              have hin : (C.row .own z2 A2 m cap2 e2).fp b k := C.in_row a1 a3 hi hj hf
              refine ⟨fun hf' => ?_, _, List.mem_cons_of_mem _ (List.mem_singleton.2 rfl), hin⟩
              obtain ⟨t, ht⟩ := g4.dom b k hin
              exact f4.sep t b k hf' ht
          | _ => exact hK.elim
        | _ => rw [hE2] at hK; exact hK.elim
    | _ => exact hK.elim
  | _ => rw [hE] at hK; exact hK.elim
end
end M
set_option linter.unusedVariables false
set_option linter.unusedSimpArgs false
namespace M
open Go Go.RowKit
variable [Bs]
namespace X
theorem mdL_map (m : Md) {α : Type} (f : α → X) : ∀ l : List α, mdL m (l.map f) = l.map fun a => (f a).md m
  | [] => rfl
  | a :: l => by simp only [List.map_cons, mdL, mdL_map m f l]
theorem mdLL_map (m : Md) {α β : Type} (g : α → List β) (f : α → β → X) : ∀ l : List α, mdLL m (l.map fun a => (g a).map (f a)) = l.map fun a => (g a).map fun b => (f a b).md m
  | [] => rfl
  | a :: l => by simp only [List.map_cons, mdLL, mdL_map, mdLL_map m g f l]
end X
namespace C
/-- Seen as borrowed. -/
def mdb : C → C
  | .row _ sz A len cap e => .row .bor sz A len cap fun i j => (e i j).mdb
  | .ptr _ g o n c => .ptr .bor g o n fun j => (c j).mdb
  | .agg n c => .agg n fun j => (c j).mdb
  | .tup n c => .tup n fun j => (c j).mdb
  | .fn f n c => .fn f n fun j => (c j).mdb
  | .ref v _ _ => .dead v
  | .adr v _ _ _ _ => .dead v
  | .cut v _ _ _ _ => .dead v
  | .dead v => .dead v
  | .int k n => .int k n
  | .bool b => .bool b
  | .str s => .str s
theorem mdb_er : ∀ c : C, c.mdb.er = c.er.md .bor
  | .row m sz A len cap e => by
    simp only [mdb, er, X.md]
    rw [X.mdLL_map .bor (fun _ => List.range sz) (fun i j => (e i j).er)]
    congr 1
    exact List.map_congr_left fun i _ => List.map_congr_left fun j _ => mdb_er (e i j)
  | .ptr m g o n c => by simp only [mdb, er, X.md, X.mdL_map]; congr 1; exact List.map_congr_left fun j _ => mdb_er (c j)
  | .agg n c => by simp only [mdb, er, X.md, X.mdL_map]; congr 1; exact List.map_congr_left fun j _ => mdb_er (c j)
  | .tup n c => by simp only [mdb, er, X.md, X.mdL_map]; congr 1; exact List.map_congr_left fun j _ => mdb_er (c j)
  | .fn f n c => by simp only [mdb, er, X.md, X.mdL_map]; congr 1; exact List.map_congr_left fun j _ => mdb_er (c j)
  | .ref _ _ _ => by simp only [mdb, er, X.md]
  | .adr _ _ _ _ _ => by simp only [mdb, er, X.md]
  | .cut _ _ _ _ _ => by simp only [mdb, er, X.md]
  | .dead _ => by simp only [mdb, er, X.md]
  | .int _ _ => by simp only [mdb, er, X.md]
  | .bool _ => by simp only [mdb, er, X.md]
  | .str _ => by simp only [mdb, er, X.md]
theorem mdb_val : ∀ c : C, c.mdb.val = c.val
  | .row m sz A len cap e => rfl
  | .ptr m g o n c => rfl
  | .agg n c => by simp only [mdb, val]; congr 2; exact List.map_congr_left fun j _ => mdb_val (c j)
  | .tup n c => by simp only [mdb, val]; congr 2; exact List.map_congr_left fun j _ => mdb_val (c j)
  | .fn f n c => by simp only [mdb, val]; congr 2; exact List.map_congr_left fun j _ => mdb_val (c j)
  | .ref _ _ _ => rfl
  | .adr _ _ _ _ _ => rfl
  | .cut _ _ _ _ _ => rfl
  | .dead _ => rfl
  | .int _ _ => rfl
  | .bool _ => rfl
  | .str _ => rfl
theorem mdb_bare : ∀ c : C, c.mdb.bare
  | .row m sz A len cap e => trivial
  | .ptr m g o n c => fun j _ => mdb_bare (c j)
  | .agg n c => fun j _ => mdb_bare (c j)
  | .tup n c => fun j _ => mdb_bare (c j)
  | .fn f n c => fun j _ => mdb_bare (c j)
  | .ref _ _ _ => trivial
  | .adr _ _ _ _ _ => trivial
  | .cut _ _ _ _ _ => trivial
  | .dead _ => trivial
  | .int _ _ => trivial
  | .bool _ => trivial
  | .str _ => trivial
theorem mdb_nofp : ∀ (c : C) (b k : Nat), ¬ c.mdb.fp b k
  | .row m sz A len cap e, b, k => fun h => by cases h.1
  | .ptr m g o n c, b, k => fun h => by cases h.1
  | .agg n c, b, k => fun ⟨j, _, hf⟩ => mdb_nofp (c j) b k hf
  | .tup n c, b, k => fun ⟨j, _, hf⟩ => mdb_nofp (c j) b k hf
  | .fn f n c, b, k => fun h => h
  | .ref _ _ _, b, k => fun h => h
  | .adr _ _ _ _ _, b, k => fun h => h
  | .cut _ _ _ _ _, b, k => fun h => h
  | .dead _, b, k => fun h => h
  | .int _ _, b, k => fun h => h
  | .bool _, b, k => fun h => h
  | .str _, b, k => fun h => h
theorem mdb_cell {c : C} (h : c.cell) : c.mdb.cell := by
  cases c <;> first | exact h | exact h.elim | trivial
theorem mdb_notup {c : C} (h : c.notup) : c.mdb.notup := by
  cases c <;> first | exact h | exact h.elim | trivial
theorem mdb_solid {c : C} (h : c.solid) : c.mdb.solid := by
  cases c <;> first | exact h | exact h.elim | trivial
theorem mdb_fits (c : C) : c.mdb.fits .bor := by
  cases c <;> first | trivial | exact .inr (.inl rfl)
variable {w : World} {zl zb zb' : Nat → Nat → Prop}
theorem mdb_ok (hb : ∀ b k, zb b k → zb' b k) : ∀ c : C, (∀ b k, c.fp b k → zb' b k) → c.ok w (Zf zl zb) → c.mdb.ok w (Zf zl zb')
  | .row m sz A len cap e, hf, h => by
    obtain ⟨h1, h2, h3, h4, h5⟩ := h
    refine ⟨h1, fun i j hi hj => ?_, fun i j hi hj => ?_, fun hm => by (cases hm), fun i j hi hj b k hh => (mdb_nofp _ b k hh).elim⟩
    · obtain ⟨g, o, hA, hc, hz⟩ := h2 i j hi hj
      refine ⟨g, o, hA, by rw [mdb_val]; exact hc, fun _ => ?_⟩
      cases m with
      | own => exact .inr (hf _ _ ⟨rfl, .inl ⟨o, hA⟩⟩)
      | sl => exact .inl (hz (by simp))
      | bor => exact (hz (by simp)).imp id (hb _ _)
    · obtain ⟨a1, a2, a3, a4⟩ := h3 i j hi hj
      exact ⟨mdb_cell a1, mdb_solid a2, mdb_fits _, mdb_ok hb (e i j) (fun b k hk => hf b k (in_row a1 a3 hi hj hk)) a4⟩
  | .ptr m g o n c, hf, h => by
    obtain ⟨h1, h2, h3, h4⟩ := h
    refine ⟨fun j hj => ?_, h2, fun j hj => ?_, fun j hj b k hh => (mdb_nofp _ b k hh).elim⟩
    · obtain ⟨a1, a2, a3⟩ := h1 j hj
      refine ⟨by rw [mdb_val]; exact a1, fun _ => ?_, fun hm => by (cases hm)⟩
      cases m with
      | own => exact .inr (hf _ _ ⟨rfl, .inl ⟨rfl, by omega, by omega⟩⟩)
      | sl => exact .inl (a2 (by simp))
      | bor => exact (a2 (by simp)).imp id (hb _ _)
    · obtain ⟨a1, a2, a3⟩ := h3 j hj
      exact ⟨mdb_cell a1, mdb_fits _, mdb_ok hb (c j) (fun b k hk => hf b k (in_ptr a1 a2 hj hk)) a3⟩
  | .agg n c, hf, h => ⟨fun j hj => ⟨mdb_cell (h.1 j hj).1, mdb_ok hb (c j) (fun b k hk => hf b k ⟨j, hj, hk⟩) (h.1 j hj).2⟩, fun j hj b k hh => (mdb_nofp _ b k hh).elim⟩
  | .tup n c, hf, h => ⟨fun j hj => ⟨mdb_notup (h.1 j hj).1, mdb_ok hb (c j) (fun b k hk => hf b k ⟨j, hj, hk⟩) (h.1 j hj).2⟩, fun j hj b k hh => (mdb_nofp _ b k hh).elim⟩
  | .fn f n c, hf, h => fun j hj => ⟨mdb_ok hb (c j) (fun b k hk => ((h j hj).2 b k hk).elim) (h j hj).1, fun b k hh => mdb_nofp _ b k hh⟩
  | .ref _ _ _, _, _ => trivial
  | .adr _ _ _ _ _, _, _ => trivial
  | .cut _ _ _ _ _, _, _ => trivial
  | .dead _, _, _ => trivial
  | .int _ _, _, _ => trivial
  | .bool _, _, _ => trivial
  | .str _, _, h => h
end C

/-- A value that may be handed over: it owns nothing and points nowhere. -/
structure Lent (w : World) (zl zb : Nat → Nat → Prop) (x : C) : Prop where
  ok : x.ok w (Zf zl zb)
  bare : x.bare
  nofp : ∀ b k, ¬ x.fp b k
section
variable {w : World} {zl zb zb' : Nat → Nat → Prop} {G : Nat → C} {s : Slots}
theorem lent_mdb (hb : ∀ b k, zb b k → zb' b k) {y : C} (hy : y.ok w (Zf zl zb)) (hf : ∀ b k, y.fp b k → zb' b k) : Lent w zl zb' y.mdb := ⟨C.mdb_ok hb y hf hy, C.mdb_bare y, C.mdb_nofp y⟩
theorem lent_dead (v : Value) : Lent w zl zb' (.dead v) := ⟨trivial, trivial, fun _ _ h => h⟩

theorem res1_ok (h : Inv w zl zb G s) (hb : ∀ b k, zb b k → zb' b k) (hG : ∀ t b k, (G t).fp b k → zb' b k) {y : C} (hy : Opd w zl zb G y) : ∃ x : C, x.er = res1 s y.er ∧ x.val = y.val ∧ Lent w zl zb' x ∧ (y.cell → x.cell) ∧ (y.notup → x.notup) ∧ x.fits .bor := by
  have plainly : res1 s y.er = y.er.md .bor → ∃ x : C, x.er = res1 s y.er ∧ x.val = y.val ∧ Lent w zl zb' x ∧ (y.cell → x.cell) ∧ (y.notup → x.notup) ∧ x.fits .bor := fun e =>
    ⟨y.mdb, by rw [C.mdb_er, e], C.mdb_val y, lent_mdb hb hy.ok fun b k hf => (hy.nofp b k hf).elim, C.mdb_cell, C.mdb_notup, C.mdb_fits _⟩
  cases y with
  | ref v r p =>
    obtain ⟨y', z', hs, hF, hv, m, z1, A, len, cap, e, rfl⟩ := hy.rf
    cases hF with
    | row m m' sz' A len cap e e' =>
      refine ⟨(C.row m' z1 A len cap e').mdb, ?_, by rw [C.mdb_val]; exact hv, lent_mdb hb (C.sub_ok p hs (h.ok r)) fun b k hf => hG r b k (C.sub_fp p hs (h.ok r) hf), fun _ => trivial, fun _ => trivial, .inr (.inl rfl)⟩
      rw [C.mdb_er]
      simp only [C.er, res1, look]
      rw [← h.er, C.sub_er, hs]
      rfl
  | cut v r p lo hi =>
    obtain ⟨m, sz, A, len, cap, e, A', cap', hs, hv, hlo, hhi, hcap, hA', -, -⟩ := hy.rf
    have hok := C.sub_ok p hs (h.ok r)
    obtain ⟨h1, h2, h3, h4, h5⟩ := (lent_mdb hb hok fun b k hf => hG r b k (C.sub_fp p hs (h.ok r) hf)).ok
    refine ⟨.row .bor sz A' (hi - lo) cap' fun i j => (e (i + lo) j).mdb, ?_, hv.symm, ⟨⟨hcap, fun i j hi' hj => ?_, fun i j hi' hj => h3 (i + lo) j (by omega) hj, fun hm => by (cases hm), fun i j hi' hj b k hh => (C.mdb_nofp _ b k hh).elim⟩, trivial, fun b k hh => by cases hh.1⟩, fun _ => trivial, fun _ => trivial, .inr (.inl rfl)⟩
    · simp only [C.er, res1, look]
      rw [← h.er, C.sub_er, hs]
      simp only [Option.map_some, C.er, X.md]
      rw [← List.map_take, ← List.map_drop, List.take_range, Nat.min_eq_left hhi, range_drop, List.map_map]
      show _ = X.row .bor sz (X.mdLL .bor ((List.range (hi - lo)).map fun i => (List.range sz).map fun j => (e (i + lo) j).er))
      rw [X.mdLL_map .bor (fun _ => List.range sz) (fun i j => (e (i + lo) j).er) (List.range (hi - lo))]
      congr 1
      exact List.map_congr_left fun i _ => List.map_congr_left fun j _ => C.mdb_er _
    · obtain ⟨g, o, q1, q2, q3⟩ := h2 (i + lo) j (by omega) hj
      refine ⟨g, o + lo * sz, by rw [hA' (by omega), q1, Option.map_some, adv_none], ?_, fun hm => ?_⟩
      · rw [show o + lo * sz + i * sz + j = o + (i + lo) * sz + j by rw [Nat.add_mul]; omega]; exact q2
      · rw [show o + lo * sz + i * sz + j = o + (i + lo) * sz + j by rw [Nat.add_mul]; omega]; exact q3 hm
  | _ => exact plainly rfl

/-- Whose memory an address is in. -/
theorem lies_mem (h : Inv w zl zb G s) {y : C} (hy : Opd w zl zb G y) {cs : List X} (hc : cellsAt s y.er = some cs) : ∃ g k, y.val = .pointer (some ⟨g, k, none⟩) ∧ ∀ j, j < cs.length → zl g (k + j) ∨ zb g (k + j) ∨ ∃ t, (G t).fp g (k + j) := by
  have zs : ∀ {m : Md} {b k : Nat}, m ≠ .own → Zf zl zb m b k → zl b k ∨ zb b k ∨ ∃ t, (G t).fp b k := fun {m b k} hm hz => by
    cases m with
    | own => exact (hm rfl).elim
    | sl => exact .inl hz
    | bor => exact hz.imp id .inl
  cases y with
  | ptr m g o n f =>
    simp only [C.er, cellsAt] at hc
    injection hc with hc
    refine ⟨g, o, rfl, fun j hj => ?_⟩
    have hj : j < n := by rw [← hc] at hj; simpa using hj
    obtain ⟨h1, h2, h3, h4⟩ := hy.ok
    by_cases hm : m = .own
    · exact (hy.nofp g (o + j) ⟨hm, .inl ⟨rfl, by omega, by omega⟩⟩).elim
    · exact zs hm ((h1 j hj).2.1 hm)
  | adr v r p i k0 =>
    obtain ⟨z, hz, hp⟩ := hy.rf
    have hzok := C.sub_ok p hz (h.ok r)
    simp only [C.er, cellsAt, look] at hc
    rw [← h.er, C.sub_er, hz] at hc
    simp only [Option.map_some] at hc
    rcases hp with ⟨m, sz, g, o, len, cap, e, rfl, rfl⟩ | ⟨m, g, o, n, f, rfl, rfl, rfl⟩
    · simp only [C.er, C.map_range_get?] at hc
      by_cases hi : i < len
      · rw [if_pos hi] at hc
        simp only [Option.map_some, Option.some.injEq] at hc
        refine ⟨g, o + i * sz + k0, rfl, fun j hj => ?_⟩
        have hj : k0 + j < sz := by
          rw [← hc] at hj
          rw [← List.map_drop, range_drop, C.aliasL_er r p i ((List.range (sz - k0)).map (· + k0)) k0 (fun j => e i j) (by simp)] at hj
          simp at hj
          omega
        by_cases hm : m = .own
        · subst hm
          exact .inr (.inr ⟨r, C.sub_fp p hz (h.ok r) ⟨rfl, .inl ⟨o, rfl⟩⟩⟩)
        · obtain ⟨g', o', hA, hcell, hzz⟩ := hzok.2.1 i (k0 + j) hi hj
          injection hA with hA
          injection hA with e1 e2
          injection e2 with e2
          subst e1; subst e2
          rw [Nat.add_assoc]
          exact zs hm (hzz hm)
      · rw [if_neg hi] at hc; cases hc
    · simp only [C.er, Option.some.injEq] at hc
      refine ⟨g, o + k0, rfl, fun j hj => ?_⟩
      have hj : k0 + j < n := by
        rw [← hc] at hj
        rw [← List.map_drop, range_drop, C.aliasL_er r p 0 ((List.range (n - k0)).map (· + k0)) k0 f (by simp)] at hj
        simp at hj
        omega
      by_cases hm : m = .own
      · subst hm
        exact .inr (.inr ⟨r, C.sub_fp p hz (h.ok r) ⟨rfl, .inl ⟨rfl, by omega, by omega⟩⟩⟩)
      · have := (hzok.1 (k0 + j) hj).2.1 hm
        rw [Nat.add_assoc]
        exact zs hm this
  | _ => simp [C.er, cellsAt] at hc
theorem resL_ok (h : Inv w zl zb G s) (hb : ∀ b k, zb b k → zb' b k) (hG : ∀ t b k, (G t).fp b k → zb' b k) : ∀ l : List C, (∀ x ∈ l, Opd w zl zb G x ∧ x.cell) → ∃ l' : List C, l'.map C.er = resL s (l.map C.er) ∧ l'.map C.val = l.map C.val ∧ ∀ x ∈ l', Lent w zl zb' x ∧ x.cell ∧ x.fits .bor
  | [], hl => ⟨[], rfl, rfl, fun _ hx => (by cases hx)⟩
  | y :: l, hl => by
    obtain ⟨x, x1, x2, x3, x4, _, x6⟩ := res1_ok h hb hG (hl y (List.mem_cons_self ..)).1
    obtain ⟨l', l1, l2, l3⟩ := resL_ok h hb hG l fun x hx => hl x (List.mem_cons_of_mem _ hx)
    refine ⟨x :: l', by simp [resL, x1, l1], by simp [x2, l2], fun z hz => ?_⟩
    rcases List.mem_cons.1 hz with rfl | hz
    · exact ⟨x3, x4 (hl y (List.mem_cons_self ..)).2, x6⟩
    · exact l3 z hz
/-- A pointer, borrowed. -/
theorem resPtrG_ok (F : List X → List X) (hF : ∀ l : List C, (∀ x ∈ l, Opd w zl zb G x ∧ x.cell) → ∃ l' : List C, l'.map C.er = F (l.map C.er) ∧ l'.map C.val = l.map C.val ∧ ∀ x ∈ l', Lent w zl zb' x ∧ x.cell ∧ x.fits .bor) (h : Inv w zl zb G s) (hb : ∀ b k, zb b k → zb' b k) (hG : ∀ t b k, (G t).fp b k → zb' b k) {y : C} (hy : Opd w zl zb G y) {cs : List X} (hc : cellsAt s y.er = some cs) (hne : cs ≠ []) (n : Nat) (hn : 0 < n) :
    ∃ x : C, x.er = .ptr .bor (F (cs.take n)) ∧ x.val = y.val ∧ Lent w zl zb' x := by
  obtain ⟨l, l1, ⟨g, k, hv, hcell⟩, l3⟩ := lies_of h hy hc
  obtain ⟨g', k', hv', hmem⟩ := lies_mem h hy hc
  rw [hv] at hv'
  injection hv' with hv'; injection hv' with hv'; injection hv' with e1 e2 e3
  subst e1; subst e2
  have hll : l.length = cs.length := by rw [← l1]; simp
  obtain ⟨l', m1, m2, m3⟩ := hF (l.take n) fun x hx => l3 x (List.mem_of_mem_take hx)
  have hl' : l'.length = min n l.length := by
    have := congrArg List.length m2
    simpa using this
  have hpos : 0 < l.length := by rw [hll]; exact List.length_pos_iff.2 hne
  refine ⟨.ptr .bor g k l'.length fun j => l'.getD j (.dead undef), ?_, hv.symm, ⟨⟨fun j hj => ⟨?_, fun _ => ?_, fun hm => by (cases hm)⟩, ?_, fun j hj => ⟨(m3 _ (getD_mem hj _)).2.1, (m3 _ (getD_mem hj _)).2.2, (m3 _ (getD_mem hj _)).1.ok⟩, fun j hj b k hh => ((m3 _ (getD_mem hj _)).1.nofp b k hh).elim⟩, fun j hj => (m3 _ (getD_mem hj _)).1.bare, fun b k hh => by cases hh.1⟩⟩
  · simp only [C.er, range_getD]
    rw [m1, List.map_take, l1]
  · have hj' : j < l.length := by omega
    have hmv : (l'.getD j (.dead undef)).val = (l[j]).val := by
      have := congrArg (fun t : List Value => t[j]?) m2
      simp only [List.getElem?_map, List.getElem?_eq_getElem hj, Option.map_some] at this
      rw [List.getElem?_take_of_lt (by omega), List.getElem?_eq_getElem hj'] at this
      rw [getD_of (List.getElem?_eq_getElem hj)]
      simpa using this
    rw [hmv]
    exact hcell j hj'
  · rcases hmem j (by omega) with hz | hz | ⟨t, ht⟩
    · exact .inl hz
    · exact .inr (hb _ _ hz)
    · exact .inr (hG t _ _ ht)
  · have := hcell 0 hpos
    rcases Nat.lt_or_ge g w.heap.size with hg | hg
    · exact hg
    · simp [World.cell?, Array.getElem?_eq_none hg] at this
theorem resPtr_ok (h : Inv w zl zb G s) (hb : ∀ b k, zb b k → zb' b k) (hG : ∀ t b k, (G t).fp b k → zb' b k) {y : C} (hy : Opd w zl zb G y) {cs : List X} (hc : cellsAt s y.er = some cs) (hne : cs ≠ []) (n : Nat) (hn : 0 < n) :
    ∃ x : C, x.er = .ptr .bor (resL s (cs.take n)) ∧ x.val = y.val ∧ Lent w zl zb' x := resPtrG_ok (resL s) (resL_ok h hb hG) h hb hG hy hc hne n hn
/-- One cell of a captured variable. -/
theorem resA_ok (h : Inv w zl zb G s) (hb : ∀ b k, zb b k → zb' b k) (hG : ∀ t b k, (G t).fp b k → zb' b k) {y : C} (hy : Opd w zl zb G y) (hyc : y.cell) : ∃ x : C, x.er = resA s y.er ∧ x.val = y.val ∧ Lent w zl zb' x ∧ x.cell ∧ x.fits .bor := by
  have plainly : resA s y.er = res1 s y.er → ∃ x : C, x.er = resA s y.er ∧ x.val = y.val ∧ Lent w zl zb' x ∧ x.cell ∧ x.fits .bor := fun e => by
    obtain ⟨x, x1, x2, x3, x4, _, x6⟩ := res1_ok h hb hG hy
    exact ⟨x, by rw [e, x1], x2, x3, x4 hyc, x6⟩
  cases y with
  | adr v r p i k =>
    have dead : resA s (C.adr v r p i k).er = .dead → ∃ x : C, x.er = resA s (C.adr v r p i k).er ∧ x.val = (C.adr v r p i k).val ∧ Lent w zl zb' x ∧ x.cell ∧ x.fits .bor := fun e => ⟨.dead v, e.symm, rfl, lent_dead v, hyc, trivial⟩
    cases hc : cellsAt s (.adr r p i k) with
    | none => exact dead (by simp only [C.er, resA, hc])
    | some cs =>
      cases cs with
      | nil => exact dead (by simp only [C.er, resA, hc])
      | cons a cs =>
        obtain ⟨x, x1, x2, x3⟩ := resPtr_ok h hb hG hy hc (by simp) (a :: cs).length (by simp)
        rw [List.take_length] at x1
        have he : resA s (C.adr v r p i k).er = .ptr .bor (resL s (a :: cs)) := by simp only [C.er, resA, hc]
        rw [he]
        refine ⟨x, x1, x2, x3, ?_, ?_⟩
        · cases x <;> first | trivial | (simp [C.er] at x1)
        · cases x with
          | ptr m g o n f => simp only [C.er, X.ptr.injEq] at x1; exact .inr (.inl x1.1)
          | _ => simp [C.er] at x1
  | _ => exact plainly rfl
theorem resAL_ok (h : Inv w zl zb G s) (hb : ∀ b k, zb b k → zb' b k) (hG : ∀ t b k, (G t).fp b k → zb' b k) : ∀ l : List C, (∀ x ∈ l, Opd w zl zb G x ∧ x.cell) → ∃ l' : List C, l'.map C.er = resAL s (l.map C.er) ∧ l'.map C.val = l.map C.val ∧ ∀ x ∈ l', Lent w zl zb' x ∧ x.cell ∧ x.fits .bor
  | [], hl => ⟨[], rfl, rfl, fun _ hx => (by cases hx)⟩
  | y :: l, hl => by
    obtain ⟨x, x1, x2, x3⟩ := resA_ok h hb hG (hl y (List.mem_cons_self ..)).1 (hl y (List.mem_cons_self ..)).2
    obtain ⟨l', l1, l2, l3⟩ := resAL_ok h hb hG l fun x hx => hl x (List.mem_cons_of_mem _ hx)
    refine ⟨x :: l', by simp [resAL, x1, l1], by simp [x2, l2], fun z hz => ?_⟩
    rcases List.mem_cons.1 hz with rfl | hz
    · exact x3
    · exact l3 z hz
end
end M
set_option linter.unusedVariables false
set_option linter.unusedSimpArgs false
namespace M
open Go Go.RowKit
variable [Bs]
section
variable {w : World} {zl zb zb' : Nat → Nat → Prop} {G : Nat → C} {s : Slots}
/-- What a closure has captured, as its function sees it. -/
theorem resF_ok (h : Inv w zl zb G s) (hb : ∀ b k, zb b k → zb' b k) (hG : ∀ t b k, (G t).fp b k → zb' b k) : ∀ l : List C, (∀ x ∈ l, Opd w zl zb G x) → ∃ l' : List C, l'.map C.er = resF s (l.map C.er) ∧ l'.map C.val = l.map C.val ∧ ∀ x ∈ l', Lent w zl zb' x
  | [], hl => ⟨[], rfl, rfl, fun _ hx => (by cases hx)⟩
  | y :: l, hl => by
    obtain ⟨l', l1, l2, l3⟩ := resF_ok h hb hG l fun x hx => hl x (List.mem_cons_of_mem _ hx)
    have hy := hl y (List.mem_cons_self ..)
    have done : ∀ x : C, x.val = y.val → Lent w zl zb' x → (resF s ((y :: l).map C.er)) = x.er :: resF s (l.map C.er) → ∃ l' : List C, l'.map C.er = resF s ((y :: l).map C.er) ∧ l'.map C.val = (y :: l).map C.val ∧ ∀ x ∈ l', Lent w zl zb' x := fun x x1 x2 x3 =>
      ⟨x :: l', by rw [x3, List.map_cons, l1], by simp [x1, l2], fun z hz => (List.mem_cons.1 hz).elim (fun e => e ▸ x2) (l3 z)⟩
    have plainly : (resF s ((y :: l).map C.er)) = res1 s y.er :: resF s (l.map C.er) → ∃ l' : List C, l'.map C.er = resF s ((y :: l).map C.er) ∧ l'.map C.val = (y :: l).map C.val ∧ ∀ x ∈ l', Lent w zl zb' x := fun e => by
      obtain ⟨x, x1, x2, x3, _⟩ := res1_ok h hb hG hy
      exact done x x2 x3 (by rw [e, x1])
    cases y with
    | adr v r p i k =>
      cases hc : cellsAt s (.adr r p i k) with
      | none => exact done (.dead v) rfl (lent_dead v) (by simp only [List.map_cons, C.er, resF, hc])
      | some cs =>
        cases cs with
        | nil => exact done (.dead v) rfl (lent_dead v) (by simp only [List.map_cons, C.er, resF, hc])
        | cons a cs =>
          obtain ⟨x, x1, x2, x3⟩ := resPtrG_ok (resAL s) (resAL_ok h hb hG) h hb hG hy hc (by simp) (a :: cs).length (by simp)
          refine done x x2 x3 ?_
          rw [x1, List.take_length]
          simp only [List.map_cons, C.er, resF, hc]
    | _ => exact plainly rfl

theorem res_ok (h : Inv w zl zb G s) (hb : ∀ b k, zb b k → zb' b k) (hG : ∀ t b k, (G t).fp b k → zb' b k) {y : C} (hy : Opd w zl zb G y) : ∃ x : C, x.er = res s y.er ∧ x.val = y.val ∧ Lent w zl zb' x := by
  have plainly : res s y.er = res1 s y.er → ∃ x : C, x.er = res s y.er ∧ x.val = y.val ∧ Lent w zl zb' x := fun e => by
    obtain ⟨x, x1, x2, x3, _⟩ := res1_ok h hb hG hy
    exact ⟨x, by rw [x1, e], x2, x3⟩
  cases y with
  | agg n f =>
    obtain ⟨l', l1, l2, l3⟩ := resL_ok h hb hG ((List.range n).map f) fun x hx => by
      obtain ⟨j, hj, rfl⟩ := List.mem_map.1 hx
      have hj' : j < n := by simpa using hj
      exact ⟨agg_one hy hj', (hy.ok.1 j hj').1⟩
    refine ⟨aggL l', ?_, ?_, ⟨⟨fun j hj => ⟨(l3 _ (getD_mem hj _)).2.1, (l3 _ (getD_mem hj _)).1.ok⟩, fun j hj b k hf => ((l3 _ (getD_mem hj _)).1.nofp b k hf).elim⟩, fun j hj => (l3 _ (getD_mem hj _)).1.bare, fun b k hf => ?_⟩⟩
    · rw [aggL_er, l1, List.map_map]; rfl
    · rw [aggL_val, l2, List.map_map]; rfl
    · obtain ⟨x, hx, hf⟩ := (aggL_fp _ _ _).1 hf
      exact (l3 x hx).1.nofp b k hf
  | fn g n f =>
    obtain ⟨l', l1, l2, l3⟩ := resF_ok h hb hG ((List.range n).map f) fun x hx => by
      obtain ⟨j, hj, rfl⟩ := List.mem_map.1 hx
      have hj' : j < n := by simpa using hj
      exact ⟨(hy.ok j hj').1, hy.rf j hj', (hy.ok j hj').2⟩
    refine ⟨.fn g l'.length fun j => l'.getD j (.dead undef), ?_, ?_, ⟨fun j hj => ⟨(l3 _ (getD_mem hj _)).ok, (l3 _ (getD_mem hj _)).nofp⟩, fun j hj => (l3 _ (getD_mem hj _)).bare, fun b k hf => hf⟩⟩
    · show X.fn _ _ = _
      rw [range_getD l' _ C.er, l1, List.map_map]
      rfl
    · show Value.func _ _ _ = _
      rw [range_getD l' _ C.val, l2, List.map_map]
      rfl
  | _ => exact plainly rfl
theorem resP_ok (h : Inv w zl zb G s) (hb : ∀ b k, zb b k → zb' b k) (hG : ∀ t b k, (G t).fp b k → zb' b k) {y : C} (hy : Opd w zl zb G y) (n : Nat) (hn : 0 < n) : ∃ x : C, x.er = resP n s y.er ∧ x.val = y.val ∧ Lent w zl zb' x := by
  cases hc : cellsAt s y.er with
  | none => exact ⟨.dead y.val, by simp only [resP, hc, C.er], rfl, lent_dead _⟩
  | some cs =>
    cases cs with
    | nil => exact ⟨.dead y.val, by simp only [resP, hc, C.er], rfl, lent_dead _⟩
    | cons a cs =>
      obtain ⟨x, x1, x2, x3⟩ := resPtr_ok h hb hG hy hc (by simp) n hn
      exact ⟨x, by rw [x1]; simp only [resP, hc], x2, x3⟩
end
section
variable {P : Program} {c : Ctx} {G : Nat → C} {zl : Nat → Nat → Prop} {s : Slots} {a : Act} {w : World} {o : Oper} {K : Slots → Prop}

def chkA : List Operand → List (AV × PM) → Bool
  | [], [] => true
  | x' :: l', (x, m) :: l => chkV x' x && (match m with | .bptr n => decide (0 < n) | .mut _ => (mutOf l).isNone | _ => true) && chkA l' l
  | _, _ => false
/-- What the moved arguments are. -/
def MV (a : Act) : List Operand → List (AV × PM) → List C → Prop
  | [], [], [] => True
  | x' :: l', (_, .mv) :: l, m :: ms => m.val = a.eval x' ∧ MV a l' l ms
  | _ :: l', (_, .bor) :: l, _ :: ms => MV a l' l ms
  | _ :: l', (_, .bptr _) :: l, _ :: ms => MV a l' l ms
  | _ :: l', (_, .mut _) :: l, _ :: ms => MV a l' l ms
  | _, _, _ => False
theorem movs_ok : ∀ {l' : List Operand} {l : List (AV × PM)}, chkA l' l = true → ∀ {G : Nat → C} {s : Slots}, St c G zl s a w →
    ∃ ms G', ms.map C.er = (movs l s).1 ∧ MV a l' l ms ∧ TookL w zl c.zb G ms G' (movs l s).2
  | [], [], _, G, s, h => ⟨[], G, rfl, trivial, TookL.nil h.inv⟩
  | x' :: l', (x, pm) :: l, hc, G, s, h => by
    simp only [chkA, Bool.and_eq_true] at hc
    have other : (movs ((x, pm) :: l) s = (.dead :: (movs l s).1, (movs l s).2)) → (∀ m ms, MV a l' l ms → MV a (x' :: l') ((x, pm) :: l) (m :: ms)) → ∃ ms G', ms.map C.er = (movs ((x, pm) :: l) s).1 ∧ MV a (x' :: l') ((x, pm) :: l) ms ∧ TookL w zl c.zb G ms G' (movs ((x, pm) :: l) s).2 := fun e hm => by
      obtain ⟨ms, G', g1, g2, g3⟩ := movs_ok hc.2 h
      rw [e]
      exact ⟨.dead undef :: ms, G', by simp [C.er, g1], hm _ _ g2, TookL.cons (Took.self h.inv trivial trivial fun _ _ h => h) g3⟩
    cases pm with
    | mv =>
      obtain ⟨p, p1, p2, p3⟩ := av_ok h hc.1.1
      obtain ⟨y, G1, f1, f2, f3, f4⟩ := take_ok .mv h.inv p3
      obtain ⟨ms, G', g1, g2, g3⟩ := movs_ok hc.2 (h.took0 f4)
      rw [p1] at f1 g1 g3 f4
      exact ⟨y :: ms, G', by simp [movs, f1, g1], ⟨by rw [f2, p2], g2⟩, TookL.cons f4 g3⟩
    | bor => exact other rfl fun _ _ h => h
    | bptr n => exact other rfl fun _ _ h => h
    | «mut» n => exact other rfl fun _ _ h => h
  | [], _ :: _, hc, _, _, _ => by cases hc
  | _ :: _, [], hc, _, _, _ => by cases hc

/-- The arguments of a call. -/
theorem args_ok {G2 : Nat → C} {s2 : Slots} {zb' : Nat → Nat → Prop} (h : St c G2 zl s2 a w) (hb : ∀ b k, c.zb b k → zb' b k) (hG : ∀ t b k, (G2 t).fp b k → zb' b k) {y : C} (hy : y.ok w (Zf zl zb')) (hyb : y.bare) : ∀ {l' : List Operand} {l : List (AV × PM)}, chkA l' l = true → ∀ {ms : List C}, MV a l' l ms →
    (∀ x ∈ ms, x.ok w (Zf zl zb') ∧ x.bare ∧ ∀ b k, x.fp b k → ¬ y.fp b k) → (ms.Pairwise fun a b => ∀ x k, a.fp x k → ¬ b.fp x k) → (∀ (i : Nat) (x : AV) (n : Nat) (x' : Operand), l[i]? = some (x, PM.mut n) → l'[i]? = some x' → y.val = a.eval x') →
    ∃ cs : List C, cs.map C.er = argsOf s2 y.er l (ms.map C.er) ∧ cs.map C.val = l'.map a.eval ∧ (∀ x ∈ cs, x.ok w (Zf zl zb') ∧ x.bare ∧ ∀ b k, x.fp b k → (∃ m ∈ ms, m.fp b k) ∨ ((mutOf l).isSome = true ∧ y.fp b k)) ∧ cs.Pairwise fun a b => ∀ x k, a.fp x k → ¬ b.fp x k
  | [], [], _, [], _, _, _, _ => ⟨[], rfl, rfl, fun _ hx => (by cases hx), List.Pairwise.nil⟩
  | x' :: l', (x, pm) :: l, hc, [], hm, _, _, _ => by cases pm <;> exact hm.elim
  | x' :: l', (x, pm) :: l, hc, m :: ms, hm, hms, hpw, hmut => by
    simp only [chkA, Bool.and_eq_true] at hc
    have hpw' := List.pairwise_cons.1 hpw
    have ih := fun (hm : MV a l' l ms) => args_ok h hb hG hy hyb hc.2 hm (fun x hx => hms x (List.mem_cons_of_mem _ hx)) hpw'.2 (fun i x n x' h1 h2 => hmut (i + 1) x n x' (by simpa using h1) (by simpa using h2))
    have lent : ∀ z : C, z.val = a.eval x' → Lent w zl zb' z → MV a l' l ms → argsOf s2 y.er ((x, pm) :: l) ((m :: ms).map C.er) = z.er :: argsOf s2 y.er l (ms.map C.er) → ((mutOf l).isSome = true → (mutOf ((x, pm) :: l)).isSome = true) → ∃ cs : List C, cs.map C.er = argsOf s2 y.er ((x, pm) :: l) ((m :: ms).map C.er) ∧ cs.map C.val = (x' :: l').map a.eval ∧
        (∀ z ∈ cs, z.ok w (Zf zl zb') ∧ z.bare ∧ ∀ b k, z.fp b k → (∃ m' ∈ m :: ms, m'.fp b k) ∨ ((mutOf ((x, pm) :: l)).isSome = true ∧ y.fp b k)) ∧ cs.Pairwise fun a b => ∀ x k, a.fp x k → ¬ b.fp x k := fun z z1 z2 hm' he hmo => by
      obtain ⟨cs, c1, c2, c3, c4⟩ := ih hm'
      refine ⟨z :: cs, by rw [he, List.map_cons, c1], by simp [z1, c2], fun u hu => ?_, List.pairwise_cons.2 ⟨fun u _ b k hf => (z2.nofp b k hf).elim, c4⟩⟩
      rcases List.mem_cons.1 hu with rfl | hu
      · exact ⟨z2.ok, z2.bare, fun b k hf => (z2.nofp b k hf).elim⟩
      · obtain ⟨u1, u2, u3⟩ := c3 u hu
        exact ⟨u1, u2, fun b k hf => (u3 b k hf).imp (fun ⟨m', hm', hf⟩ => ⟨m', List.mem_cons_of_mem _ hm', hf⟩) fun hh => ⟨hmo hh.1, hh.2⟩⟩
    obtain ⟨p, p1, p2, p3⟩ := av_ok h hc.1.1
    cases pm with
    | bor =>
      obtain ⟨z, z1, z2, z3⟩ := res_ok h.inv hb hG p3
      rw [p1] at z1
      exact lent z (by rw [z2, p2]) z3 hm (by simp only [List.map_cons, argsOf, z1]) fun hh => hh
    | bptr n =>
      obtain ⟨z, z1, z2, z3⟩ := resP_ok h.inv hb hG p3 n (by simpa using hc.1.2)
      rw [p1] at z1
      exact lent z (by rw [z2, p2]) z3 hm (by simp only [List.map_cons, argsOf, z1]) fun hh => hh
    | mv =>
      obtain ⟨hv, hm⟩ := hm
      obtain ⟨cs, c1, c2, c3, c4⟩ := ih hm
      obtain ⟨m1, m2, m3⟩ := hms m (List.mem_cons_self ..)
      refine ⟨m :: cs, by simp only [List.map_cons, argsOf, c1], by simp [hv, c2], fun u hu => ?_, List.pairwise_cons.2 ⟨fun u hu b k hf hf' => ?_, c4⟩⟩
      · rcases List.mem_cons.1 hu with rfl | hu
        · exact ⟨m1, m2, fun b k hf => .inl ⟨u, List.mem_cons_self .., hf⟩⟩
        · obtain ⟨u1, u2, u3⟩ := c3 u hu
          exact ⟨u1, u2, fun b k hf => (u3 b k hf).imp (fun ⟨m', hm', hf⟩ => ⟨m', List.mem_cons_of_mem _ hm', hf⟩) id⟩
      · rcases (c3 u hu).2.2 b k hf' with ⟨m', hm', hf2⟩ | ⟨_, hf2⟩
        · exact hpw'.1 m' hm' b k hf hf2
        · exact m3 b k hf hf2
    | «mut» n =>
      obtain ⟨cs, c1, c2, c3, c4⟩ := ih hm
      have hno : mutOf l = none := by simpa using hc.1.2
      have hv := hmut 0 x n x' rfl rfl
      refine ⟨y :: cs, by simp only [List.map_cons, argsOf, c1], by simp [hv, c2], fun u hu => ?_, List.pairwise_cons.2 ⟨fun u hu b k hf hf' => ?_, c4⟩⟩
      · rcases List.mem_cons.1 hu with rfl | hu
        · exact ⟨hy, hyb, fun b k hf => .inr ⟨rfl, hf⟩⟩
        · obtain ⟨u1, u2, u3⟩ := c3 u hu
          refine ⟨u1, u2, fun b k hf => (u3 b k hf).imp (fun ⟨m', hm', hf⟩ => ⟨m', List.mem_cons_of_mem _ hm', hf⟩) fun hh => ⟨rfl, hh.2⟩⟩
      · rcases (c3 u hu).2.2 b k hf' with ⟨m', hm', hf2⟩ | ⟨hh, _⟩
        · exact (hms m' (List.mem_cons_of_mem _ hm')).2.2 b k hf2 hf
        · rw [hno] at hh; cases hh
  | [], _ :: _, hc, _, _, _, _, _ => by cases hc
  | _ :: _, [], hc, _, _, _, _, _ => by cases hc
  | [], [], _, _ :: _, hm, _, _, _ => hm.elim
/-- What a function value brings along. -/
theorem caps_ok {G2 : Nat → C} {s2 : Slots} {zb' : Nat → Nat → Prop} (h : St c G2 zl s2 a w) (hb : ∀ b k, c.zb b k → zb' b k) (hG : ∀ t b k, (G2 t).fp b k → zb' b k) {x : AV} {x' : Operand} (hx : chkV x' x = true) {f : FuncId} {cs : List X} (he : opv s2 x = .fn f cs) :
    ∃ l : List C, l.map C.er = capsOf s2 (some x) ∧ a.eval x' = .func (.func f) #[] (l.map C.val).toArray ∧ ∀ x ∈ l, Lent w zl zb' x := by
  obtain ⟨p, p1, p2, p3⟩ := av_ok h hx
  rw [he] at p1
  cases p with
  | fn g n fc =>
    simp only [C.er, X.fn.injEq] at p1
    obtain ⟨rfl, p1⟩ := p1
    obtain ⟨l', l1, l2, l3⟩ := resF_ok h.inv hb hG ((List.range n).map fc) fun x hx => by
      obtain ⟨j, hj, rfl⟩ := List.mem_map.1 hx
      have hj' : j < n := by simpa using hj
      exact ⟨(p3.ok j hj').1, p3.rf j hj', (p3.ok j hj').2⟩
    refine ⟨l', ?_, ?_, l3⟩
    · rw [l1, capsOf, he, ← p1, List.map_map]
      rfl
    · rw [← p2, l2, List.map_map]
      rfl
  | _ => simp [C.er] at p1
end
end M
set_option linter.unusedVariables false
set_option linter.unusedSimpArgs false
namespace M
open Go Go.RowKit
variable [Bs]
theorem cleanL_all {l : List X} : X.clean.cleanL l = true ↔ ∀ x ∈ l, x.clean = true := by
  induction l with
  | nil => simp [X.clean.cleanL]
  | cons a l ih => simp [X.clean.cleanL, ih]
theorem cleanLL_all {l : List (List X)} : X.clean.cleanLL l = true ↔ ∀ x ∈ l, ∀ y ∈ x, y.clean = true := by
  induction l with
  | nil => simp [X.clean.cleanLL]
  | cons a l ih => simp [X.clean.cleanLL, ih, cleanL_all]
namespace C
/-- Frozen for ever. -/
def mds : C → C
  | .row _ sz A len cap e => .row .sl sz A len cap fun i j => (e i j).mds
  | .ptr _ g o n c => .ptr .sl g o n fun j => (c j).mds
  | .agg n c => .agg n fun j => (c j).mds
  | .tup n c => .tup n fun j => (c j).mds
  | .fn f n c => .fn f n fun j => (c j).mds
  | .ref v _ _ => .dead v
  | .adr v _ _ _ _ => .dead v
  | .cut v _ _ _ _ => .dead v
  | .dead v => .dead v
  | .int k n => .int k n
  | .bool b => .bool b
  | .str s => .str s
theorem mds_er : ∀ c : C, c.mds.er = c.er.md .sl
  | .row m sz A len cap e => by
    simp only [mds, er, X.md]
    rw [X.mdLL_map .sl (fun _ => List.range sz) (fun i j => (e i j).er)]
    congr 1
    exact List.map_congr_left fun i _ => List.map_congr_left fun j _ => mds_er (e i j)
  | .ptr m g o n c => by simp only [mds, er, X.md, X.mdL_map]; congr 1; exact List.map_congr_left fun j _ => mds_er (c j)
  | .agg n c => by simp only [mds, er, X.md, X.mdL_map]; congr 1; exact List.map_congr_left fun j _ => mds_er (c j)
  | .tup n c => by simp only [mds, er, X.md, X.mdL_map]; congr 1; exact List.map_congr_left fun j _ => mds_er (c j)
  | .fn f n c => by simp only [mds, er, X.md, X.mdL_map]; congr 1; exact List.map_congr_left fun j _ => mds_er (c j)
  | .ref _ _ _ => by simp only [mds, er, X.md]
  | .adr _ _ _ _ _ => by simp only [mds, er, X.md]
  | .cut _ _ _ _ _ => by simp only [mds, er, X.md]
  | .dead _ => by simp only [mds, er, X.md]
  | .int _ _ => by simp only [mds, er, X.md]
  | .bool _ => by simp only [mds, er, X.md]
  | .str _ => by simp only [mds, er, X.md]
theorem mds_val : ∀ c : C, c.mds.val = c.val
  | .row m sz A len cap e => rfl
  | .ptr m g o n c => rfl
  | .agg n c => by simp only [mds, val]; congr 2; exact List.map_congr_left fun j _ => mds_val (c j)
  | .tup n c => by simp only [mds, val]; congr 2; exact List.map_congr_left fun j _ => mds_val (c j)
  | .fn f n c => by simp only [mds, val]; congr 2; exact List.map_congr_left fun j _ => mds_val (c j)
  | .ref _ _ _ => rfl
  | .adr _ _ _ _ _ => rfl
  | .cut _ _ _ _ _ => rfl
  | .dead _ => rfl
  | .int _ _ => rfl
  | .bool _ => rfl
  | .str _ => rfl
theorem mds_bare : ∀ c : C, c.mds.bare
  | .row m sz A len cap e => trivial
  | .ptr m g o n c => fun j _ => mds_bare (c j)
  | .agg n c => fun j _ => mds_bare (c j)
  | .tup n c => fun j _ => mds_bare (c j)
  | .fn f n c => fun j _ => mds_bare (c j)
  | .ref _ _ _ => trivial
  | .adr _ _ _ _ _ => trivial
  | .cut _ _ _ _ _ => trivial
  | .dead _ => trivial
  | .int _ _ => trivial
  | .bool _ => trivial
  | .str _ => trivial
theorem mds_nofp : ∀ (c : C) (b k : Nat), ¬ c.mds.fp b k
  | .row m sz A len cap e, b, k => fun h => by cases h.1
  | .ptr m g o n c, b, k => fun h => by cases h.1
  | .agg n c, b, k => fun ⟨j, _, hf⟩ => mds_nofp (c j) b k hf
  | .tup n c, b, k => fun ⟨j, _, hf⟩ => mds_nofp (c j) b k hf
  | .fn f n c, b, k => fun h => h
  | .ref _ _ _, b, k => fun h => h
  | .adr _ _ _ _ _, b, k => fun h => h
  | .cut _ _ _ _ _, b, k => fun h => h
  | .dead _, b, k => fun h => h
  | .int _ _, b, k => fun h => h
  | .bool _, b, k => fun h => h
  | .str _, b, k => fun h => h
theorem mds_cell {c : C} (h : c.cell) : c.mds.cell := by
  cases c <;> first | exact h | exact h.elim | trivial
theorem mds_notup {c : C} (h : c.notup) : c.mds.notup := by
  cases c <;> first | exact h | exact h.elim | trivial
theorem mds_solid {c : C} (h : c.solid) : c.mds.solid := by
  cases c <;> first | exact h | exact h.elim | trivial
theorem mds_fits (c : C) : c.mds.fits .sl := by
  cases c <;> first | trivial | exact .inr (.inl rfl)
theorem mds_plain {c : C} (h : c.plain) : c.mds.plain := by cases c <;> first | exact h | exact h.elim | trivial
variable {w : World} {zl zl' zb : Nat → Nat → Prop}
theorem mds_ok (hz : ∀ b k, zl b k → zl' b k) : ∀ c : C, c.er.clean = true → (∀ b k, c.fp b k → zl' b k) → c.ok w (Zf zl zb) → c.mds.ok w (Zf zl' zb)
  | .row m sz A len cap e, hcl, hf, h => by
    obtain ⟨h1, h2, h3, h4, h5⟩ := h
    simp only [er, X.clean, Bool.and_eq_true] at hcl
    refine ⟨h1, fun i j hi hj => ?_, fun i j hi hj => ?_, fun hm => by (cases hm), fun i j hi hj b k hh => (mds_nofp _ b k hh).elim⟩
    · obtain ⟨g, o, hA, hc, hzz⟩ := h2 i j hi hj
      refine ⟨g, o, hA, by rw [mds_val]; exact hc, fun _ => ?_⟩
      cases m with
      | own => exact hf _ _ ⟨rfl, .inl ⟨o, hA⟩⟩
      | sl => exact hz _ _ (hzz (by simp))
      | bor => simp at hcl
    · obtain ⟨a1, a2, a3, a4⟩ := h3 i j hi hj
      exact ⟨mds_cell a1, mds_solid a2, mds_fits _, mds_ok hz (e i j) (cleanLL_all.1 hcl.2 _ (List.mem_map.2 ⟨i, by simpa using hi, rfl⟩) _ (List.mem_map.2 ⟨j, by simpa using hj, rfl⟩)) (fun b k hk => hf b k (in_row a1 a3 hi hj hk)) a4⟩
  | .ptr m g o n c, hcl, hf, h => by
    obtain ⟨h1, h2, h3, h4⟩ := h
    simp only [er, X.clean, Bool.and_eq_true] at hcl
    refine ⟨fun j hj => ?_, h2, fun j hj => ?_, fun j hj b k hh => (mds_nofp _ b k hh).elim⟩
    · obtain ⟨a1, a2, a3⟩ := h1 j hj
      refine ⟨by rw [mds_val]; exact a1, fun _ => ?_, fun hm => by (cases hm)⟩
      cases m with
      | own => exact hf _ _ ⟨rfl, .inl ⟨rfl, by omega, by omega⟩⟩
      | sl => exact hz _ _ (a2 (by simp))
      | bor => simp at hcl
    · obtain ⟨a1, a2, a3⟩ := h3 j hj
      exact ⟨mds_cell a1, mds_fits _, mds_ok hz (c j) (cleanL_all.1 hcl.2 _ (List.mem_map.2 ⟨j, by simpa using hj, rfl⟩)) (fun b k hk => hf b k (in_ptr a1 a2 hj hk)) a3⟩
  | .agg n c, hcl, hf, h => by
    simp only [er, X.clean] at hcl
    exact ⟨fun j hj => ⟨mds_cell (h.1 j hj).1, mds_ok hz (c j) (cleanL_all.1 hcl _ (List.mem_map.2 ⟨j, by simpa using hj, rfl⟩)) (fun b k hk => hf b k ⟨j, hj, hk⟩) (h.1 j hj).2⟩, fun j hj b k hh => (mds_nofp _ b k hh).elim⟩
  | .tup n c, hcl, hf, h => by
    simp only [er, X.clean] at hcl
    exact ⟨fun j hj => ⟨mds_notup (h.1 j hj).1, mds_ok hz (c j) (cleanL_all.1 hcl _ (List.mem_map.2 ⟨j, by simpa using hj, rfl⟩)) (fun b k hk => hf b k ⟨j, hj, hk⟩) (h.1 j hj).2⟩, fun j hj b k hh => (mds_nofp _ b k hh).elim⟩
  | .fn f n c, hcl, hf, h => by
    simp only [er, X.clean] at hcl
    exact fun j hj => ⟨mds_ok hz (c j) (cleanL_all.1 hcl _ (List.mem_map.2 ⟨j, by simpa using hj, rfl⟩)) (fun b k hk => ((h j hj).2 b k hk).elim) (h j hj).1, fun b k hh => mds_nofp _ b k hh⟩
  | .ref _ _ _, _, _, _ => trivial
  | .adr _ _ _ _ _, _, _, _ => trivial
  | .cut _ _ _ _ _, _, _, _ => trivial
  | .dead _, _, _, _ => trivial
  | .int _ _, _, _, _ => trivial
  | .bool _, _, _, _ => trivial
  | .str _, _, _, h => h
end C

variable {w : World} {zl zb : Nat → Nat → Prop} {G : Nat → C} {s : Slots}
/-- More is frozen. -/
theorem Inv.more {zl' : Nat → Nat → Prop} (h : Inv w zl zb G s) (h1 : ∀ b k, zl b k → zl' b k) (h2 : ∀ b k, zl' b k → (zl b k ∨ ∀ t, ¬ (G t).fp b k) ∧ b < w.heap.size) : Inv w zl' zb G s where
  er := h.er
  ok := fun t => C.ok_mono (fun m b k hz => by
    cases m with
    | own => exact hz
    | sl => exact h1 b k hz
    | bor => exact hz.imp (h1 b k) id) _ (h.ok t)
  sep := h.sep
  fz := fun t b k hf => ⟨fun hz => by
    rcases (h2 b k hz).1 with hh | hh
    · exact (h.fz t b k hf).1 hh
    · exact hh t hf, (h.fz t b k hf).2⟩
  rf := h.rf
  zin := fun b k hz => hz.elim (fun hz => (h2 b k hz).2) fun hz => h.zin b k (.inr hz)
section
variable {P : Program} {c : Ctx} {a : Act} {o : Oper} {K : Slots → Prop}
theorem St.more {zl' : Nat → Nat → Prop} (h : St c G zl s a w) (h1 : ∀ b k, zl b k → zl' b k) (h2 : ∀ b k, zl' b k → (zl b k ∨ ∀ t, ¬ (G t).fp b k) ∧ b < w.heap.size) (h3 : ∀ b k, zl' b k → zl b k ∨ c.F0 b k ∨ c.w0.heap.size ≤ b) : St c G zl' s a w where
  inv := h.inv.more h1 h2
  val := h.val
  size := h.size
  small := h.small
  defers := h.defers
  tr := ⟨h.tr.ext, h.tr.dom, fun b k hz => h1 b k (h.tr.zl0 b k hz), fun b k hz => (h3 b k hz).elim (h.tr.zl b k) .inr, h.tr.gl, h.tr.glF⟩
  args := h.args
theorem put_same {d : Nat} {v : Value} (hd : a.tmps.getD d undef = v) (hn : d < a.tmps.size) : a.put (some d) v = a := by
  unfold Act.put
  simp only
  congr 1
  apply Array.ext_getElem?
  intro i
  by_cases e : d = i
  · subst e
    rw [Array.getElem?_setIfInBounds_self_of_lt hn, ← hd, Array.getD_eq_getD_getElem?, Array.getElem?_eq_getElem hn]
    rfl
  · rw [Array.getElem?_setIfInBounds_ne e]
theorem frz_ok {d : Nat} {s' : Slots} (h : St c G zl s a w) (hn : d < c.nt) (cs : List C) (hcs : ∀ x ∈ cs, OpCell w zl c.zb G x) (k : List C → C) (kx : List X → X) (hk : ∀ l : List C, l.length = cs.length → (k l).er = kx (l.map C.er))
    (hkv : ∀ l : List C, l.map C.val = cs.map C.val → (k l).val = a.tmps.getD d undef) (hko : ∀ {zl' : Nat → Nat → Prop}, ∀ l : List C, l.length = cs.length → (∀ x ∈ l, x.plain ∧ x.ok w (Zf zl' c.zb) ∧ ∀ b k, ¬ x.fp b k) → (k l).ok w (Zf zl' c.zb) ∧ (∀ b q, ¬ (k l).fp b q) ∧ ∀ G, (k l).rf G)
    (hg : frz d (cs.map C.er) kx s = some s') : ∃ G' zl', St c G' zl' s' a w := by
  obtain ⟨l, G1, e1, e2, e3, e4, e5⟩ := takeL_ok cs G s h.inv hcs
  unfold frz at hg
  rw [← e1] at hg
  cases hcl : X.clean.cleanL (l.map C.er) with
  | false => rw [hcl] at hg; cases hg
  | true =>
    rw [hcl, cond_true] at hg
    have hlen : l.length = cs.length := by have := congrArg List.length e2; simpa using this
    let zl' : Nat → Nat → Prop := fun b k => zl b k ∨ ∃ y ∈ l, y.fp b k
    have h1 : St c G1 zl (takeL (cs.map C.er) s).2 a w := h.move e4.inv e4.val (Ext.refl (fun _ _ => False) w) (fun _ _ hs => hs.elim) (fun t b k hf => .inl ⟨t, e4.mono t b k hf⟩)
    have h2 : St c G1 zl' (takeL (cs.map C.er) s).2 a w := h1.more (fun b k hz => .inl hz) (fun b k hz => by
      rcases hz with hz | ⟨y, hy, hf⟩
      · exact ⟨.inl hz, h1.inv.zin b k (.inl hz)⟩
      · exact ⟨.inr fun t => (e4.all y hy).2.1 t b k hf, C.fp_lt _ (e4.all y hy).1 b k hf⟩) (fun b k hz => by
      rcases hz with hz | ⟨y, hy, hf⟩
      · exact .inl hz
      · obtain ⟨t, ht⟩ := (e4.all y hy).2.2.2 b k hf
        exact .inr (h.tr.dom t b k ht))
    let m := l.map C.mds
    have hml : m.length = cs.length := by simp [m, hlen]
    have hmer : m.map C.er = X.mdL .sl (l.map C.er) := by
      rw [X.mdL_map]
      simp only [m, List.map_map]
      exact List.map_congr_left fun x _ => C.mds_er x
    have hmval : m.map C.val = cs.map C.val := by
      rw [← e2]
      simp only [m, List.map_map]
      exact List.map_congr_left fun x _ => C.mds_val x
    have hmem : ∀ x ∈ m, x.plain ∧ x.ok w (Zf zl' c.zb) ∧ ∀ b k, ¬ x.fp b k := fun x hx => by
      obtain ⟨y, hy, rfl⟩ := List.mem_map.1 hx
      exact ⟨C.mds_plain (e3 y hy), C.mds_ok (fun b k hz => .inl hz) y (cleanL_all.1 hcl _ (List.mem_map_of_mem hy)) (fun b k hf => .inr ⟨y, hy, hf⟩) (e4.all y hy).1, C.mds_nofp y⟩
    rw [← hmer] at hg
    cases hb : backL (cs.map C.er) (m.map C.er) (takeL (cs.map C.er) s).2 with
    | none => rw [hb] at hg; cases hg
    | some s3 =>
      rw [hb] at hg
      simp only [Option.map_some, Option.some.injEq] at hg
      subst hg
      obtain ⟨G2, g1, g2, g3⟩ := backL_ok cs m h2.inv hml (fun v r p hm => e5 v r p ((hcs _ hm).weak v r p rfl)) (fun i x y hx hy => by
        have hy' := hmem y (List.mem_of_getElem? hy)
        refine ⟨hy'.1, ?_, hy'.2.1⟩
        have := congrArg (fun t : List Value => t[i]?) hmval
        simpa [List.getElem?_map, hx, hy] using this) (fun y hy => ⟨fun t b k hf => ((hmem y hy).2.2 b k hf).elim, fun b k hf => ((hmem y hy).2.2 b k hf).elim⟩) (apart_of fun x hx => (hmem x hx).2.2) hb
      have h3 : St c G2 zl' s3 a w := h2.move g1 g2 (Ext.refl (fun _ _ => False) w) (fun _ _ hs => hs.elim) (fun t b k hf => by
        rcases g3 t b k hf with hh | ⟨y, hy, hh⟩
        · exact .inl ⟨t, hh⟩
        · exact ((hmem y hy).2.2 b k hh).elim)
      obtain ⟨o1, o2, o3⟩ := hko m hml hmem
      obtain ⟨G3, h4⟩ := h3.put hn o1 (fun t _ b k hf => (o2 b k hf).elim) (fun b k hf => (o2 b k hf).elim) (o3 G2) (fun b k hf => (o2 b k hf).elim)
      rw [hk m hml, put_same (hkv m hmval).symm (by rw [h.size]; exact hn)] at h4
      exact ⟨G3, zl', h4⟩
theorem ghost_ok {fz : Bool} {d : Nat} {s' : Slots} (h : St c G zl s a w) (hn : d < c.nt) (hg : ghost fz d s = some s') : ∃ G' zl', St c G' zl' s' a w := by
  obtain ⟨e1, e2, e3⟩ := opd_of h d
  have hd : d < base := Nat.lt_of_lt_of_le hn h.small
  have hval : a.tmps.getD d undef = (G d).val := (h.val d hd).symm
  unfold ghost at hg
  cases fz with
  | false =>
    obtain ⟨y, G1, f1, f2, f3, f4⟩ := take_ok .mv h.inv e3
    rw [e1] at f1 f4
    have hyv : y.val = a.tmps.getD d undef := by rw [f2, e2, hval]
    simp only [cond_false, Option.some.injEq] at hg
    subst hg
    obtain ⟨G2, h2⟩ := h.took f4 hn
    rw [f1, put_same hyv.symm (by rw [h.size]; exact hn)] at h2
    exact ⟨G2, zl, h2⟩
  | true =>
    simp only [cond_true] at hg
    rw [← e1] at hg
    cases hx : (G d).alias d [] with
    | agg n f =>
      rw [hx] at hg e2 e3
      have er : (C.agg n f).er = .agg (((List.range n).map f).map C.er) := by simp only [C.er, List.map_map]; rfl
      rw [er] at hg
      have hlen : ((List.range n).map f).length = n := by simp
      refine frz_ok h hn ((List.range n).map f) (fun x hx => ?_) aggL .agg (fun l _ => aggL_er l) (fun l hl => ?_) (fun l hl hm => ⟨⟨fun j hj => ⟨C.plain_cell (hm _ (getD_mem hj _)).1, (hm _ (getD_mem hj _)).2.1⟩, fun j hj b q hf => ((hm _ (getD_mem hj _)).2.2 b q hf).elim⟩, fun b q hf => ?_, fun G j hj => C.plain_rf (hm _ (getD_mem hj _)).1 G⟩) hg
      · obtain ⟨j, hj, rfl⟩ := List.mem_map.1 hx
        have hj' : j < n := by simpa using hj
        exact ⟨(e3.ok.1 j hj').1, (e3.ok.1 j hj').2, fun b k hf => e3.nofp b k ⟨j, hj', hf⟩, fun v r p e => weak_of (by rw [← e]; exact e3.rf j hj')⟩
      · rw [aggL_val, hl, hval, ← e2]
        simp only [C.val, List.map_map]
        rfl
      · obtain ⟨x, hx, hf⟩ := (aggL_fp _ _ _).1 hf
        exact (hm x hx).2.2 b q hf
    | ref v r p =>
      rw [hx] at hg e2 e3
      refine frz_ok h hn [.ref v r p] (fun x hx => ?_) (fun l => l.headD (.dead undef)) (fun l => l.headD .dead) (fun l hl => ?_) (fun l hl => ?_) (fun l hl hm => ?_) hg
      · obtain rfl := List.mem_singleton.1 hx
        exact ⟨rf_cells e3.rf, trivial, fun b k hf => hf, fun v' r' p' e => by cases e; exact weak_of e3.rf⟩
      · cases l with
        | nil => simp at hl
        | cons x l => rfl
      · cases l with
        | nil => simp at hl
        | cons x l =>
          have : x.val = v := by have := congrArg List.head? hl; simpa [C.val] using this
          show x.val = _
          rw [this, hval, ← e2]
          rfl
      · cases l with
        | nil => simp at hl
        | cons x l =>
          obtain ⟨a1, a2, a3⟩ := hm x (List.mem_cons_self ..)
          exact ⟨a2, a3, fun G => C.plain_rf a1 G⟩
    | _ =>
      rw [hx] at hg
      simp only [C.er, Option.some.injEq] at hg
      subst hg
      exact ⟨G, zl, h⟩
theorem op_lmv (h : St c G zl s a w) {d sz : Nat} {fz agg : Bool} {ty : TypeId} {x : AV} {x' : Operand} (ho : o.op = .load ty x') (hsz : ∃ i, P.info? ty = some i ∧ i.size = sz) (hagg : ∃ dd, P.underlying ty = some dd ∧ (match dd with | .struct _ => true | .array _ _ => true | _ => false) = agg)
    (h1 : agg = true ∨ sz = 1) (hd : o.dst = some d) (hn : d < c.nt) (hx : chkV x' x = true)
    (hK : awpOp P (.lmv d fz sz agg x) s K) : GoodR P c o a w K := by
  obtain ⟨cs, k1, k2, s', k3, k4⟩ := hK
  obtain ⟨v, hr, G1, zl1, s1, q1, q2⟩ := op_load (K := fun t => t = put d (bif agg then .agg (cs.take sz) else cs.headD .dead) s) h ho hsz hagg h1 hd hn hx ⟨cs, k1, k2, rfl⟩
  subst q1
  obtain ⟨G2, zl2, h2⟩ := ghost_ok q2 hn k3
  exact ⟨v, hr, G2, zl2, s', k4, h2⟩
end
end M
set_option linter.unusedVariables false
set_option linter.unusedSimpArgs false
namespace M
open Go Go.RowKit
variable [Bs]
section
variable {P : Program} {c : Ctx} {G : Nat → C} {zl : Nat → Nat → Prop} {s : Slots} {a : Act} {w : World} {o : Oper} {K : Slots → Prop}

/-- A call, done. -/
def GoodC (P : Program) (c : Ctx) (o : Oper) (a : Act) (w : World) (K : Slots → Prop) (q : Bool) : Prop :=
  ∃ f args, (execOp a.eval o).run P w = .ok (.enter f args) w ∧ Calls P f args w fun e w' => ∃ v, e = .returned v ∧ Rel q w w' ∧ ∃ G' zl' s', K s' ∧ St c G' zl' s' (a.put o.dst v) w'

theorem run_enter {f : FuncId} {fn : Func} (hf : P.funcs[f]? = some fn) (hname : (fn.name == "runtime.NumGoroutine") = false) (hb : fn.body.isNone = false) (args : Array Value) (w : World) : (callFunc f args).run P w = .ok (.enter f args) w := by
  simp only [callFunc, Sem.run_bind, run_program, Result.andThen_ok, hf, hname, hb, Bool.false_eq_true, if_false, Sem.run_pure]

/-- A result is put into its slot. -/
theorem St.result {zl' : Nat → Nat → Prop} (h : St c G zl' s a w) {x : C} (d : Option Nat) (hn : ∀ n, d = some n → n < c.nt) (hok : x.ok w (Zf zl' fun _ _ => False)) (hb : x.bare) (hsep : ∀ t b k, x.fp b k → ¬ (G t).fp b k) (hfz : ∀ b k, x.fp b k → ¬ zl' b k ∧ ¬ c.zb b k)
    (hdom : ∀ b k, x.fp b k → c.F0 b k ∨ c.w0.heap.size ≤ b) : ∃ G', St c G' zl' (putD d x.er s) (a.put d x.val) w := by
  cases d with
  | none => exact ⟨G, h⟩
  | some n =>
    refine h.put (hn n rfl) (C.ok_mono (fun m b k hz => ?_) _ hok) (fun t _ => hsep t) hfz (C.bare_rf G _ hb) hdom
    cases m with
    | own => exact hz
    | sl => exact hz
    | bor => exact hz.imp id fun h => h.elim

/-- The frame of a function after a call: what was not handed over is as it was. -/
theorem St.after {zl' : Nat → Nat → Prop} {w' : World} {G1 : Nat → C} {s1 : Slots} {S : Nat → Nat → Prop} (h : St c G zl s a w) (hi : Inv w' zl' c.zb G1 s1) (hv : ∀ t, (G1 t).val = (G t).val) (hE : Ext S w w') (hS : ∀ b k, S b k → ∃ t, (G t).fp b k)
    (hd : ∀ t b k, (G1 t).fp b k → (∃ u, (G u).fp b k) ∨ w.heap.size ≤ b) (hz1 : ∀ b k, zl b k → zl' b k) (hz2 : ∀ b k, zl' b k → zl b k ∨ (∃ t, (G t).fp b k) ∨ w.heap.size ≤ b) : St c G1 zl' s1 a w' where
  inv := hi
  val := fun t ht => (hv t).trans (h.val t ht)
  size := h.size
  small := h.small
  defers := h.defers
  tr := ⟨h.tr.ext.trans hE (fun b k hs hb => by
      obtain ⟨t, ht⟩ := hS b k hs
      rcases h.tr.dom t b k ht with hh | hh
      · exact hh
      · omega), fun t b k hf => by
      rcases hd t b k hf with ⟨u, hu⟩ | hb
      · exact h.tr.dom u b k hu
      · exact .inr (Nat.le_trans h.tr.ext.size hb), fun b k hz => hz1 b k (h.tr.zl0 b k hz), fun b k hz => by
      rcases hz2 b k hz with hz | ⟨t, ht⟩ | hb
      · exact h.tr.zl b k hz
      · exact .inr (h.tr.dom t b k ht)
      · exact .inr (.inr (Nat.le_trans h.tr.ext.size hb)), h.tr.gl, h.tr.glF⟩
  args := fun i v hi => (hv _).trans (h.args i v hi)

/-- What lay there when all began. -/
theorem St.glob (h : St c G zl s a w) (zb' : Nat → Nat → Prop) (hz : ∀ b k, c.zb b k → zb' b k) : Glob w zl zb' := fun b hb => by
  obtain ⟨h1, h2⟩ := h.tr.gl b hb
  refine ⟨?_, fun k => (h2 k).imp (h.tr.zl0 b k) (hz b k)⟩
  rw [← h1]
  have hlt : b < c.w0.heap.size := by
    rcases Nat.lt_or_ge b c.w0.heap.size with h | h
    · exact h
    · rw [Array.getElem?_eq_none h] at h1
      have := Array.getElem?_eq_none_iff.1 h1.symm
      omega
  rcases h.tr.ext.block b hlt with e | ⟨arr, arr', t, fz, e1, e2, e3, e4⟩
  · exact e
  · have : arr' = arr := by
      apply Array.ext_getElem?
      intro i
      exact e4 i (h.tr.glF b i hb)
    rw [e1, e2, this]

theorem tookL_st {G1 : Nat → C} {s1 : Slots} {l : List C} (h : St c G zl s a w) (hT : TookL w zl c.zb G l G1 s1) : St c G1 zl s1 a w :=
  h.move hT.inv hT.val (Ext.refl (fun _ _ => False) w) (fun _ _ hs => hs.elim) (fun t b k hf => .inl ⟨t, hT.mono t b k hf⟩)

/-- How the function and what it has captured come out of the operation. -/
structure CallOp (P : Program) (c : Ctx) (zl : Nat → Nat → Prop) (o : Oper) (a : Act) (w : World) (l' : List Operand) (f : FuncId) (fv : Option AV) : Prop where
  run : ∃ capV : List Value, (execOp a.eval o).run P w = .ok (.enter f ((l'.map a.eval) ++ capV).toArray) w ∧
    ∀ {G2 : Nat → C} {s2 : Slots} {zb' : Nat → Nat → Prop}, St c G2 zl s2 a w → (∀ b k, c.zb b k → zb' b k) → (∀ t b k, (G2 t).fp b k → zb' b k) → capsIs s2 fv f → ∃ l : List C, l.map C.er = capsOf s2 fv ∧ l.map C.val = capV ∧ ∀ x ∈ l, Lent w zl zb' x

/-- Nothing is handed over but views. -/
def quietA : List (AV × PM) → Bool
  | [] => true
  | (_, .bor) :: l => quietA l
  | (_, .bptr _) :: l => quietA l
  | _ :: _ => false
theorem movs_quiet : ∀ {l : List (AV × PM)} (s : Slots), quietA l = true → ∀ x ∈ (movs l s).1, x = .dead
  | [], s, _, x, hx => by cases hx
  | (_, .bor) :: l, s, h, x, hx => (List.mem_cons.1 hx).elim id (movs_quiet (l := l) s h x)
  | (_, .bptr _) :: l, s, h, x, hx => (List.mem_cons.1 hx).elim id (movs_quiet (l := l) s h x)
  | (_, .mv) :: l, s, h, x, hx => by cases h
  | (_, .mut _) :: l, s, h, x, hx => by cases h
theorem mut_quiet : ∀ {l : List (AV × PM)}, quietA l = true → mutOf l = none
  | [], _ => rfl
  | (_, .bor) :: l, h => mut_quiet (l := l) h
  | (_, .bptr _) :: l, h => mut_quiet (l := l) h
  | (_, .mv) :: l, h => by cases h
  | (_, .mut _) :: l, h => by cases h
theorem call_none (q : Bool) (h : St c G zl s a w) {l' : List Operand} {as : List (AV × PM)} (hc : chkA l' as = true) (hno : mutOf as = none) {f : FuncId} {fv : Option AV} (hop : CallOp P c zl o a w l' f fv) (hq : q = true → quietA as = true) (hn : ∀ n, o.dst = some n → n < c.nt) (hK : callX P f o.dst as fv s K) : GoodC P c o a w K q := by
  obtain ⟨k1, k2⟩ := hK
  rw [hno] at k2
  obtain ⟨k2, k3⟩ := k2
  obtain ⟨ms, G1, g1, g2, hT⟩ := movs_ok hc h
  obtain ⟨capV, hrun, hcaps⟩ := hop.run
  have h1 := tookL_st h hT
  rw [← g1] at k1 k3
  have hzb : ∀ b k, c.zb b k → (c.zb b k ∨ ∃ t, (G1 t).fp b k) := fun b k hz => .inl hz
  have hzG : ∀ t b k, (G1 t).fp b k → (c.zb b k ∨ ∃ t, (G1 t).fp b k) := fun t b k hf => .inr ⟨t, hf⟩
  obtain ⟨l, l1, l2, l3⟩ := hcaps (zb' := fun b k => c.zb b k ∨ ∃ t, (G1 t).fp b k) h1 hzb hzG k2
  have hmsok : ∀ x ∈ ms, x.ok w (Zf zl fun b k => c.zb b k ∨ ∃ t, (G1 t).fp b k) ∧ x.bare ∧ ∀ b k, x.fp b k → ¬ (C.dead undef).fp b k := fun x hx => by
    refine ⟨C.ok_mono (fun m b k hz => ?_) _ (hT.all x hx).1, (C.bare_er x).1 (C.bareL_all.1 k1 _ (List.mem_map_of_mem hx)), fun _ _ _ h => h⟩
    cases m with
    | own => exact hz
    | sl => exact hz
    | bor => exact hz.imp id .inl
  obtain ⟨cs, c1, c2, c3, c4⟩ := args_ok (zb' := fun b k => c.zb b k ∨ ∃ t, (G1 t).fp b k) h1 hzb hzG (y := .dead undef) trivial trivial hc g2 hmsok hT.apart (fun i x n x' hi _ => by
    exfalso
    have : ∀ {l : List (AV × PM)} {i : Nat}, l[i]? = some (x, PM.mut n) → mutOf l ≠ none := by
      intro l
      induction l with
      | nil => intro i hi; simp at hi
      | cons p l ih =>
        intro i hi
        obtain ⟨y, pm⟩ := p
        cases i with
        | zero =>
          simp only [List.getElem?_cons_zero, Option.some.injEq, Prod.mk.injEq] at hi
          obtain ⟨_, rfl⟩ := hi
          simp [mutOf]
        | succ i =>
          have := ih (by simpa using hi)
          cases pm <;> simp [mutOf] <;> first | exact this | skip
    exact this hi hno)
  have hfp : ∀ x ∈ cs ++ l, ∀ b k, x.fp b k → ∃ m ∈ ms, m.fp b k := fun x hx b k hf => by
    rcases List.mem_append.1 hx with hx | hx
    · rcases (c3 x hx).2.2 b k hf with hh | hh
      · exact hh
      · exact hh.2.elim
    · exact ((l3 x hx).nofp b k hf).elim
  have hA : ArgsOk w zl (fun b k => c.zb b k ∨ ∃ t, (G1 t).fp b k) (cs ++ l) := {
    ok := fun x hx => (List.mem_append.1 hx).elim (fun hx => (c3 x hx).1) fun hx => (l3 x hx).ok
    bare := fun x hx => (List.mem_append.1 hx).elim (fun hx => (c3 x hx).2.1) fun hx => (l3 x hx).bare
    fz := fun x hx b k hf => by
      obtain ⟨m, hm, hf⟩ := hfp x hx b k hf
      exact ⟨((hT.all m hm).2.2.1 b k hf).1, fun hz => hz.elim ((hT.all m hm).2.2.1 b k hf).2 fun ⟨t, ht⟩ => (hT.all m hm).2.1 t b k hf ht⟩
    zin := fun b k hz => by
      rcases hz with hz | hz | ⟨t, ht⟩
      · exact hT.inv.zin b k (.inl hz)
      · exact hT.inv.zin b k (.inr hz)
      · exact C.fp_lt _ (hT.inv.ok t) b k ht
    apart := List.pairwise_append.2 ⟨c4, apart_of fun x hx => (l3 x hx).nofp, fun x _ y hy b k _ hf => (l3 y hy).nofp b k hf⟩ }
  have hcalls := k3 w zl _ (cs ++ l) (by rw [List.map_append, c1, l1]; rfl) hA (h.glob _ fun b k hz => .inl hz)
  have hvals : (cs ++ l).map C.val = l'.map a.eval ++ capV := by rw [List.map_append, c2, l2]
  rw [hvals] at hcalls
  refine ⟨f, _, hrun, hcalls.mono ?_⟩
  rintro e w' ⟨r, ps, zl', hD, hk⟩
  have hin : ∀ b k, zl' b k → b < w'.heap.size := fun b k hz => hD.all.zin b k (.inl hz)
  have hmG : ∀ b k, (∃ m ∈ ms, m.fp b k) → (∀ t, ¬ (G1 t).fp b k) ∧ ¬ zl b k ∧ ¬ c.zb b k := fun b k ⟨m, hm, hf⟩ => ⟨fun t => (hT.all m hm).2.1 t b k hf, (hT.all m hm).2.2.1 b k hf⟩
  have hAd : ∀ b k, (∃ x ∈ cs ++ l, x.fp b k) → ∃ m ∈ ms, m.fp b k := fun b k ⟨x, hx, hf⟩ => hfp x hx b k hf
  have hz2' : ∀ b k, zl' b k → zl b k ∨ (∃ m ∈ ms, m.fp b k) ∨ w.heap.size ≤ b := fun b k hz => (hD.zl2 b k hz).imp id fun hh => hh.imp (hAd b k) id
  have hi := hT.inv.back1 hD.ext (fun b k hs => hmG b k (hAd b k hs)) hD.zl1 (fun b k hz => ⟨hin b k hz, fun t hf => by
    rcases hz2' b k hz with hz | hm | hb
    · exact (hT.inv.fz t b k hf).1 hz
    · exact (hmG b k hm).1 t hf
    · have := C.fp_lt _ (hT.inv.ok t) b k hf; omega⟩)
  have hmd : ∀ b k, (∃ m ∈ ms, m.fp b k) → ∃ t, (G t).fp b k := fun b k ⟨m, hm, hf⟩ => (hT.all m hm).2.2.2 b k hf
  have h2 : St c G1 zl' (movs as s).2 a w' := h.after hi hT.val hD.ext (fun b k hs => hmd b k (hAd b k hs)) (fun t b k hf => .inl ⟨t, hT.mono t b k hf⟩) hD.zl1 (fun b k hz => (hz2' b k hz).imp id fun hh => hh.imp (hmd b k) id)
  have hrd : ∀ b k, r.fp b k → (∃ m ∈ ms, m.fp b k) ∨ w.heap.size ≤ b := fun b k hf => (hD.dom r (List.mem_cons_self ..) b k hf).imp (hAd b k) id
  obtain ⟨G3, h3⟩ := h2.result (x := r) o.dst hn (hD.all.ok r (List.mem_cons_self ..)) (hD.all.bare r (List.mem_cons_self ..)) (fun t b k hf hf' => by
      rcases hrd b k hf with hm | hb
      · exact (hmG b k hm).1 t hf'
      · have := C.fp_lt _ (hT.inv.ok t) b k hf'; omega) (fun b k hf => ⟨(hD.all.fz r (List.mem_cons_self ..) b k hf).1, fun hz => by
      rcases hrd b k hf with hm | hb
      · exact (hmG b k hm).2.2 hz
      · have := hT.inv.zin b k (.inr hz); omega⟩) (fun b k hf => by
      rcases hrd b k hf with hm | hb
      · obtain ⟨t, ht⟩ := hmd b k hm
        exact h.tr.dom t b k ht
      · exact .inr (Nat.le_trans h.tr.ext.size hb))
  refine ⟨r.val, hD.ends, fun hqq => hD.ext.mono fun b k hs _ => ?_, G3, zl', _, hk, h3⟩
  obtain ⟨m, hm, hf⟩ := hAd b k hs
  have hd := movs_quiet s (hq hqq) m.er (by rw [← g1]; exact List.mem_map_of_mem hm)
  cases m <;> first | exact hf | (simp [C.er] at hd)
end
end M
set_option linter.unusedVariables false
set_option linter.unusedSimpArgs false
namespace M
open Go Go.RowKit
variable [Bs]

/-- What a callee did: S is what it may have written; y is what it was lent to write through, D holds that; q is what y has become. -/
structure Mut (w w' : World) (zl zl' zb : Nat → Nat → Prop) (G : Nat → C) (r : Nat) (p : Path) (D y q : C) (S M : Nat → Nat → Prop) : Prop where
  sub : (G r).sub p = some D
  yD : ∀ b k, y.fp b k → D.fp b k
  ext : Ext S w w'
  inS : ∀ b k, S b k → M b k ∨ y.fp b k
  outM : ∀ b k, M b k → (∀ t, ¬ (G t).fp b k) ∧ ¬ zl b k ∧ ¬ zb b k
  qok : q.ok w' (Zf zl' zb)
  bare : q.bare
  val : q.val = y.val
  fp : ∀ b k, q.fp b k → S b k ∨ w.heap.size ≤ b
  qz : ∀ b k, q.fp b k → ¬ zl' b k
  z1 : ∀ b k, zl b k → zl' b k
  z2 : ∀ b k, zl' b k → zl b k ∨ S b k ∨ w.heap.size ≤ b
  zin : ∀ b k, zl' b k → b < w'.heap.size

section
variable {w w' : World} {zl zl' zb : Nat → Nat → Prop} {G : Nat → C} {s : Slots} {r : Nat} {p : Path} {D y q : C} {S M : Nat → Nat → Prop}
theorem Mut.DG (h : Mut w w' zl zl' zb G r p D y q S M) (hi : Inv w zl zb G s) {b k : Nat} (hf : D.fp b k) : (G r).fp b k := C.sub_fp p h.sub (hi.ok r) hf
theorem Mut.notM (h : Mut w w' zl zl' zb G r p D y q S M) (hi : Inv w zl zb G s) {b k : Nat} (hf : D.fp b k) : ¬ M b k := fun hm => (h.outM b k hm).1 r (h.DG hi hf)
theorem Mut.notNew (h : Mut w w' zl zl' zb G r p D y q S M) (hi : Inv w zl zb G s) {b k : Nat} (hf : D.fp b k) : ¬ w.heap.size ≤ b := fun hb => by have := C.fp_lt _ (hi.ok r) b k (h.DG hi hf); omega
/-- What the callee's result owns of what the holder had is of what was lent. -/
theorem Mut.qD (h : Mut w w' zl zl' zb G r p D y q S M) (hi : Inv w zl zb G s) {b k : Nat} (hq : q.fp b k) (hf : D.fp b k) : y.fp b k := by
  rcases h.fp b k hq with hs | hb
  · exact (h.inS b k hs).resolve_left (h.notM hi hf)
  · exact (h.notNew hi hf hb).elim
theorem Mut.zD (h : Mut w w' zl zl' zb G r p D y q S M) (hi : Inv w zl zb G s) {b k : Nat} (hz : zl' b k) (hf : D.fp b k) : y.fp b k := by
  rcases h.z2 b k hz with hz | hs | hb
  · exact ((hi.fz r b k (h.DG hi hf)).1 hz).elim
  · exact (h.inS b k hs).resolve_left (h.notM hi hf)
  · exact (h.notNew hi hf hb).elim
theorem Mut.SD (h : Mut w w' zl zl' zb G r p D y q S M) (hi : Inv w zl zb G s) {b k : Nat} (hs : S b k) (hf : D.fp b k) : y.fp b k := (h.inS b k hs).resolve_left (h.notM hi hf)
theorem Mut.Z (h : Mut w w' zl zl' zb G r p D y q S M) (hi : Inv w zl zb G s) : ∀ m b k, Zf zl zb m b k → ¬ S b k := fun m b k hz hs => by
  rcases h.inS b k hs with hm | hy
  · obtain ⟨_, a1, a2⟩ := h.outM b k hm
    cases m with
    | own => exact hz
    | sl => exact a1 hz
    | bor => exact hz.elim a1 a2
  · exact hi.zfp r m b k hz (h.DG hi (h.yD b k hy))
theorem Mut.mono (h : Mut w w' zl zl' zb G r p D y q S M) : ∀ m b k, Zf zl zb m b k → Zf zl' zb m b k := fun m b k hz => by
  cases m with
  | own => exact hz
  | sl => exact h.z1 b k hz
  | bor => exact hz.imp (h.z1 b k) id

/-- The holder, put together again, is back in its place. -/
theorem Mut.back (h : Mut w w' zl zl' zb G r p D y q S M) (hi : Inv w zl zb G s) {d0 : C} (hok : d0.ok w' (Zf zl' zb)) (hF : C.Face D d0) (hl : C.Like D d0) (hrf : (d0.cutOff (C.belows r p)).rf fun t => (G t).cutOff (C.belows r p)) (hfp : ∀ b k, d0.fp b k → q.fp b k ∨ (D.fp b k ∧ ¬ y.fp b k)) (hz : ∀ b k, d0.fp b k → ¬ zl' b k) :
    ∃ G', Inv w' zl' zb G' (setB r p d0.er s) ∧ (∀ t, (G' t).val = (G t).val) ∧ ∀ t b k, (G' t).fp b k → q.fp b k ∨ ((∃ u, (G u).fp b k) ∧ ¬ y.fp b k) := by
  have h1 := hi.killB r p
  have hs1 : ((G r).cutOff (C.belows r p)).sub p = some (D.cutOff (C.belows r p)) := C.off_sub _ p _ _ (hi.ok r) h.sub
  have hfpB : ∀ t b k, ((G t).cutOff (C.belows r p)).fp b k ↔ (G t).fp b k := fun t b k => C.off_fp _ _ b k
  have hFB : C.Face (D.cutOff (C.belows r p)) (d0.cutOff (C.belows r p)) := by
    cases hF with
    | row => exact .row ..
    | ptr => exact .ptr ..
  have hlike : C.Like (D.cutOff (C.belows r p)) (d0.cutOff (C.belows r p)) := by
    cases hF with
    | row m m' sz A len cap e e' => exact ⟨rfl, fun h => h, fun h => h, fun h => h, hl.fits⟩
    | ptr m m' g o n c c' => exact ⟨rfl, fun h => h, fun h => h, fun h => h, hl.fits⟩
  obtain ⟨i1, i2, i3⟩ := h1.back0 r p (fun t => C.off_free _ _) hs1 hFB hlike ⟨hrf, C.off_free _ _⟩ h.ext (fun b k hs => by
      rcases h.inS b k hs with hm | hy
      · obtain ⟨a1, a2, a3⟩ := h.outM b k hm
        exact .inr ⟨fun t hf => a1 t ((hfpB t b k).1 hf), a2, a3⟩
      · exact .inl ((C.off_fp _ D b k).2 (h.yD b k hy))) (C.off_ok _ _ hok) h.z1 (fun b k hzz => ⟨fun hf => hz b k ((C.off_fp _ d0 b k).1 hf) hzz, h.zin b k hzz, fun t hf => by
      refine (C.off_fp _ D b k).2 ?_
      have hf := (hfpB t b k).1 hf
      rcases h.z2 b k hzz with hz' | hs | hb
      · exact ((hi.fz t b k hf).1 hz').elim
      · rcases h.inS b k hs with hm | hy
        · exact ((h.outM b k hm).1 t hf).elim
        · exact h.yD b k hy
      · have := C.fp_lt _ (hi.ok t) b k hf; omega⟩) (fun b k hf => by
      rcases (hfp b k ((C.off_fp _ d0 b k).1 hf)).symm with hf | hf
      · exact .inl ((C.off_fp _ D b k).2 hf.1)
      · rcases h.fp b k hf with hs | hb
        · rcases h.inS b k hs with hm | hy
          · obtain ⟨a1, a2, a3⟩ := h.outM b k hm
            exact .inr ⟨fun t hf => a1 t ((hfpB t b k).1 hf), a3⟩
          · exact .inl ((C.off_fp _ D b k).2 (h.yD b k hy))
        · exact .inr ⟨fun t hf => by have := C.fp_lt _ (hi.ok t) b k ((hfpB t b k).1 hf); omega, fun hz => by have := hi.zin b k (.inr hz); omega⟩)
  rw [C.killB_er] at i1
  refine ⟨_, i1, fun t => (i2 t).trans (C.off_val _ _), fun t b k hf => ?_⟩
  rcases i3 t b k hf with hf | hf
  · rcases hfp b k ((C.off_fp _ d0 b k).1 hf) with hf | hf
    · exact .inl hf
    · exact .inr ⟨⟨r, h.DG hi hf.1⟩, hf.2⟩
  · exact .inr ⟨⟨t, (hfpB t b k).1 hf.1⟩, fun hy => hf.2 ((C.off_fp _ D b k).2 (h.yD b k hy))⟩
end
end M
set_option linter.unusedVariables false
set_option linter.unusedSimpArgs false
namespace M
open Go Go.RowKit
variable [Bs]
theorem splice_map {α : Type} (f g : Nat → α) {nn c n : Nat} (h : c + n ≤ nn) : ((List.range nn).map fun j => if c ≤ j ∧ j < c + n then g (j - c) else f j) = ((List.range nn).map f).take c ++ (List.range n).map g ++ ((List.range nn).map f).drop (c + n) := by
  apply List.ext_getElem?
  intro i
  rw [C.map_range_get?]
  have hl1 : (((List.range nn).map f).take c).length = c := by simp; omega
  have hl2 : (((List.range nn).map f).take c ++ (List.range n).map g).length = c + n := by rw [List.length_append, hl1]; simp
  by_cases h0 : i < nn
  · rw [if_pos h0]
    by_cases h1 : i < c
    · rw [if_neg (by omega), List.getElem?_append_left (by omega), List.getElem?_append_left (by omega), List.getElem?_take_of_lt h1, C.map_range_get?, if_pos h0]
    · by_cases h2 : i < c + n
      · rw [if_pos ⟨by omega, h2⟩, List.getElem?_append_left (by omega), List.getElem?_append_right (by omega), hl1, C.map_range_get?, if_pos (by omega)]
      · rw [if_neg (by omega), List.getElem?_append_right (by omega), hl2, List.getElem?_drop, C.map_range_get?, show c + n + (i - (c + n)) = i by omega, if_pos h0]
  · rw [if_neg h0, List.getElem?_append_right (by omega), hl2, List.getElem?_drop, C.map_range_get?, if_neg (by omega)]

section
variable {w w' : World} {zl zl' zb : Nat → Nat → Prop} {G : Nat → C} {s : Slots} {r : Nat} {p : Path} {S M : Nat → Nat → Prop}
/-- A variable put together again. -/
theorem Mut.ptr {g o nn n c : Nat} {f qf : Nat → C} (h : Mut w w' zl zl' zb G r p (.ptr .own g o nn f) (.ptr .own g (o + c) n fun j => f (j + c)) (.ptr .own g (o + c) n qf) S M) (hi : Inv w zl zb G s) (hn : c + n ≤ nn) :
    ∃ G', Inv w' zl' zb G' (setB r p (.ptr .own (((List.range nn).map fun j => (f j).er).take c ++ ((List.range n).map fun j => (qf j).er) ++ ((List.range nn).map fun j => (f j).er).drop (c + n))) s) ∧ (∀ t, (G' t).val = (G t).val) ∧ ∀ t b k, (G' t).fp b k → (C.ptr .own g (o + c) n qf).fp b k ∨ ((∃ u, (G u).fp b k) ∧ ¬ (C.ptr .own g (o + c) n fun j => f (j + c)).fp b k) := by
  obtain ⟨D1, D2, D3, D4⟩ := C.sub_ok p h.sub (hi.ok r)
  obtain ⟨q1, q2, q3, q4⟩ := h.qok
  have hqin : ∀ j, j < n → ∀ b k, (qf j).fp b k → (C.ptr .own g (o + c) n qf).fp b k := fun j hj b k hf => C.in_ptr (q3 j hj).1 (q3 j hj).2.1 hj hf
  have hDin : ∀ j, j < nn → ∀ b k, (f j).fp b k → (C.ptr .own g o nn f).fp b k := fun j hj b k hf => C.in_ptr (D3 j hj).1 (D3 j hj).2.1 hj hf
  have hDc : ∀ k, o ≤ k → k < o + nn → (C.ptr .own g o nn f).fp g k := fun k h1 h2 => ⟨rfl, .inl ⟨rfl, h1, h2⟩⟩
  -- what was lent, of the holder's own cells, is the cells lent; of another kid it is nothing
  have hyc : ∀ k, o ≤ k → k < o + nn → (C.ptr .own g (o + c) n fun j => f (j + c)).fp g k → o + c ≤ k ∧ k < o + c + n := fun k h1 h2 ⟨_, hf⟩ => by
    rcases hf with hf | ⟨j, hj, hf⟩
    · exact hf.2
    · exact ((D4 (j + c) (by omega) g k hf).1 rfl ⟨rfl, h1, h2⟩).elim
  have hyk : ∀ j, j < nn → ¬ (c ≤ j ∧ j < c + n) → ∀ b k, (f j).fp b k → ¬ (C.ptr .own g (o + c) n fun j => f (j + c)).fp b k := fun j hj hne b k hf ⟨_, hf'⟩ => by
    rcases hf' with hf' | ⟨j', hj', hf'⟩
    · exact (D4 j hj b k hf).1 rfl ⟨hf'.1, by omega, by omega⟩
    · exact (D4 j hj b k hf).2 (j' + c) (by omega) (by omega) hf'
  let d : Nat → C := fun j => if c ≤ j ∧ j < c + n then qf (j - c) else f j
  have din : ∀ j, c ≤ j ∧ j < c + n → d j = qf (j - c) := fun j hj => if_pos hj
  have dout : ∀ j, ¬ (c ≤ j ∧ j < c + n) → d j = f j := fun j hj => if_neg hj
  have hok : (C.ptr .own g o nn d).ok w' (Zf zl' zb) := by
    refine ⟨fun j hj => ⟨?_, fun hm => (hm rfl).elim, fun _ => (h.ext.frozen D2).trans ((D1 j hj).2.2 rfl)⟩, Nat.lt_of_lt_of_le D2 h.ext.size, fun j hj => ?_, fun j hj b k hf => ⟨fun _ hb => ?_, fun j' hj' hne => ?_⟩⟩
    · by_cases hr : c ≤ j ∧ j < c + n
      · rw [din j hr]
        have := (q1 (j - c) (by omega)).1
        rwa [show o + c + (j - c) = o + j by omega] at this
      · rw [dout j hr]
        exact h.ext.cell (fun hs => hr (by have := hyc (o + j) (by omega) (by omega) (h.SD hi hs (hDc _ (by omega) (by omega))); omega)) (D1 j hj).1
    · by_cases hr : c ≤ j ∧ j < c + n
      · rw [din j hr]
        obtain ⟨a1, a2, a3⟩ := q3 (j - c) (by omega)
        exact ⟨a1, a2, a3⟩
      · rw [dout j hr]
        obtain ⟨a1, a2, a3⟩ := D3 j hj
        exact ⟨a1, a2, C.ok_mono h.mono _ (C.ok_ext h.ext (h.Z hi) _ (fun b k hf hs => hyk j hj hr b k hf (h.SD hi hs (hDin j hj b k hf))) a3)⟩
    · obtain ⟨rfl, hb1, hb2⟩ := hb
      by_cases hr : c ≤ j ∧ j < c + n
      · rw [din j hr] at hf
        have := hyc k hb1 hb2 (h.qD hi (hqin _ (by omega) _ _ hf) (hDc k hb1 hb2))
        exact (q4 (j - c) (by omega) _ k hf).1 rfl ⟨rfl, this.1, this.2⟩
      · rw [dout j hr] at hf
        exact (D4 j hj _ k hf).1 rfl ⟨rfl, hb1, hb2⟩
    · by_cases hr : c ≤ j ∧ j < c + n
      · rw [din j hr] at hf
        by_cases hr' : c ≤ j' ∧ j' < c + n
        · rw [din j' hr']
          exact (q4 (j - c) (by omega) b k hf).2 (j' - c) (by omega) (by omega)
        · rw [dout j' hr']
          exact fun hf' => hyk j' hj' hr' b k hf' (h.qD hi (hqin _ (by omega) _ _ hf) (hDin j' hj' b k hf'))
      · rw [dout j hr] at hf
        by_cases hr' : c ≤ j' ∧ j' < c + n
        · rw [din j' hr']
          exact fun hf' => hyk j hj hr b k hf (h.qD hi (hqin _ (by omega) _ _ hf') (hDin j hj b k hf))
        · rw [dout j' hr']
          exact (D4 j hj b k hf).2 j' hj' hne
  have hDrf := Inv.take_out.sub_rf p ((hi.killB r p).ok r) (C.off_sub (C.belows r p) p _ _ (hi.ok r) h.sub) ((hi.killB r p).rf r)
  obtain ⟨G', i1, i2, i3⟩ := h.back hi (d0 := .ptr .own g o nn d) hok (.ptr ..) ⟨rfl, fun h => h, fun h => h, fun h => h, fun _ h => h⟩ (fun j hj => by
      by_cases hr : c ≤ j ∧ j < c + n
      · show ((d j).cutOff _).rf _
        rw [din j hr]
        exact C.off_rf _ _ (C.bare_rf _ _ (h.bare (j - c) (by omega)))
      · show ((d j).cutOff _).rf _
        rw [dout j hr]
        exact hDrf j hj) (fun b k hf => by
      obtain ⟨_, hf | ⟨j, hj, hf⟩⟩ := hf
      · obtain ⟨rfl, h1, h2⟩ := hf
        by_cases hr : o + c ≤ k ∧ k < o + c + n
        · exact .inl ⟨rfl, .inl ⟨rfl, hr.1, hr.2⟩⟩
        · exact .inr ⟨hDc k h1 h2, fun hy => hr (hyc k h1 h2 hy)⟩
      · by_cases hr : c ≤ j ∧ j < c + n
        · rw [din j hr] at hf
          exact .inl (hqin _ (by omega) _ _ hf)
        · rw [dout j hr] at hf
          exact .inr ⟨hDin j hj b k hf, hyk j hj hr b k hf⟩) (fun b k hf hz => by
      obtain ⟨_, hf | ⟨j, hj, hf⟩⟩ := hf
      · obtain ⟨rfl, h1, h2⟩ := hf
        have := hyc k h1 h2 (h.zD hi hz (hDc k h1 h2))
        exact h.qz _ k ⟨rfl, .inl ⟨rfl, this.1, this.2⟩⟩ hz
      · by_cases hr : c ≤ j ∧ j < c + n
        · rw [din j hr] at hf
          exact h.qz b k (hqin _ (by omega) _ _ hf) hz
        · rw [dout j hr] at hf
          exact hyk j hj hr b k hf (h.zD hi hz (hDin j hj b k hf)))
  have her : (C.ptr .own g o nn d).er = .ptr .own (((List.range nn).map fun j => (f j).er).take c ++ ((List.range n).map fun j => (qf j).er) ++ ((List.range nn).map fun j => (f j).er).drop (c + n)) := by
    rw [← splice_map (fun j => (f j).er) (fun j => (qf j).er) hn]
    simp only [C.er]
    congr 1
    refine List.map_congr_left fun j _ => ?_
    show (if _ then _ else _ : C).er = _
    split <;> rfl
  rw [her] at i1
  exact ⟨G', i1, i2, i3⟩

/-- A whole row. -/
theorem Mut.row {z len cap : Nat} {A : Option Ad} {e qe : Nat → Nat → C} (h : Mut w w' zl zl' zb G r p (.row .own z A len cap e) (.row .own z A len cap e) (.row .own z A len cap qe) S M) (hi : Inv w zl zb G s) :
    ∃ G', Inv w' zl' zb G' (setB r p (.row .own z (rowX z len qe)) s) ∧ (∀ t, (G' t).val = (G t).val) ∧ ∀ t b k, (G' t).fp b k → (C.row .own z A len cap qe).fp b k ∨ ((∃ u, (G u).fp b k) ∧ ¬ (C.row .own z A len cap e).fp b k) :=
  h.back hi (d0 := .row .own z A len cap qe) h.qok (.row ..) ⟨rfl, fun h => h, fun h => h, fun h => h, fun _ h => h⟩ trivial (fun b k hf => .inl hf) (fun b k hf => h.qz b k hf)

/-- A row, some cells of one element written. -/
theorem Mut.elem {z g o len cap n c i : Nat} {e : Nat → Nat → C} {qf : Nat → C} (h : Mut w w' zl zl' zb G r p (.row .own z (some (g, o, none)) len cap e) (.ptr .own g (o + i * z + c) n fun j => e i (j + c)) (.ptr .own g (o + i * z + c) n qf) S M) (hi : Inv w zl zb G s) (hil : i < len) (hn : c + n ≤ z) (hqs : ∀ j, j < n → (qf j).solid) :
    ∃ G', Inv w' zl' zb G' (setB r p (.row .own z ((rowX z len e).set i (((List.range z).map fun j => (e i j).er).take c ++ ((List.range n).map fun j => (qf j).er) ++ ((List.range z).map fun j => (e i j).er).drop (c + n)))) s) ∧ (∀ t, (G' t).val = (G t).val) ∧ ∀ t b k, (G' t).fp b k → (C.ptr .own g (o + i * z + c) n qf).fp b k ∨ ((∃ u, (G u).fp b k) ∧ ¬ (C.ptr .own g (o + i * z + c) n fun j => e i (j + c)).fp b k) := by
  obtain ⟨D1, D2, D3, D4, D5⟩ := C.sub_ok p h.sub (hi.ok r)
  obtain ⟨q1, q2, q3, q4⟩ := h.qok
  have hqin : ∀ j, j < n → ∀ b k, (qf j).fp b k → (C.ptr .own g (o + i * z + c) n qf).fp b k := fun j hj b k hf => C.in_ptr (q3 j hj).1 (q3 j hj).2.1 hj hf
  have hDin : ∀ i' j, i' < len → j < z → ∀ b k, (e i' j).fp b k → (C.row .own z (some (g, o, none)) len cap e).fp b k := fun i' j hi' hj b k hf => C.in_row (D3 i' j hi' hj).1 (D3 i' j hi' hj).2.2.1 hi' hj hf
  have hDc : ∀ k, (C.row .own z (some (g, o, none)) len cap e).fp g k := fun k => ⟨rfl, .inl ⟨o, rfl⟩⟩
  have hyc : ∀ k, (C.ptr .own g (o + i * z + c) n fun j => e i (j + c)).fp g k → o + i * z + c ≤ k ∧ k < o + i * z + c + n := fun k ⟨_, hf⟩ => by
    rcases hf with hf | ⟨j, hj, hf⟩
    · exact hf.2
    · exact ((D5 i (j + c) hil (by omega) g k hf).1 rfl o rfl).elim
  have hyk : ∀ i' j, i' < len → j < z → ¬ (i' = i ∧ c ≤ j ∧ j < c + n) → ∀ b k, (e i' j).fp b k → ¬ (C.ptr .own g (o + i * z + c) n fun j => e i (j + c)).fp b k := fun i' j hi' hj hne b k hf ⟨_, hf'⟩ => by
    rcases hf' with hf' | ⟨j', hj', hf'⟩
    · exact (D5 i' j hi' hj b k hf).1 rfl o (by rw [hf'.1])
    · exact (D5 i' j hi' hj b k hf).2 i (j' + c) hil (by omega) (fun e => by simp only [Prod.mk.injEq] at e; exact hne ⟨e.1, by omega, by omega⟩) hf'
  let d : Nat → Nat → C := fun i' j => if i' = i ∧ c ≤ j ∧ j < c + n then qf (j - c) else e i' j
  have din : ∀ i' j, i' = i ∧ c ≤ j ∧ j < c + n → d i' j = qf (j - c) := fun i' j hj => if_pos hj
  have dout : ∀ i' j, ¬ (i' = i ∧ c ≤ j ∧ j < c + n) → d i' j = e i' j := fun i' j hj => if_neg hj
  have hok : (C.row .own z (some (g, o, none)) len cap d).ok w' (Zf zl' zb) := by
    refine ⟨D1, fun i' j hi' hj => ⟨g, o, rfl, ?_, fun hm => (hm rfl).elim⟩, fun i' j hi' hj => ?_, fun _ => ?_, fun i' j hi' hj b k hf => ⟨fun _ o' hA => ?_, fun i2 j2 hi2 hj2 hne => ?_⟩⟩
    · by_cases hr : i' = i ∧ c ≤ j ∧ j < c + n
      · rw [din i' j hr]
        obtain ⟨rfl, h1, h2⟩ := hr
        have := (q1 (j - c) (by omega)).1
        rwa [show o + i' * z + c + (j - c) = o + i' * z + j by omega] at this
      · rw [dout i' j hr]
        obtain ⟨g', o', hA, hcl, _⟩ := D2 i' j hi' hj
        injection hA with hA
        injection hA with e1 e2
        injection e2 with e2
        subst e1; subst e2
        refine h.ext.cell (fun hs => hr ?_) hcl
        have := hyc _ (h.SD hi hs (hDc _))
        have hj0 : o + i' * z + j - (o + i * z) < z := by omega
        have := place_ne hj hj0 (show i' * z + j = i * z + (o + i' * z + j - (o + i * z)) by omega)
        exact ⟨this.1, by omega, by omega⟩
    · by_cases hr : i' = i ∧ c ≤ j ∧ j < c + n
      · rw [din i' j hr]
        obtain ⟨a1, a2, a3⟩ := q3 (j - c) (by omega)
        exact ⟨a1, hqs _ (by omega), a2, a3⟩
      · rw [dout i' j hr]
        obtain ⟨a1, a2, a3, a4⟩ := D3 i' j hi' hj
        exact ⟨a1, a2, a3, C.ok_mono h.mono _ (C.ok_ext h.ext (h.Z hi) _ (fun b k hf hs => hyk i' j hi' hj hr b k hf (h.SD hi hs (hDin i' j hi' hj b k hf))) a4)⟩
    · rcases D4 rfl with ⟨hA, _⟩ | ⟨g', o', arr, t, fz, hA, hh, hsz, hfr⟩
      · cases hA
      · injection hA with hA
        injection hA with e1 e2
        injection e2 with e2
        subst e1; subst e2
        have hg : g < w.heap.size := (Array.getElem?_eq_some_iff.1 hh).1
        rcases h.ext.block g hg with e' | ⟨a1, a2, t', fz', r1, r2, r3, r4⟩
        · exact .inr ⟨g, o, arr, t, fz, rfl, e'.trans hh, hsz, fun k hk hk' => (h.ext.frozen hg).trans (hfr k hk hk')⟩
        · rw [hh] at r1
          injection r1 with r1
          injection r1 with s1 s2 s3
          subst s1
          exact .inr ⟨g, o, a2, t', fz', rfl, r2, by omega, fun k hk hk' => (h.ext.frozen hg).trans (hfr k hk hk')⟩
    · injection hA with hA
      injection hA with e1 e2
      subst e1
      by_cases hr : i' = i ∧ c ≤ j ∧ j < c + n
      · rw [din i' j hr] at hf
        have := hyc k (h.qD hi (hqin _ (by omega) _ _ hf) (hDc k))
        exact (q4 (j - c) (by omega) _ k hf).1 rfl ⟨rfl, this.1, this.2⟩
      · rw [dout i' j hr] at hf
        exact (D5 i' j hi' hj _ k hf).1 rfl o rfl
    · by_cases hr : i' = i ∧ c ≤ j ∧ j < c + n
      · rw [din i' j hr] at hf
        by_cases hr' : i2 = i ∧ c ≤ j2 ∧ j2 < c + n
        · rw [din i2 j2 hr']
          exact (q4 (j - c) (by omega) b k hf).2 (j2 - c) (by omega) (fun e => hne (by simp only [Prod.mk.injEq]; exact ⟨by rw [hr.1, hr'.1], by omega⟩))
        · rw [dout i2 j2 hr']
          exact fun hf' => hyk i2 j2 hi2 hj2 hr' b k hf' (h.qD hi (hqin _ (by omega) _ _ hf) (hDin i2 j2 hi2 hj2 b k hf'))
      · rw [dout i' j hr] at hf
        by_cases hr' : i2 = i ∧ c ≤ j2 ∧ j2 < c + n
        · rw [din i2 j2 hr']
          exact fun hf' => hyk i' j hi' hj hr b k hf (h.qD hi (hqin _ (by omega) _ _ hf') (hDin i' j hi' hj b k hf))
        · rw [dout i2 j2 hr']
          exact (D5 i' j hi' hj b k hf).2 i2 j2 hi2 hj2 hne
  obtain ⟨G', i1, i2, i3⟩ := h.back hi (d0 := .row .own z (some (g, o, none)) len cap d) hok (.row ..) ⟨rfl, fun h => h, fun h => h, fun h => h, fun _ h => h⟩ trivial (fun b k hf => by
      obtain ⟨_, hf | ⟨i', j, hi', hj, hf⟩⟩ := hf
      · obtain ⟨o', hA⟩ := hf
        injection hA with hA
        injection hA with e1 e2
        subst e1
        by_cases hr : o + i * z + c ≤ k ∧ k < o + i * z + c + n
        · exact .inl ⟨rfl, .inl ⟨rfl, hr.1, hr.2⟩⟩
        · exact .inr ⟨hDc k, fun hy => hr (hyc k hy)⟩
      · by_cases hr : i' = i ∧ c ≤ j ∧ j < c + n
        · rw [din i' j hr] at hf
          exact .inl (hqin _ (by omega) _ _ hf)
        · rw [dout i' j hr] at hf
          exact .inr ⟨hDin i' j hi' hj b k hf, hyk i' j hi' hj hr b k hf⟩) (fun b k hf hz => by
      obtain ⟨_, ⟨o', hA⟩ | ⟨i', j, hi', hj, hf⟩⟩ := hf
      · injection hA with hA
        injection hA with e1 e2
        subst e1
        have := hyc k (h.zD hi hz (hDc k))
        exact h.qz _ k ⟨rfl, .inl ⟨rfl, this.1, this.2⟩⟩ hz
      · by_cases hr : i' = i ∧ c ≤ j ∧ j < c + n
        · rw [din i' j hr] at hf
          exact h.qz b k (hqin _ (by omega) _ _ hf) hz
        · rw [dout i' j hr] at hf
          exact hyk i' j hi' hj hr b k hf (h.zD hi hz (hDin i' j hi' hj b k hf)))
  have her : (C.row .own z (some (g, o, none)) len cap d).er = .row .own z ((rowX z len e).set i (((List.range z).map fun j => (e i j).er).take c ++ ((List.range n).map fun j => (qf j).er) ++ ((List.range z).map fun j => (e i j).er).drop (c + n))) := by
    rw [← splice_map (fun j => (e i j).er) (fun j => (qf j).er) hn]
    simp only [C.er]
    congr 1
    symm
    refine C.map_range_set _ _ len i _ fun i' hi' => ?_
    split
    · rename_i hii
      subst hii
      refine List.map_congr_left fun j _ => ?_
      show (if _ then _ else _ : C).er = _
      simp only [true_and]
      split <;> rfl
    · rename_i hii
      refine List.map_congr_left fun j _ => ?_
      show (if _ then _ else _ : C).er = _
      rw [if_neg (fun hh => hii hh.1)]
  rw [her] at i1
  exact ⟨G', i1, i2, i3⟩
end
end M
set_option linter.unusedVariables false
set_option linter.unusedSimpArgs false
namespace M
open Go Go.RowKit
variable [Bs]
section
variable {P : Program} {c : Ctx} {G : Nat → C} {zl : Nat → Nat → Prop} {s : Slots} {a : Act} {w : World} {o : Oper} {K : Slots → Prop}

theorem mut_find : ∀ {l' : List Operand} {l : List (AV × PM)} {x : AV} {n : Nat}, chkA l' l = true → mutOf l = some (x, n) → ∃ i x', l[i]? = some (x, PM.mut n) ∧ l'[i]? = some x' ∧ chkV x' x = true ∧ (∀ (j : Nat) (x2 : AV) (n2 : Nat), l[j]? = some (x2, PM.mut n2) → j = i) ∧ ∀ ps : List X, mutPost l ps = ps.getD i .dead
  | [], [], x, n, _, h => by cases h
  | x0' :: l', (x0, pm) :: l, x, n, hc, h => by
    simp only [chkA, Bool.and_eq_true] at hc
    have other : mutOf l = some (x, n) → (∀ n2, pm ≠ PM.mut n2) → (∀ (y : X) ps, mutPost ((x0, pm) :: l) (y :: ps) = mutPost l ps) → (mutPost ((x0, pm) :: l) [] = .dead) → ∃ i x', ((x0, pm) :: l)[i]? = some (x, PM.mut n) ∧ (x0' :: l')[i]? = some x' ∧ chkV x' x = true ∧ (∀ (j : Nat) (x2 : AV) (n2 : Nat), ((x0, pm) :: l)[j]? = some (x2, PM.mut n2) → j = i) ∧ ∀ ps : List X, mutPost ((x0, pm) :: l) ps = ps.getD i .dead := fun hm hpm h1 h2 => by
      obtain ⟨i, x', i1, i2, i3, i4, i5⟩ := mut_find hc.2 hm
      refine ⟨i + 1, x', by simpa using i1, by simpa using i2, i3, fun j x2 n2 hj => ?_, fun ps => ?_⟩
      · cases j with
        | zero =>
          simp only [List.getElem?_cons_zero, Option.some.injEq, Prod.mk.injEq] at hj
          exact (hpm n2 hj.2).elim
        | succ j => rw [i4 j x2 n2 (by simpa using hj)]
      · cases ps with
        | nil => rw [h2]; rfl
        | cons y ps => rw [h1, i5]; rfl
    cases pm with
    | mv => exact other h (fun _ e => by cases e) (fun _ _ => rfl) rfl
    | bor => exact other h (fun _ e => by cases e) (fun _ _ => rfl) rfl
    | bptr m => exact other h (fun _ e => by cases e) (fun _ _ => rfl) rfl
    | «mut» m =>
      simp only [mutOf, Option.some.injEq, Prod.mk.injEq] at h
      obtain ⟨rfl, rfl⟩ := h
      refine ⟨0, x0', rfl, rfl, hc.1.1, fun j x2 n2 hj => ?_, fun ps => ?_⟩
      · cases j with
        | zero => rfl
        | succ j =>
          exfalso
          have hno : mutOf l = none := by simpa using hc.1.2
          have : ∀ {l : List (AV × PM)} {i : Nat}, l[i]? = some (x2, PM.mut n2) → mutOf l ≠ none := by
            intro l
            induction l with
            | nil => intro i hi; simp at hi
            | cons p l ih =>
              intro i hi
              obtain ⟨y, pm⟩ := p
              cases i with
              | zero =>
                simp only [List.getElem?_cons_zero, Option.some.injEq, Prod.mk.injEq] at hi
                obtain ⟨_, rfl⟩ := hi
                simp [mutOf]
              | succ i =>
                have := ih (by simpa using hi)
                cases pm <;> simp [mutOf] <;> first | exact this | skip
          exact this (by simpa using hj) hno
      · cases ps <;> rfl
  | [], _ :: _, _, _, hc, _ => by cases hc
  | _ :: _, [], _, _, hc, _ => by cases hc

theorem mut_tail (h : St c G zl s a w) {l' : List Operand} {as : List (AV × PM)} (hc : chkA l' as = true) {x : AV} {n : Nat} (hmut : mutOf as = some (x, n)) {f : FuncId} {fv : Option AV} (hop : CallOp P c zl o a w l' f fv) (hn : ∀ n, o.dst = some n → n < c.nt)
    {ms : List C} {G1 : Nat → C} {sm : Slots} (hT : TookL w zl c.zb G ms G1 sm) (g2 : MV a l' as ms) (hmb : ∀ m ∈ ms, m.bare) {r : Nat} {p : Path} {D y : C} (hsub : (G1 r).sub p = some D) (hyok : y.ok w (Zf zl c.zb)) (hyb : y.bare) (hyv : ∀ (i : Nat) (x' : Operand), as[i]? = some (x, PM.mut n) → l'[i]? = some x' → y.val = a.eval x') (hyD : ∀ b k, y.fp b k → D.fp b k)
    (hcaps : capsIs (setLoc r p .dead sm) fv f) {back : X → (Slots → Prop) → Prop} (hk : AC P f (argsOf (setLoc r p .dead sm) y.er as (ms.map C.er) ++ capsOf (setLoc r p .dead sm) fv) fun q ps => back (mutPost as ps) fun s' => K (putD o.dst q s'))
    (hback : ∀ {w' : World} {zl' : Nat → Nat → Prop} {S M : Nat → Nat → Prop} {q : C}, Mut w w' zl zl' c.zb G1 r p D y q S M → ∀ Kx, back q.er Kx → ∃ s', Kx s' ∧ ∃ G', Inv w' zl' c.zb G' s' ∧ (∀ t, (G' t).val = (G1 t).val) ∧ ∀ t b k, (G' t).fp b k → q.fp b k ∨ ((∃ u, (G1 u).fp b k) ∧ ¬ y.fp b k)) : GoodC P c o a w K false := by
  obtain ⟨capV, hrun, hcapsR⟩ := hop.run
  have h1 := tookL_st h hT
  obtain ⟨D', G2, t1, t2, t3, t4, t5, t6, t7, t8, t9, t10, t11, t12⟩ := h1.inv.take_out r p D hsub
  have h2 : St c G2 zl (setLoc r p .dead sm) a w := h1.move t3 t10 (Ext.refl (fun _ _ => False) w) (fun _ _ hs => hs.elim) (fun t b k hf => .inl ⟨t, t11 t b k hf⟩)
  have hyG2 : ∀ b k, y.fp b k → ∀ t, ¬ (G2 t).fp b k := fun b k hf t => t8 t b k ((t12 b k).2 (hyD b k hf))
  have hyG1 : ∀ b k, y.fp b k → (G1 r).fp b k := fun b k hf => C.sub_fp p hsub (hT.inv.ok r) (hyD b k hf)
  have hzb : ∀ b k, c.zb b k → (c.zb b k ∨ ∃ t, (G2 t).fp b k) := fun b k hz => .inl hz
  have hzG : ∀ t b k, (G2 t).fp b k → (c.zb b k ∨ ∃ t, (G2 t).fp b k) := fun t b k hf => .inr ⟨t, hf⟩
  obtain ⟨l, l1, l2, l3⟩ := hcapsR (zb' := fun b k => c.zb b k ∨ ∃ t, (G2 t).fp b k) h2 hzb hzG hcaps
  have hup : ∀ m b k, Zf zl c.zb m b k → Zf zl (fun b k => c.zb b k ∨ ∃ t, (G2 t).fp b k) m b k := fun m b k hz => by
    cases m with
    | own => exact hz
    | sl => exact hz
    | bor => exact hz.imp id .inl
  obtain ⟨i, x', i1, i2, i3, i4, i5⟩ := mut_find hc hmut
  have hyv' := hyv i x' i1 i2
  obtain ⟨cs, c1, c2, c3, c4⟩ := args_ok (zb' := fun b k => c.zb b k ∨ ∃ t, (G2 t).fp b k) h2 hzb hzG (y := y) (C.ok_mono hup _ hyok) hyb hc g2 (fun x hx => ⟨C.ok_mono hup _ (hT.all x hx).1, hmb x hx, fun b k hf hf' => (hT.all x hx).2.1 r b k hf (hyG1 b k hf')⟩) hT.apart (fun j x2 n2 x2' hj hj' => by
    have := i4 j x2 n2 hj
    subst this
    rw [i2] at hj'
    injection hj' with hj'
    rw [← hj']; exact hyv')
  have hfp : ∀ x ∈ cs ++ l, ∀ b k, x.fp b k → (∃ m ∈ ms, m.fp b k) ∨ y.fp b k := fun x hx b k hf => by
    rcases List.mem_append.1 hx with hx | hx
    · exact ((c3 x hx).2.2 b k hf).imp id fun hh => hh.2
    · exact ((l3 x hx).nofp b k hf).elim
  have hmG : ∀ b k, (∃ m ∈ ms, m.fp b k) → (∀ t, ¬ (G1 t).fp b k) ∧ ¬ zl b k ∧ ¬ c.zb b k := fun b k ⟨m, hm, hf⟩ => ⟨fun t => (hT.all m hm).2.1 t b k hf, (hT.all m hm).2.2.1 b k hf⟩
  have hA : ArgsOk w zl (fun b k => c.zb b k ∨ ∃ t, (G2 t).fp b k) (cs ++ l) := {
    ok := fun x hx => (List.mem_append.1 hx).elim (fun hx => (c3 x hx).1) fun hx => (l3 x hx).ok
    bare := fun x hx => (List.mem_append.1 hx).elim (fun hx => (c3 x hx).2.1) fun hx => (l3 x hx).bare
    fz := fun x hx b k hf => by
      rcases hfp x hx b k hf with hm | hy
      · obtain ⟨a1, a2, a3⟩ := hmG b k hm
        exact ⟨a2, fun hz => hz.elim a3 fun ⟨t, ht⟩ => a1 t (t11 t b k ht)⟩
      · have := hT.inv.fz r b k (hyG1 b k hy)
        exact ⟨this.1, fun hz => hz.elim this.2 fun ⟨t, ht⟩ => hyG2 b k hy t ht⟩
    zin := fun b k hz => by
      rcases hz with hz | hz | ⟨t, ht⟩
      · exact hT.inv.zin b k (.inl hz)
      · exact hT.inv.zin b k (.inr hz)
      · exact C.fp_lt _ (t3.ok t) b k ht
    apart := List.pairwise_append.2 ⟨c4, apart_of fun x hx => (l3 x hx).nofp, fun x _ y hy b k _ hf => (l3 y hy).nofp b k hf⟩ }
  have hcalls := hk w zl _ (cs ++ l) (by rw [List.map_append, c1, l1]) hA (h.glob _ fun b k hz => .inl hz)
  have hvals : (cs ++ l).map C.val = l'.map a.eval ++ capV := by rw [List.map_append, c2, l2]
  rw [hvals] at hcalls
  refine ⟨f, _, hrun, hcalls.mono ?_⟩
  rintro e w' ⟨r0, ps, zl', hD, hkk⟩
  -- what the lent has become
  have hil : i < ps.length := by
    have h1 := congrArg List.length hD.vals
    have h2 := congrArg List.length hvals
    simp only [List.length_map, List.length_append] at h1 h2
    have h3 := (List.getElem?_eq_some_iff.1 i2).1
    omega
  have hq : ps[i]? = some ps[i] := List.getElem?_eq_getElem hil
  have hqm : ps[i] ∈ ps := List.getElem_mem hil
  have hqv : (ps[i]).val = y.val := by
    have : (ps.map C.val)[i]? = (l'.map a.eval ++ capV)[i]? := by rw [hD.vals, hvals]
    rw [List.getElem?_map, hq, List.getElem?_append_left (by simpa using (List.getElem?_eq_some_iff.1 i2).1), List.getElem?_map, i2] at this
    simp only [Option.map_some, Option.some.injEq] at this
    rw [this, hyv']
  have hmp : mutPost as (ps.map C.er) = (ps[i]).er := by
    rw [i5]
    exact getD_of (by rw [List.getElem?_map, hq]; rfl) _
  rw [hmp] at hkk
  have hqa := List.mem_cons_of_mem r0 hqm
  have hMut : Mut w w' zl zl' c.zb G1 r p D y ps[i] (fun b k => ∃ x ∈ cs ++ l, x.fp b k) (fun b k => ∃ m ∈ ms, m.fp b k) := {
    sub := hsub
    yD := hyD
    ext := hD.ext
    inS := fun b k ⟨x, hx, hf⟩ => hfp x hx b k hf
    outM := hmG
    qok := C.ok_mono (fun m b k hz => by
      cases m with
      | own => exact hz
      | sl => exact hz
      | bor => exact hz.imp id fun h => h.elim) _ (hD.all.ok _ hqa)
    bare := hD.all.bare _ hqa
    val := hqv
    fp := fun b k hf => hD.dom _ hqa b k hf
    qz := fun b k hf => (hD.all.fz _ hqa b k hf).1
    z1 := hD.zl1
    z2 := hD.zl2
    zin := fun b k hz => hD.all.zin b k (.inl hz) }
  obtain ⟨s', hKs, G', j1, j2, j3⟩ := hback hMut _ hkk
  have hmd : ∀ b k, (∃ m ∈ ms, m.fp b k) → ∃ t, (G t).fp b k := fun b k ⟨m, hm, hf⟩ => (hT.all m hm).2.2.2 b k hf
  have hSd : ∀ b k, (∃ x ∈ cs ++ l, x.fp b k) → ∃ t, (G t).fp b k := fun b k ⟨x, hx, hf⟩ => by
    rcases hfp x hx b k hf with hm | hy
    · exact hmd b k hm
    · exact ⟨r, hT.mono r b k (hyG1 b k hy)⟩
  have h3 : St c G' zl' s' a w' := h.after j1 (fun t => (j2 t).trans (hT.val t)) hD.ext hSd (fun t b k hf => by
      rcases j3 t b k hf with hq | ⟨⟨u, hu⟩, _⟩
      · exact (hMut.fp b k hq).imp (hSd b k) id
      · exact .inl ⟨u, hT.mono u b k hu⟩) hD.zl1 (fun b k hz => (hD.zl2 b k hz).imp id fun hh => hh.imp (hSd b k) id)
  have hrm := List.mem_cons_self (a := r0) (l := ps)
  obtain ⟨G3, h4⟩ := h3.result (x := r0) o.dst hn (hD.all.ok r0 hrm) (hD.all.bare r0 hrm) (fun t b k hf hf' => by
      rcases j3 t b k hf' with hq | ⟨⟨u, hu⟩, hny⟩
      · exact (List.pairwise_cons.1 hD.all.apart).1 _ hqm b k hf hq
      · rcases hD.dom r0 hrm b k hf with ⟨x, hx, hf⟩ | hb
        · rcases hfp x hx b k hf with hm | hy
          · exact (hmG b k hm).1 u hu
          · exact hny hy
        · have := C.fp_lt _ (hT.inv.ok u) b k hu; omega) (fun b k hf => ⟨(hD.all.fz r0 hrm b k hf).1, fun hz => by
      rcases hD.dom r0 hrm b k hf with ⟨x, hx, hf⟩ | hb
      · rcases hfp x hx b k hf with hm | hy
        · exact (hmG b k hm).2.2 hz
        · exact (hT.inv.fz r b k (hyG1 b k hy)).2 hz
      · have := hT.inv.zin b k (.inr hz); omega⟩) (fun b k hf => by
      rcases hD.dom r0 hrm b k hf with hs | hb
      · obtain ⟨t, ht⟩ := hSd b k hs
        exact h.tr.dom t b k ht
      · exact .inr (Nat.le_trans h.tr.ext.size hb))
  exact ⟨r0.val, hD.ends, (fun h => by cases h), G3, zl', _, hKs, h4⟩
end
end M
set_option linter.unusedVariables false
set_option linter.unusedSimpArgs false
namespace M
open Go Go.RowKit
variable [Bs]
section
variable {P : Program} {c : Ctx} {G : Nat → C} {zl : Nat → Nat → Prop} {s : Slots} {a : Act} {w : World} {o : Oper} {K : Slots → Prop}
theorem er_ptr {x : C} {m : Md} {xs : List X} (h : x.er = .ptr m xs) : ∃ g o n f, x = .ptr m g o n f ∧ xs = (List.range n).map fun j => (f j).er := by
  cases x with
  | ptr m' g o n f =>
    simp only [C.er] at h
    injection h with h1 h2
    subst h1
    exact ⟨g, o, n, f, rfl, h2.symm⟩
  | _ => simp [C.er] at h
theorem row_val_inj {m m' : Md} {z z' len len' cap cap' : Nat} {A A' : Option Ad} {e e' : Nat → Nat → C} (h : (C.row m z A len cap e).val = (C.row m' z' A' len' cap' e').val) : A = A' ∧ len = len' ∧ cap = cap' := by
  simp only [C.val] at h
  injection h with h1 h2 h3
  refine ⟨?_, h2, h3⟩
  cases A with
  | none => cases A' with
    | none => rfl
    | some q => simp at h1
  | some q => cases A' with
    | none => simp at h1
    | some q' =>
      simp only [Option.map_some, Option.some.injEq, Addr.mk.injEq, and_true] at h1
      rw [show q = q' from Prod.ext h1.1 (Prod.ext h1.2.1 h1.2.2)]
/-- A piece of the cells of a struct or of an element. -/
theorem piece_er (n : Nat) (f : Nat → C) {k sz : Nat} (h : k + sz ≤ n) : ((List.range sz).map fun j => (f (j + k)).er) = (((List.range n).map fun j => (f j).er).drop k).take sz := by
  rw [← List.map_drop, range_drop, ← List.map_take, ← List.map_take, List.take_range, Nat.min_eq_left (by omega), List.map_map]
  rfl

theorem call_mut (h : St c G zl s a w) {l' : List Operand} {as : List (AV × PM)} (hc : chkA l' as = true) {x : AV} {n : Nat} (hmut : mutOf as = some (x, n)) {f : FuncId} {fv : Option AV} (hop : CallOp P c zl o a w l' f fv) (hn : ∀ n, o.dst = some n → n < c.nt) (hK : callX P f o.dst as fv s K) : GoodC P c o a w K false := by
  obtain ⟨k1, k2⟩ := hK
  rw [hmut] at k2
  simp only at k2
  obtain ⟨ms, G1, g1, g2, hT⟩ := movs_ok hc h
  have h1 := tookL_st h hT
  rw [← g1] at k1 k2
  have hmb : ∀ m ∈ ms, m.bare := fun m hm => (C.bare_er m).1 (C.bareL_all.1 k1 _ (List.mem_map_of_mem hm))
  obtain ⟨i, x', i1, i2, i3, i4, i5⟩ := mut_find hc hmut
  obtain ⟨u, u1, u2, u3⟩ := av_ok h1 i3
  rw [← u1] at k2
  have hval : ∀ y : C, y.val = u.val → ∀ (j : Nat) (x2 : Operand), as[j]? = some (x, PM.mut n) → l'[j]? = some x2 → y.val = a.eval x2 := fun y hy j x2 hj hj' => by
    have := i4 j x n hj
    subst this
    rw [i2] at hj'
    injection hj' with hj'
    rw [hy, u2, hj']
  cases u with
  | ref v r p =>
    obtain ⟨y', z', hs, hF, hv, m, z1, A, len, cap, e, rfl⟩ := u3.rf
    cases hF with
    | row m m' sz' A len cap e e' =>
      simp only [C.er, placeOf, mutCall] at k2
      split at k2
      · rename_i z xs hlk
        obtain ⟨k2, k3, k4⟩ := k2
        simp only [look] at hlk
        rw [← h1.inv.er, C.sub_er, hs] at hlk
        simp only [Option.map_some, Option.some.injEq] at hlk
        obtain ⟨A2, len2, cap2, e2, he, rfl⟩ := er_row hlk
        injection he with b1 b2 b3 b4 b5 b6
        subst b1; subst b2; subst b3; subst b4; subst b5; subst b6
        have hok := C.sub_ok p hs (h1.inv.ok r)
        refine mut_tail h hc hmut hop hn hT g2 hmb hs (y := .row .own z1 A len cap e') (back := fun y Kx => match y with
          | .row .own z' ys => z' = z1 ∧ Kx (setB r p (.row .own z1 ys) (movs as s).2)
          | _ => False) hok trivial (hval _ hv) (fun b k hf => hf) k3 (by rw [hlk]; exact k4) fun {w' zl' S M q} hM Kx hb => ?_
        split at hb
        · rename_i z' ys hq
          obtain ⟨rfl, hb⟩ := hb
          obtain ⟨A3, len3, cap3, e3, rfl, rfl⟩ := er_row hq
          obtain ⟨c1, c2, c3⟩ := row_val_inj hM.val
          subst c1; subst c2; subst c3
          obtain ⟨G', j1, j2, j3⟩ := hM.row h1.inv
          exact ⟨_, hb, G', j1, j2, j3⟩
        · exact hb.elim
      · exact k2.elim
  | adr v r p i k =>
    obtain ⟨D, hs, hp⟩ := u3.rf
    have hok := C.sub_ok p hs (h1.inv.ok r)
    simp only [C.er, placeOf, mutCall] at k2
    have hlk : look (movs as s).2 r p = some D.er := by
      simp only [look]
      rw [← h1.inv.er, C.sub_er, hs]
      rfl
    rw [hlk] at k2
    rcases hp with ⟨m, z, g, o', len, cap, e, rfl, rfl⟩ | ⟨m, g, o', nn, f', rfl, rfl, rfl⟩
    · simp only [C.er] at k2
      cases m with
      | own =>
        simp only [C.map_range_get?] at k2
        split at k2
        · rename_i e0 he0
          split at he0
          · rename_i hi
            injection he0 with he0
            obtain ⟨k0, k2, k3, k4⟩ := k2
            have hkn : k + n ≤ z := by rw [← he0] at k0; simpa using k0
            obtain ⟨D1, D2, D3, D4, D5⟩ := hok
            have hye : (C.ptr .own g (o' + i * z + k) n fun j => e i (j + k)).er = .ptr .own ((e0.drop k).take n) := by
              rw [← he0, ← piece_er z (fun j => e i j) hkn]
              rfl
            have hfr : ∀ j, j < z → w.frozen? ⟨g, o' + i * z + j, none⟩ = false ∧ g < w.heap.size := fun j hj => by
              rcases D4 rfl with ⟨hA, _⟩ | ⟨g', o2, arr, t, fz, hA, hh, hsz, hfr⟩
              · cases hA
              · injection hA with hA
                injection hA with e1 e2
                injection e2 with e2
                subst e1; subst e2
                refine ⟨hfr _ (by omega) ?_, (Array.getElem?_eq_some_iff.1 hh).1⟩
                have : (i + 1) * z ≤ cap * z := Nat.mul_le_mul_right _ (by omega)
                rw [Nat.add_mul] at this
                omega
            have hgl : g < w.heap.size := by
              rcases D4 rfl with ⟨hA, _⟩ | ⟨g', o2, arr, t, fz, hA, hh, hsz, hfr⟩
              · cases hA
              · injection hA with hA
                injection hA with e1 e2
                subst e1
                exact (Array.getElem?_eq_some_iff.1 hh).1
            have hyok : (C.ptr .own g (o' + i * z + k) n fun j => e i (j + k)).ok w (Zf zl c.zb) := by
              refine ⟨fun j hj => ⟨?_, fun hm => (hm rfl).elim, fun _ => ?_⟩, hgl, fun j hj => ?_, fun j hj b k' hf => ⟨fun _ hb => ?_, fun j' hj' hne => ?_⟩⟩
              · obtain ⟨g', o2, hA, hcl, _⟩ := D2 i (j + k) hi (by omega)
                injection hA with hA
                injection hA with e1 e2
                injection e2 with e2
                subst e1; subst e2
                rw [show o' + i * z + k + j = o' + i * z + (j + k) by omega]
                exact hcl
              · rw [show o' + i * z + k + j = o' + i * z + (j + k) by omega]
                exact (hfr (j + k) (by omega)).1
              · obtain ⟨a1, a2, a3, a4⟩ := D3 i (j + k) hi (by omega)
                exact ⟨a1, a3, a4⟩
              · exact (D5 i (j + k) hi (by omega) b k' hf).1 rfl o' (by rw [hb.1])
              · exact (D5 i (j + k) hi (by omega) b k' hf).2 i (j' + k) hi (by omega) (fun e => by simp only [Prod.mk.injEq] at e; omega)
            refine mut_tail h hc hmut hop hn hT g2 hmb hs (back := fun y Kx => match y with
              | .ptr .own ys => ys.length = n ∧ solidL ys = true ∧ Kx (setB r p (.row .own z ((rowX z len e).set i (e0.take k ++ ys ++ e0.drop (k + n)))) (movs as s).2)
              | _ => False) hyok ((C.bare_er _).1 (by rw [hye]; exact k2)) (hval _ rfl) (fun b k' hf => ?_) k3 (by rw [hye]; exact k4) fun {w' zl' S M q} hM Kx hb => ?_
            · obtain ⟨_, hf | ⟨j, hj, hf⟩⟩ := hf
              · exact ⟨rfl, .inl ⟨o', by rw [hf.1]⟩⟩
              · exact ⟨rfl, .inr ⟨i, j + k, hi, by omega, hf⟩⟩
            · split at hb
              · rename_i ys hq
                obtain ⟨hb1, hb2, hb3⟩ := hb
                obtain ⟨g3, o3, n3, f3, rfl, rfl⟩ := er_ptr hq
                have hvv := hM.val
                simp only [C.val] at hvv
                injection hvv with hvv
                injection hvv with hvv
                injection hvv with c1 c2 c3
                subst c1; subst c2
                have hn3 : n3 = n := by simpa using hb1
                subst hn3
                obtain ⟨G', j1, j2, j3⟩ := hM.elem h1.inv hi hkn (fun j hj => solid_of_er (solidL_all hb2 _ (List.mem_map.2 ⟨j, by simpa using hj, rfl⟩)))
                rw [he0] at j1
                exact ⟨_, hb3, G', j1, j2, j3⟩
              · exact hb.elim
          · cases he0
        · exact k2.elim
      | sl => exact k2.elim
      | bor => exact k2.elim
    · simp only [C.er] at k2
      cases m with
      | own =>
        obtain ⟨k0, k2, k3, k4⟩ := k2
        have hkn : k + n ≤ nn := by simpa using k0
        obtain ⟨D1, D2, D3, D4⟩ := hok
        have hye : (C.ptr .own g (o' + k) n fun j => f' (j + k)).er = .ptr .own ((((List.range nn).map fun j => (f' j).er).drop k).take n) := by
          rw [← piece_er nn f' hkn]
          rfl
        have hyok : (C.ptr .own g (o' + k) n fun j => f' (j + k)).ok w (Zf zl c.zb) := by
          refine ⟨fun j hj => ⟨?_, fun hm => (hm rfl).elim, fun _ => ?_⟩, D2, fun j hj => D3 (j + k) (by omega), fun j hj b k' hf => ⟨fun _ hb => ?_, fun j' hj' hne => ?_⟩⟩
          · rw [show o' + k + j = o' + (j + k) by omega]
            exact (D1 (j + k) (by omega)).1
          · rw [show o' + k + j = o' + (j + k) by omega]
            exact (D1 (j + k) (by omega)).2.2 rfl
          · exact (D4 (j + k) (by omega) b k' hf).1 rfl ⟨hb.1, by omega, by omega⟩
          · exact (D4 (j + k) (by omega) b k' hf).2 (j' + k) (by omega) (by omega)
        refine mut_tail h hc hmut hop hn hT g2 hmb hs (back := fun y Kx => match y with
          | .ptr .own ys => ys.length = n ∧ Kx (setB r p (.ptr .own (((List.range nn).map fun j => (f' j).er).take k ++ ys ++ ((List.range nn).map fun j => (f' j).er).drop (k + n))) (movs as s).2)
          | _ => False) hyok ((C.bare_er _).1 (by rw [hye]; exact k2)) (hval _ rfl) (fun b k' hf => ?_) k3 (by rw [hye]; exact k4) fun {w' zl' S M q} hM Kx hb => ?_
        · obtain ⟨_, hf | ⟨j, hj, hf⟩⟩ := hf
          · exact ⟨rfl, .inl ⟨hf.1, by omega, by omega⟩⟩
          · exact ⟨rfl, .inr ⟨j + k, by omega, hf⟩⟩
        · split at hb
          · rename_i ys hq
            obtain ⟨hb1, hb3⟩ := hb
            obtain ⟨g3, o3, n3, f3, rfl, rfl⟩ := er_ptr hq
            have hvv := hM.val
            simp only [C.val] at hvv
            injection hvv with hvv
            injection hvv with hvv
            injection hvv with c1 c2 c3
            subst c1; subst c2
            have hn3 : n3 = n := by simpa using hb1
            subst hn3
            obtain ⟨G', j1, j2, j3⟩ := hM.ptr h1.inv hkn
            exact ⟨_, hb3, G', j1, j2, j3⟩
          · exact hb.elim
      | sl => exact k2.elim
      | bor => exact k2.elim
  | _ => exact k2.elim

theorem fnOk_spec {f : FuncId} (h : fnOk P f = true) : ∃ fn, P.funcs[f]? = some fn ∧ (fn.name == "runtime.NumGoroutine") = false ∧ fn.body.isNone = false := by
  unfold fnOk at h
  split at h
  · rename_i fn hf
    simp only [Bool.and_eq_true, Bool.not_eq_true'] at h
    exact ⟨fn, hf, h.1, h.2⟩
  · cases h
/-- A function, called by its name. -/
theorem op_call (h : St c G zl s a w) {f : FuncId} {fn : Func} {as' : Array Operand} {as : List (AV × PM)} {ts : Array TypeId} (ho : o.op = .call { callee := .value (.func f), args := as', argTypes := ts }) (hf : P.funcs[f]? = some fn) (hname : (fn.name == "runtime.NumGoroutine") = false) (hb : fn.body.isNone = false)
    (hn : ∀ n, o.dst = some n → n < c.nt) (hc : chkA as'.toList as = true) (hK : awpOp P (.call o.dst f as) s K) : GoodC P c o a w K (quietA as) := by
  have hop : CallOp P c zl o a w as'.toList f none := ⟨[], by
    simp only [execOp, ho, resolve, Act.eval, Deferred.ofValue, Sem.run_bind, Sem.run_pure, Result.andThen_ok, invoke, run_enter hf hname hb]
    congr 2
    apply Array.ext'
    simp, fun _ _ _ _ => ⟨[], rfl, rfl, fun _ hx => (by cases hx)⟩⟩
  cases hm : mutOf as with
  | none => exact call_none _ h hc hm hop (fun h => h) hn hK
  | some q =>
    have hq : quietA as = false := by
      cases hq : quietA as with
      | false => rfl
      | true => rw [mut_quiet hq] at hm; cases hm
    rw [hq]
    exact call_mut h hc hm hop hn hK
/-- A function value, called. -/
theorem op_callv (h : St c G zl s a w) {x : AV} {x' : Operand} {as' : Array Operand} {as : List (AV × PM)} {ts : Array TypeId} (ho : o.op = .call { callee := .value x', args := as', argTypes := ts }) (hx : chkV x' x = true)
    (hn : ∀ n, o.dst = some n → n < c.nt) (hc : chkA as'.toList as = true) (hK : awpOp P (.callv o.dst x as) s K) : GoodC P c o a w K (quietA as) := by
  simp only [awpOp] at hK
  split at hK
  · rename_i f cs he
    obtain ⟨hf, hK⟩ := hK
    obtain ⟨fn, hf1, hf2, hf3⟩ := fnOk_spec hf
    obtain ⟨p, p1, p2, p3⟩ := av_ok h hx
    rw [he] at p1
    cases p with
    | fn g n fc =>
      simp only [C.er, X.fn.injEq] at p1
      obtain ⟨rfl, p1⟩ := p1
      have hop : CallOp P c zl o a w as'.toList g (some x) := ⟨(List.range n).map fun j => (fc j).val, by
        simp only [execOp, ho, resolve, ← p2, C.val, Deferred.ofValue, Sem.run_bind, Sem.run_pure, Result.andThen_ok, invoke, run_enter hf1 hf2 hf3]
        congr 2
        apply Array.ext'
        simp, fun {G2 s2 zb'} h2 hb hG hi => by
        simp only [capsIs] at hi
        split at hi
        · rename_i g' cs' he'
          subst hi
          obtain ⟨l, l1, l2, l3⟩ := caps_ok h2 hb hG hx he'
          refine ⟨l, l1, ?_, l3⟩
          rw [← p2] at l2
          simp only [C.val, Value.func.injEq, true_and] at l2
          exact (Array.mk.injEq _ _ ▸ l2 : _).symm
        · exact hi.elim⟩
      cases hm : mutOf as with
      | none => exact call_none _ h hc hm hop (fun h => h) hn hK
      | some q =>
        have hq : quietA as = false := by
          cases hq : quietA as with
          | false => rfl
          | true => rw [mut_quiet hq] at hm; cases hm
        rw [hq]
        exact call_mut h hc hm hop hn hK
    | _ => simp [C.er] at p1
  · exact hK.elim
end
end M
set_option linter.unusedVariables false
set_option linter.unusedSimpArgs false
namespace M
open Go Go.RowKit
variable [Bs]
section
variable {P : Program} {c : Ctx} {G : Nat → C} {zl : Nat → Nat → Prop} {s : Slots} {a : Act} {w : World} {o : Oper} {K : Slots → Prop}
theorem solid_plain {x : C} (hc : x.cell) (hs : M.solid x.er = true) : x.plain := by
  cases x <;> first | trivial | exact hc | (simp [C.er, M.solid] at hs)
theorem plain_bare {x : C} (h : x.plain) : x.bare := by
  cases x <;> first | trivial | exact h.elim
theorem solidL_mem {l : List X} (h : solidL l = true) : ∀ x ∈ l, M.solid x = true := by
  induction l with
  | nil => intro x hx; cases hx
  | cons a l ih =>
    simp only [solidL, Bool.and_eq_true] at h
    intro x hx
    rcases List.mem_cons.1 hx with rfl | hx
    · exact h.1
    · exact ih h.2 x hx
theorem MV_quiet : ∀ {l' : List Operand} {l : List (AV × PM)}, chkA l' l = true → quietA l = true → MV a l' l (l.map fun _ => .dead undef)
  | [], [], _, _ => trivial
  | x' :: l', (x, .bor) :: l, hc, hq => MV_quiet (l' := l') (l := l) (by simp only [chkA, Bool.and_eq_true] at hc; exact hc.2) hq
  | x' :: l', (x, .bptr n) :: l, hc, hq => MV_quiet (l' := l') (l := l) (by simp only [chkA, Bool.and_eq_true] at hc; exact hc.2) hq
  | x' :: l', (x, .mv) :: l, hc, hq => by cases hq
  | x' :: l', (x, .mut _) :: l, hc, hq => by cases hq
  | [], _ :: _, hc, _ => by cases hc
  | _ :: _, [], hc, _ => by cases hc
theorem call_back (h : St c G zl s a w) {x' : Operand} {l' : List Operand} {x : AV} {as : List (AV × PM)} (hx : chkV x' x = true) (hc : chkA l' as = true) (hq : quietA as = true) {f : FuncId} (hop : CallOp P c zl o a w (x' :: l') f none) (hn : ∀ n, o.dst = some n → n < c.nt) (hK : awpOp P (.callA o.dst f x as) s K) : GoodC P c o a w K false := by
  obtain ⟨p, p1, p2, p3⟩ := av_ok h hx
  simp only [awpOp] at hK
  rw [← p1] at hK
  cases p with
  | agg n f0 =>
    have per : (C.agg n f0).er = .agg (((List.range n).map f0).map C.er) := by simp only [C.er, List.map_map]; rfl
    rw [per] at hK
    simp only at hK
    obtain ⟨k1, k3⟩ := hK
    have hcells : ∀ c' ∈ (List.range n).map f0, OpCell w zl c.zb G c' := fun c' hc' => by
      obtain ⟨j, hj, rfl⟩ := List.mem_map.1 hc'
      have hj' : j < n := by simpa using hj
      exact ⟨(p3.ok.1 j hj').1, (p3.ok.1 j hj').2, fun b k hf => p3.nofp b k ⟨j, hj', hf⟩, fun v r p e => weak_of (by rw [← e]; exact p3.rf j hj')⟩
    obtain ⟨l0, G1, e1, e2, e3, e4, e5⟩ := takeL_ok _ G s h.inv hcells
    obtain ⟨capV, hrun, hcaps⟩ := hop.run
    have h1 := tookL_st h e4
    rw [← e1] at k1 k3
    have hzb : ∀ b k, c.zb b k → (c.zb b k ∨ ∃ t, (G1 t).fp b k) := fun b k hz => .inl hz
    have hzG : ∀ t b k, (G1 t).fp b k → (c.zb b k ∨ ∃ t, (G1 t).fp b k) := fun t b k hf => .inr ⟨t, hf⟩
    obtain ⟨l, q1, q2, q3⟩ := hcaps h1 hzb hzG trivial
    have hl0 : l = [] := by simpa [capsOf] using q1
    subst hl0
    have hcap : capV = [] := by simpa using q2.symm
    subst hcap
    obtain ⟨csR, r1, r2, r3, r4⟩ := args_ok h1 hzb hzG (y := .dead undef) trivial trivial hc (MV_quiet hc hq) (fun x hx => by
      obtain ⟨_, _, rfl⟩ := List.mem_map.1 hx
      exact ⟨trivial, trivial, fun b k hf => hf.elim⟩) (apart_of fun x hx => by
      obtain ⟨_, _, rfl⟩ := List.mem_map.1 hx
      exact fun b k hf => hf) (fun i x n x' hi _ => by
        exfalso
        have hno := mut_quiet hq
        have : ∀ {l : List (AV × PM)} {i : Nat}, l[i]? = some (x, PM.mut n) → mutOf l ≠ none := by
          intro l
          induction l with
          | nil => intro i hi; simp at hi
          | cons y l ih =>
            intro i hi
            obtain ⟨y, pm⟩ := y
            cases i with
            | zero =>
              simp only [List.getElem?_cons_zero, Option.some.injEq, Prod.mk.injEq] at hi
              obtain ⟨_, rfl⟩ := hi
              simp [mutOf]
            | succ i =>
              have := ih (by simpa using hi)
              cases pm <;> simp [mutOf] <;> first | exact this | skip
        exact this hi hno)
    have hnoR : ∀ x ∈ csR, ∀ b k, ¬ x.fp b k := fun x hx b k hf => by
      rcases (r3 x hx).2.2 b k hf with ⟨m, hm, hh⟩ | ⟨hh, _⟩
      · obtain ⟨_, _, rfl⟩ := List.mem_map.1 hm
        exact hh
      · rw [mut_quiet hq] at hh; cases hh
    have hyl : l0.length = n := by have := congrArg List.length e2; simpa using this
    have hyfp : ∀ b k, (aggL l0).fp b k → ∃ m ∈ l0, m.fp b k := fun b k hf => (aggL_fp _ _ _).1 hf
    have hpl : ∀ x ∈ l0, x.ok w (Zf zl fun b k => c.zb b k ∨ ∃ t, (G1 t).fp b k) := fun x hx => C.ok_mono (fun m b k hz => by
      cases m with
      | own => exact hz
      | sl => exact hz
      | bor => exact hz.imp id .inl) _ (e4.all x hx).1
    have hA : ArgsOk w zl (fun b k => c.zb b k ∨ ∃ t, (G1 t).fp b k) (aggL l0 :: csR) := {
      ok := fun x hx => by
        rcases List.mem_cons.1 hx with rfl | hx
        · exact ⟨fun j hj => ⟨C.plain_cell (e3 _ (getD_mem hj _)), hpl _ (getD_mem hj _)⟩, fun j hj b k hf j' hj' hne => pairwise_getD e4.apart _ hj hj' hne hf⟩
        · exact (r3 x hx).1
      bare := fun x hx => by
        rcases List.mem_cons.1 hx with rfl | hx
        · exact fun j hj => plain_bare (e3 _ (getD_mem hj (C.dead undef)))
        · exact (r3 x hx).2.1
      fz := fun x hx b k hf => by
        rcases List.mem_cons.1 hx with rfl | hx
        · obtain ⟨m, hm, hf⟩ := hyfp b k hf
          exact ⟨((e4.all m hm).2.2.1 b k hf).1, fun hz => hz.elim ((e4.all m hm).2.2.1 b k hf).2 fun ⟨t, ht⟩ => (e4.all m hm).2.1 t b k hf ht⟩
        · exact (hnoR x hx b k hf).elim
      zin := fun b k hz => by
        rcases hz with hz | hz | ⟨t, ht⟩
        · exact e4.inv.zin b k (.inl hz)
        · exact e4.inv.zin b k (.inr hz)
        · exact C.fp_lt _ (e4.inv.ok t) b k ht
      apart := List.pairwise_cons.2 ⟨fun x hx b k _ hf => hnoR x hx b k hf, apart_of hnoR⟩ }
    have hcalls := k3 w zl _ (aggL l0 :: csR) (by
      rw [List.map_cons, r1, aggL_er]
      simp only [List.map_map]
      rfl) hA (h1.glob _ fun b k hz => .inl hz)
    have hyval : (aggL l0).val = a.eval x' := by rw [aggL_val, e2, ← p2]; simp only [C.val, List.map_map]; rfl
    have hvals : (aggL l0 :: csR).map C.val = (x' :: l').map a.eval ++ [] := by rw [List.map_cons, hyval, r2]; simp
    rw [hvals] at hcalls
    refine ⟨f, _, hrun, hcalls.mono ?_⟩
    rintro e w' ⟨r, ps, zl', hD, hk⟩
    have hin : ∀ b k, zl' b k → b < w'.heap.size := fun b k hz => hD.all.zin b k (.inl hz)
    have hmG : ∀ b k, (∃ m ∈ l0, m.fp b k) → (∀ t, ¬ (G1 t).fp b k) ∧ ¬ zl b k ∧ ¬ c.zb b k := fun b k ⟨m, hm, hf⟩ => ⟨fun t => (e4.all m hm).2.1 t b k hf, (e4.all m hm).2.2.1 b k hf⟩
    have hAd : ∀ b k, (∃ x ∈ aggL l0 :: csR, x.fp b k) → ∃ m ∈ l0, m.fp b k := fun b k ⟨x, hx, hf⟩ => by
      rcases List.mem_cons.1 hx with rfl | hx
      · exact hyfp b k hf
      · exact (hnoR x hx b k hf).elim
    have hz2' : ∀ b k, zl' b k → zl b k ∨ (∃ m ∈ l0, m.fp b k) ∨ w.heap.size ≤ b := fun b k hz => (hD.zl2 b k hz).imp id fun hh => hh.imp (hAd b k) id
    have hi := e4.inv.back1 hD.ext (fun b k hs => hmG b k (hAd b k hs)) hD.zl1 (fun b k hz => ⟨hin b k hz, fun t hf => by
      rcases hz2' b k hz with hz | hm | hb
      · exact (e4.inv.fz t b k hf).1 hz
      · exact (hmG b k hm).1 t hf
      · have := C.fp_lt _ (e4.inv.ok t) b k hf; omega⟩)
    have hmd : ∀ b k, (∃ m ∈ l0, m.fp b k) → ∃ t, (G t).fp b k := fun b k ⟨m, hm, hf⟩ => (e4.all m hm).2.2.2 b k hf
    have hpd : ∀ x ∈ r :: ps, ∀ b k, x.fp b k → (∃ m ∈ l0, m.fp b k) ∨ w.heap.size ≤ b := fun x hx b k hf => (hD.dom x hx b k hf).imp (hAd b k) id
    have hpG : ∀ x ∈ r :: ps, ∀ t b k, x.fp b k → ¬ (G1 t).fp b k := fun x hx t b k hf hf' => by
      rcases hpd x hx b k hf with hm | hb
      · exact (hmG b k hm).1 t hf'
      · have := C.fp_lt _ (e4.inv.ok t) b k hf'; omega
    have hpz : ∀ x ∈ r :: ps, ∀ b k, x.fp b k → ¬ zl' b k ∧ ¬ c.zb b k := fun x hx b k hf => ⟨(hD.all.fz x hx b k hf).1, fun hz => by
      rcases hpd x hx b k hf with hm | hb
      · exact (hmG b k hm).2.2 hz
      · have := e4.inv.zin b k (.inr hz); omega⟩
    cases ps with
    | nil => exact hk.elim
    | cons p0 ps =>
      cases p0 with
      | agg n0 g0 =>
        simp only [List.map_cons, C.er] at hk
        obtain ⟨j1, s', j2, j3⟩ := hk
        have hp0 : (C.agg n0 g0) ∈ r :: C.agg n0 g0 :: ps := List.mem_cons_of_mem _ (List.mem_cons_self ..)
        have hv0 : (C.agg n0 g0).val = (C.agg n f0).val := by
          have := congrArg List.head? hD.vals
          simp only [List.map_cons, List.head?_cons, Option.some.injEq] at this
          rw [this, hyval, p2]
        simp only [C.val, Value.agg.injEq, Array.mk.injEq, List.toArray_inj] at hv0
        have hnn : n0 = n := by have := congrArg List.length hv0; simpa using this
        subst hnn
        have hok0 := hD.all.ok _ hp0
        have hfpin : ∀ y ∈ (List.range n0).map g0, ∀ b k, y.fp b k → (C.agg n0 g0).fp b k := fun y hy b k hf => by
          obtain ⟨j, hj, rfl⟩ := List.mem_map.1 hy
          exact ⟨j, by simpa using hj, hf⟩
        rw [show ((List.range n0).map fun j => (g0 j).er) = ((List.range n0).map g0).map C.er by simp only [List.map_map]; rfl] at j1 j2
        obtain ⟨G2, g1, g2, g3⟩ := backL_ok ((List.range n0).map f0) ((List.range n0).map g0) hi (by simp) (fun v r p hm => e5 v r p ((hcells _ hm).weak v r p rfl)) (fun i cc y hi1 hi2 => by
          have hy : y ∈ (List.range n0).map g0 := List.mem_of_getElem? hi2
          obtain ⟨j, hj, rfl⟩ := List.mem_map.1 hy
          have hj' : j < n0 := by simpa using hj
          refine ⟨solid_plain (hok0.1 j hj').1 (solidL_mem j1 _ (List.mem_map_of_mem hy)), ?_, C.ok_mono (fun m b k hz => by
            cases m with
            | own => exact hz
            | sl => exact hz
            | bor => exact hz.imp id fun h => h.elim) _ (hok0.1 j hj').2⟩
          have := congrArg (fun t : List Value => t[i]?) hv0
          rw [show ((List.range n0).map fun j => (g0 j).val) = ((List.range n0).map g0).map C.val by simp only [List.map_map]; rfl, show ((List.range n0).map fun j => (f0 j).val) = ((List.range n0).map f0).map C.val by simp only [List.map_map]; rfl, List.getElem?_map (l := (List.range n0).map g0), List.getElem?_map (l := (List.range n0).map f0), hi1, hi2] at this
          simpa using this) (fun y hy => ⟨fun t b k hf => hpG _ hp0 t b k (hfpin y hy b k hf), fun b k hf => hpz _ hp0 b k (hfpin y hy b k hf)⟩) (by
          rw [List.pairwise_map]
          refine List.Pairwise.imp_of_mem ?_ List.nodup_range
          intro i j hi hj hne b k hf
          exact hok0.2 i (by simpa using hi) b k hf j (by simpa using hj) hne) j2
        have hyd : ∀ b k, (∃ y ∈ (List.range n0).map g0, y.fp b k) → (∃ m ∈ l0, m.fp b k) ∨ w.heap.size ≤ b := fun b k ⟨y, hy, hf⟩ => hpd _ hp0 b k (hfpin y hy b k hf)
        have h2 : St c G2 zl' s' a w' := h.after g1 (fun t => (g2 t).trans (e4.val t)) hD.ext (fun b k hs => hmd b k (hAd b k hs)) (fun t b k hf => by
          rcases g3 t b k hf with hh | hh
          · exact .inl ⟨t, e4.mono t b k hh⟩
          · exact (hyd b k hh).imp (hmd b k) id) hD.zl1 (fun b k hz => (hz2' b k hz).imp id fun hh => hh.imp (hmd b k) id)
        have hr : r ∈ r :: C.agg n0 g0 :: ps := List.mem_cons_self ..
        obtain ⟨G3, h3⟩ := h2.result (x := r) o.dst hn (hD.all.ok r hr) (hD.all.bare r hr) (fun t b k hf hf' => by
            rcases g3 t b k hf' with hh | ⟨y, hy, hh⟩
            · exact hpG r hr t b k hf hh
            · exact (List.pairwise_cons.1 hD.all.apart).1 _ (List.mem_cons_self ..) b k hf (hfpin y hy b k hh)) (hpz r hr) (fun b k hf => by
            rcases hpd r hr b k hf with hm | hb
            · obtain ⟨t, ht⟩ := hmd b k hm
              exact h.tr.dom t b k ht
            · exact .inr (Nat.le_trans h.tr.ext.size hb))
        exact ⟨r.val, hD.ends, fun hqq => by (cases hqq), G3, zl', _, j3, h3⟩
      | _ => exact hk.elim
  | _ => exact hK.elim
theorem op_callA (h : St c G zl s a w) {f : FuncId} {fn : Func} {as' : Array Operand} {x : AV} {x' : Operand} {l' : List Operand} {as : List (AV × PM)} {ts : Array TypeId} (ho : o.op = .call { callee := .value (.func f), args := as', argTypes := ts }) (hl : as'.toList = x' :: l') (hf : P.funcs[f]? = some fn) (hname : (fn.name == "runtime.NumGoroutine") = false) (hb : fn.body.isNone = false)
    (hn : ∀ n, o.dst = some n → n < c.nt) (hx : chkV x' x = true) (hc : chkA l' as = true) (hq : quietA as = true) (hK : awpOp P (.callA o.dst f x as) s K) : GoodC P c o a w K false := by
  have hop : CallOp P c zl o a w (x' :: l') f none := ⟨[], by
    simp only [execOp, ho, resolve, Act.eval, Deferred.ofValue, Sem.run_bind, Sem.run_pure, Result.andThen_ok, invoke, run_enter hf hname hb]
    rw [← hl]
    congr 2
    apply Array.ext'
    simp, fun _ _ _ _ => ⟨[], rfl, rfl, fun _ hx => (by cases hx)⟩⟩
  exact call_back h hx hc hq hop hn hK
end
end M
