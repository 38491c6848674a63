/- A machine of values for loaded Go functions, sound for the calculus of calls; part 3; no conditions. -/
import Derived.Test.YtcpbpjanigljcaaGreatDoorMb
import Derived.Lib.SliceRun
import Derived.Laws.Cover3
import Derived.Test.YtcpbpjanigljcaaGreatDoorMa
import Derived.Sort.Grow
import Derived.Deep.Draws
import Derived.Lib.LaidTab
import Derived.MakeChecks
import Derived.Laws.BitsLemmas
import Derived.ChangeArms
import Derived.ChangeReads
import Derived.ChangeOld
import Derived.ChangeShapes
import Derived.SizedLaws
import Derived.RowKit
import Derived.Below
import Derived.Lib.ItoaNum
set_option linter.unusedSectionVars false
set_option linter.unusedVariables false
set_option linter.unusedSimpArgs false
namespace M
open Go Go.RowKit
variable [Bs]
section
variable {P : Program} {ops : Array Oper} {Q : Exit → Act → World → Prop}
/-- Any order of a region; of some operations it is known that they change no old cell. -/
def wpAnyQ (P : Program) (ops : Array Oper) (quiet : Nat → Bool) (Q : Exit → Act → World → Prop) : Nat → Array Bool → Act → World → Prop
  | 0, listed, a, w => Region.ready .any ops listed = [] ∧ Q .normal a w
  | fuel + 1, listed, a, w => (Region.ready .any ops listed = [] → Q .normal a w) ∧
    ∀ i ∈ Region.ready .any ops listed, wpOp P ops Q i (fun a' w' => Rel (quiet i) w w' ∧ wpAnyQ P ops quiet Q fuel (listed.setIfInBounds i true) a' w') a w
theorem wpAnyQ.any {quiet : Nat → Bool} : ∀ {fuel : Nat} {listed : Array Bool} {a : Act} {w : World}, wpAnyQ P ops quiet Q fuel listed a w → wpAny P .any ops Q fuel listed a w
  | 0, _, _, _, h => h
  | fuel + 1, _, _, _, h => ⟨h.1, fun i hi => wpOp_mono (fun _ _ h => h.2.any) (h.2 i hi)⟩
/-- What an operation comes to, in every later world with the old cells in it. -/
def Later (P : Program) (ops : Array Oper) (o : Oper) (v : Value) (a : Act) (w : World) : Prop :=
  (Region.wanted o (yielded ops a.tmps) = true ∧ ∀ w', Ext (fun _ _ => False) w w' → (execOp a.eval o).run P w' = .ok (.value v) w') ∨
  (Region.wanted o (yielded ops a.tmps) = false ∧ v = undef)
theorem Later.wpOp {i : Nat} {o : Oper} {v : Value} {a : Act} {w : World} (hi : ops[i]? = some o) (hy : Later P ops o v a w) {K : Act → World → Prop} (h : K (a.put o.dst v) w) : wpOp P ops Q i K a w := by
  unfold Go.wpOp
  simp only [hi]
  rcases hy with ⟨hw, hv⟩ | ⟨hw, rfl⟩
  · simp only [hw, if_true, Oper.wp, hv w (Ext.refl _ _), Oper.upon]; exact .inl h
  · simp only [hw, Bool.false_eq_true, if_false]; exact h
/-- The same operation: the same operands, the same guard. -/
def Same (ops : Array Oper) (o : Oper) (a a' : Act) : Prop := execOp a'.eval o = execOp a.eval o ∧ Region.wanted o (yielded ops a'.tmps) = Region.wanted o (yielded ops a.tmps)
theorem Later.same {o : Oper} {v : Value} {a a' : Act} {w w' : World} (hy : Later P ops o v a w) (h : Same ops o a a') (hE : Ext (fun _ _ => False) w w') : Later P ops o v a' w' := by
  unfold Later
  rw [h.1, h.2]
  exact hy.imp (fun hh => ⟨hh.1, fun w2 h2 => hh.2 w2 (hE.trans h2 fun _ _ h _ => h)⟩) id
theorem wpOp_swap {j : Nat} {oi oj : Oper} {v : Value} (hj : ops[j]? = some oj) (hap : oi.apart ops oj = true) (hsi : ∀ cs b, oi.op ≠ .select cs b) (hsj : ∀ cs b, oj.op ≠ .select cs b)
    (hQ : ∀ c a w, Q (.panic c) (a.put oi.dst v) w → Q (.panic c) a w) {K : Act → World → Prop} {a : Act} {w : World} (h : wpOp P ops Q j K (a.put oi.dst v) w) :
    wpOp P ops Q j (fun a' w' => Same ops oi a a' ∧ K (a'.put oi.dst v) w') a w := by
  obtain ⟨h1, h2, h3⟩ := Oper.apart_spec hap
  have keep : ∀ u, Same ops oi a (a.put oj.dst u) := fun u => ⟨execOp_put oi hsi a oj.dst u h3, wanted_put oi a oj.dst u h3⟩
  have put : ∀ u, (a.put oj.dst u).put oi.dst v = (a.put oi.dst v).put oj.dst u := fun u => (Act.put_comm a v u h2).symm
  unfold Go.wpOp at *
  simp only [hj] at *
  rw [wanted_put oj a oi.dst v h1] at h
  by_cases hw : Region.wanted oj (yielded ops a.tmps) = true
  · rw [if_pos hw] at h ⊢
    have hexec : execOp (a.put oi.dst v).eval oj = execOp a.eval oj := execOp_put oj hsj a oi.dst v h1
    refine h.imp (fun h => ?_) fun h => ⟨?_, h.2⟩
    · unfold Oper.wp at *
      rw [hexec] at h
      generalize (execOp a.eval oj).run P w = r at h ⊢
      match r, h with
      | .ok (.value u) w', h => exact ⟨keep u, by rw [put]; exact h⟩
      | .ok .skip w', h => exact ⟨keep _, by rw [put]; exact h⟩
      | .ok (.defer d) w', h =>
        refine ⟨by
          have k := keep undef
          unfold Act.put at *
          cases hd : oj.dst <;> rw [hd] at k <;> exact ⟨k.1, k.2⟩, ?_⟩
        have h' : K (({ a.put oi.dst v with defers := d :: (a.put oi.dst v).defers } : Act).put oj.dst undef) w' := h
        rw [Act.put_defers, Act.put_comm _ v undef h2] at h'
        exact h'
      | .ok (.enter f args) w', h =>
        refine Calls.mono h fun e w'' he => ?_
        match e, he with
        | .returned u, he => exact ⟨keep u, by rw [put]; exact he⟩
        | .panicked c, he => exact hQ _ _ _ he
        | .outgrown, he => exact he
      | .ok (.row row args) w', h => exact Rows.mono h fun u w'' he => ⟨keep u, by rw [put]; exact he⟩
      | .halt (.panic u) w', h => exact hQ _ _ _ h
    · have := h.1
      unfold Oper.asks at this ⊢
      rwa [hexec] at this
  · rw [if_neg hw] at h ⊢
    exact ⟨keep _, by rw [put]; exact h⟩
/-- What is listed is closed: whatever it waits for is listed too. -/
def Down (ops : Array Oper) (listed : Array Bool) : Prop := ∀ k ok, ops[k]? = some ok → listed.getD k false = true → ∀ e ∈ ok.after, Region.binds .any e = true → listed.getD e.on false = true
/-- A table of who waits for whom, by any number of steps, is right. -/
def chkReach (ops : Array Oper) (t : Nat → Nat → Bool) : Bool := (List.range ops.size).all fun j => (List.range ops.size).all fun i => !t j i || (match ops[j]? with
  | some oj => oj.after.any fun e => Region.binds .any e && (e.on == i || (decide (e.on < j) && t e.on i))
  | none => false)
theorem reach_spec {t : Nat → Nat → Bool} (hc' : chkReach ops t = true) {listed : Array Bool} (hd : Down ops listed) {i : Nat} (hi : listed.getD i false = false) : ∀ (n j : Nat), j < n → j < ops.size → i < ops.size → (∀ oj, ops[j]? = some oj → ∀ e ∈ oj.after, Region.binds .any e = true → listed.getD e.on false = true) → t j i = false
  | 0, j, hj, _, _, _ => by omega
  | n + 1, j, hj, hjs, his, hall => by
    cases ht : t j i with
    | false => rfl
    | true =>
      exfalso
      have hc := hc'
      simp only [chkReach, List.all_eq_true, List.mem_range] at hc
      have h1 := hc j hjs i his
      rw [ht] at h1
      simp only [Bool.not_true, Bool.false_or] at h1
      split at h1
      · rename_i oj hoj
        obtain ⟨e, he, hb⟩ := Array.any_eq_true'.1 h1
        simp only [Bool.and_eq_true, Bool.or_eq_true, beq_iff_eq, decide_eq_true_eq] at hb
        have hl := hall oj hoj e he hb.1
        rcases hb.2 with h2 | ⟨h2, h3⟩
        · rw [h2, hi] at hl; cases hl
        · have := reach_spec hc' hd hi n e.on (by omega) (by omega) his (fun oe hoe e' he' hb' => hd e.on oe hoe hl e' he' hb')
          rw [this] at h3; cases h3
      · cases h1
theorem Down.set {listed : Array Bool} (h : Down ops listed) {j : Nat} {oj : Oper} (hj : ops[j]? = some oj) (hall : ∀ e ∈ oj.after, Region.binds .any e = true → listed.getD e.on false = true) : Down ops (listed.setIfInBounds j true) := by
  intro k ok hk hl e he hb
  by_cases hjk : j = k
  · subst hjk
    rw [hj] at hk
    injection hk with hk
    subst hk
    exact getD_set_true (hall e he hb)
  · rw [getD_set_ne false hjk] at hl
    exact getD_set_true (h k ok hk hl e he hb)
theorem wpAnyQ_first {quiet : Nat → Bool} {i : Nat} {oi : Oper} {v : Value} (hi : ops[i]? = some oi) (hsel : ∀ (j : Nat) (o : Oper) cs b, ops[j]? = some o → o.op ≠ .select cs b) (hQ : ∀ c a w, Q (.panic c) (a.put oi.dst v) w → Q (.panic c) a w) {t : Nat → Nat → Bool} (hreach : chkReach ops t = true) :
    ∀ (fuel : Nat) (listed : Array Bool) (a : Act) (w : World),
      Down ops listed → (∀ j oj, ops[j]? = some oj → j ≠ i → listed.getD j true = false → t j i = false → oi.apart ops oj = true ∧ quiet j = true) →
      i ∈ Region.ready .any ops listed → Later P ops oi v a w →
      wpAnyQ P ops quiet Q fuel (listed.setIfInBounds i true) (a.put oi.dst v) w → wpAnyQ P ops quiet Q (fuel + 1) listed a w := by
  intro fuel
  induction fuel with
  | zero =>
    intro listed a w _ _ hr hy H
    refine ⟨fun h => (by rw [h] at hr; cases hr), fun j hj => ?_⟩
    by_cases hji : j = i
    · subst hji; exact hy.wpOp hi ⟨Rel.refl _ _, H⟩
    · have := ready_mono hj hji
      rw [H.1] at this
      cases this
  | succ fuel ih =>
    intro listed a w hdown hfree hr hy H
    refine ⟨fun h => (by rw [h] at hr; cases hr), fun j hj => ?_⟩
    by_cases hji : j = i
    · subst hji; exact hy.wpOp hi ⟨Rel.refl _ _, H⟩
    · have h1 := H.2 j (ready_mono hj hji)
      obtain ⟨hjun, oj, hoj, hall⟩ := mem_ready.1 hj
      have hi0 : listed.getD i false = false := by
        have h0 := (mem_ready.1 hr).1
        rcases Nat.lt_or_ge i listed.size with h' | h'
        · simpa [h'] using h0
        · simp [Array.getElem?_eq_none h']
      have hnot : t j i = false := reach_spec hreach hdown hi0 (j + 1) j (by omega) (Array.getElem?_eq_some_iff.1 hoj).1 (Array.getElem?_eq_some_iff.1 hi).1 (fun oj' hoj' e he hb => by
        rw [hoj] at hoj'
        injection hoj' with hoj'
        rw [← hoj'] at he
        exact hall e he hb)
      obtain ⟨hap, hqu⟩ := hfree j oj hoj hji hjun hnot
      have h2 := wpOp_swap hoj hap (fun cs b => hsel i oi cs b hi) (fun cs b => hsel j oj cs b hoj) hQ h1
      have hfree' : ∀ k ok, ops[k]? = some ok → k ≠ i → (listed.setIfInBounds j true).getD k true = false →
          t k i = false → oi.apart ops ok = true ∧ quiet k = true := fun k ok hk hki hun hno => by
        refine hfree k ok hk hki ?_ hno
        by_cases hjk : j = k
        · subst hjk; exact hjun
        · rw [getD_set_ne true hjk] at hun; exact hun
      refine wpOp_mono (fun a' w' ⟨hsame, hrel, h3⟩ => ⟨hrel, ih (listed.setIfInBounds j true) a' w' (hdown.set hoj hall) hfree' (ready_mono hr (Ne.symm hji)) (hy.same hsame (hrel hqu)) ?_⟩) h2
      rw [Array.setIfInBounds_comm _ _ hji]
      exact h3
end
end M
set_option linter.unusedVariables false
set_option linter.unusedSimpArgs false
namespace M
open Go Go.RowKit
variable [Bs]
def slU (P : Program) (t : TypeId) : Option TypeId := match P.underlying t with
  | some (.slice e) => some e
  | _ => none
def isStr (P : Program) (t : TypeId) : Bool := match P.underlying t with
  | some .string => true
  | _ => false
def isBoolT (P : Program) (t : TypeId) : Bool := match P.underlying t with
  | some .bool => true
  | _ => false
def isInt (P : Program) (t : TypeId) (k : IntKind) : Bool := match P.underlying t with
  | some (.int k') => decide (k' = k)
  | _ => false
def hasSz (P : Program) (t : TypeId) (n : Nat) : Bool := match P.info? t with
  | some i => decide (i.size = n)
  | none => false
def aggD : TypeDesc → Bool
  | .struct _ => true
  | .array _ _ => true
  | _ => false
def isAgg' (P : Program) (t : TypeId) (b : Bool) : Bool := match P.underlying t with
  | some d => aggD d == b
  | none => false
section
variable {P : Program} {t : TypeId}
theorem slU_spec {e : TypeId} (h : slU P t = some e) : P.underlying t = some (.slice e) := by
  unfold slU at h
  split at h
  · rename_i e' he; injection h with h; subst h; exact he
  · cases h
theorem isStr_spec (h : isStr P t = true) : P.underlying t = some .string := by
  unfold isStr at h
  split at h
  · assumption
  · cases h
theorem isBoolT_spec (h : isBoolT P t = true) : P.underlying t = some .bool := by
  unfold isBoolT at h
  split at h
  · assumption
  · cases h
theorem isInt_spec {k : IntKind} (h : isInt P t k = true) : P.underlying t = some (.int k) := by
  unfold isInt at h
  split at h
  · rename_i k' hk; rw [hk, of_decide_eq_true h]
  · cases h
theorem hasSz_spec {n : Nat} (h : hasSz P t n = true) : ∃ i, P.info? t = some i ∧ i.size = n := by
  unfold hasSz at h
  split at h
  · rename_i i hi; exact ⟨i, hi, of_decide_eq_true h⟩
  · cases h
theorem isAgg_spec {b : Bool} (h : isAgg' P t b = true) : ∃ dd, P.underlying t = some dd ∧ (match dd with | .struct _ => true | .array _ _ => true | _ => false) = b := by
  unfold isAgg' at h
  split at h
  · rename_i d hd
    refine ⟨d, hd, ?_⟩
    rw [beq_iff_eq] at h
    rw [← h]
    cases d <;> rfl
  · cases h
end
def dstIs (nt : Nat) (o : Oper) (d : Nat) : Bool := (match o.dst with | some d' => d' == d | none => false) && decide (d < nt)
theorem dstIs_spec {nt : Nat} {o : Oper} {d : Nat} (h : dstIs nt o d = true) : o.dst = some d ∧ d < nt := by
  simp only [dstIs, Bool.and_eq_true, decide_eq_true_eq] at h
  refine ⟨?_, h.2⟩
  have := h.1
  split at this
  · rename_i d' hd; rw [hd]; simpa using this
  · cases this

/-- The operations that only read. -/
def readK : AOp → Bool
  | .mv _ _ | .pick _ _ _ _ | .un _ _ _ | .bin _ _ _ _ | .beq _ _ _ _ | .aeq _ _ _ _ _ | .nilq _ _ _ | .conv _ _ _ | .text _ _ | .load _ _ _ _ | .chk _ _ | .fadr _ _ _ | .fld _ _ _ _ _ | .iadr _ _ _ _ | .sidx _ _ _ | .aidx _ _ _ _ _ _
  | .ext _ _ _ | .sslice _ _ _ _ | .rslice _ _ _ _ _ | .mkfn _ _ _ | .len _ _ | .slen _ _ | .mn _ _ | .mx _ _ | .lmv _ _ _ _ _ => true
  | _ => false
/-- The operations that change no old cell. -/
def quietK : AOp → Bool
  | .asg _ _ _ | .box _ _ _ | .new _ _ | .make _ _ _ _ _ | .bytes _ _ | .lit _ _ _ _ | .build _ _ _ _ => true
  | .call _ _ as => quietA as
  | .callv _ _ as => quietA as
  | x => readK x

/-- Is this operation what the small language says? -/
def chkR (P : Program) (nt : Nat) (o : Oper) : AOp → Bool
  | .mv d x => dstIs nt o d && (match o.op with | .move x' => chkV x' x | .assign x' => chkV x' x | _ => false)
  | .pick d c a b => dstIs nt o d && (match o.op with | .pick c' a' b' => chkV c' c && chkV a' a && chkV b' b | _ => false)
  | .un d op x => dstIs nt o d && (match o.op with | .unOp op' _ x' => decide (op' = op) && chkV x' x | _ => false)
  | .bin d op x y => dstIs nt o d && (match o.op with | .binOp op' _ x' y' _ => decide (op' = op) && chkV x' x && chkV y' y | _ => false)
  | .beq d neg x y => dstIs nt o d && (match o.op with | .binOp op' ty x' y' _ => decide (op' = bif neg then .neq else .eql) && isBoolT P ty && chkV x' x && chkV y' y | _ => false)
  | .nilq d neg x => dstIs nt o d && (match o.op with | .binOp op' ty x' (.const (.slice none 0 0)) _ => decide (op' = bif neg then .neq else .eql) && (slU P ty).isSome && chkV x' x | _ => false)
  | .aeq d neg ks x y => dstIs nt o d && (match o.op with | .binOp op' ty x' y' _ => decide (op' = bif neg then .neq else .eql) && flatT P ty ks && chkV x' x && chkV y' y | _ => false)
  | .conv d k x => dstIs nt o d && (match o.op with | .convert src dst x' => (P.underlying src).isSome && isInt P dst k && chkV x' x | _ => false)
  | .text d x => dstIs nt o d && (match o.op with | .convert src dst x' => (match slU P src with | some el => isInt P el .u8 && isStr P dst && chkV x' x | none => false) | _ => false)
  | .load d sz agg x => dstIs nt o d && (match o.op with | .load ty x' => hasSz P ty sz && isAgg' P ty agg && (agg || decide (sz = 1)) && chkV x' x | _ => false)
  | .lmv d fz sz agg x => dstIs nt o d && (match o.op with | .load ty x' => hasSz P ty sz && isAgg' P ty agg && (agg || decide (sz = 1)) && chkV x' x | _ => false)
  | .chk d x => dstIs nt o d && (match o.op with | .nilCheck x' => chkV x' x | _ => false)
  | .fadr d x off => dstIs nt o d && (match o.op with | .fieldAddr ty x' fi => (match P.underlying ty with | some (.struct fs) => (match fs[fi]? with | some f => decide (f.offset = off) && !hasSz P f.type 0 && (P.info? f.type).isSome && chkV x' x | none => false) | _ => false) | _ => false)
  | .fld d x off sz agg => dstIs nt o d && (match o.op with | .field ty x' fi => (match P.underlying ty with | some (.struct fs) => (match fs[fi]? with | some f => decide (f.offset = off) && hasSz P f.type sz && isAgg' P f.type agg && (agg || decide (sz = 1)) && chkV x' x | none => false) | _ => false) | _ => false)
  | .iadr d sz x y => dstIs nt o d && (match o.op with | .indexAddr ty x' y' => (match slU P ty with | some el => hasSz P el sz && decide (0 < sz) && chkV x' x && chkV y' y | none => false) | _ => false)
  | .sidx d x y => dstIs nt o d && (match o.op with | .index ty x' y' => isStr P ty && chkV x' x && chkV y' y | _ => false)
  | .aidx d n sz agg x y => dstIs nt o d && (match o.op with | .index ty x' y' => (match P.underlying ty with | some (.array n' el) => decide (n' = n) && hasSz P el sz && isAgg' P el agg && (agg || decide (sz = 1)) && chkV x' x && chkV y' y | _ => false) | _ => false)
  | .ext d x i => dstIs nt o d && (match o.op with | .extract x' i' => i' == i && chkV x' x | _ => false)
  | .sslice d x lo hi => dstIs nt o d && (match o.op with | .slice ty x' lo' hi' none => isStr P ty && chkV x' x && chkO lo' lo && chkO hi' hi | _ => false)
  | .rslice d sz x lo hi => dstIs nt o d && (match o.op with | .slice ty x' lo' hi' none => (match slU P ty with | some el => hasSz P el sz && chkV x' x && chkO lo' lo && chkO hi' hi | none => false) | _ => false)
  | .mkfn d f cs => dstIs nt o d && (match o.op with | .makeFunc (.func f') fs cs' => f' == f && fs.toList.isEmpty && chkL cs'.toList cs | _ => false)
  | .len d x => dstIs nt o d && (match o.op with | .call ⟨.builtin .len, as, ts⟩ => (match as.toList, ts.toList with | [x'], [ty] => (slU P ty).isSome && chkV x' x | _, _ => false) | _ => false)
  | .slen d x => dstIs nt o d && (match o.op with | .call ⟨.builtin .len, as, ts⟩ => (match as.toList, ts.toList with | [x'], [ty] => isStr P ty && chkV x' x | _, _ => false) | _ => false)
  | .mn d [x, y] => dstIs nt o d && (match o.op with | .call ⟨.builtin .min, as, _⟩ => (match as.toList with | [x', y'] => chkV x' x && chkV y' y | _ => false) | _ => false)
  | .mx d [x, y] => dstIs nt o d && (match o.op with | .call ⟨.builtin .max, as, _⟩ => (match as.toList with | [x', y'] => chkV x' x && chkV y' y | _ => false) | _ => false)
  | _ => false
section
variable {P : Program} {c : Ctx} {G : Nat → C} {zl : Nat → Nat → Prop} {s : Slots} {a : Act} {w : World} {o : Oper} {K : Slots → Prop}
theorem guard_slice (op : BinOp) (ty : TypeId) (p q : Operand) (a b : Option Addr) (l m n k : Nat) : eqGuard op ty p q (.slice a l m) (.slice b n k) = pure () := by unfold eqGuard; cases op <;> rfl
theorem rowCells_pos {sz len : Nat} {e : Nat → Nat → C} (h : rowCells (rowX sz len e) = true) : 0 < len ∧ 0 < sz := by
  unfold rowX at h
  cases len with
  | zero => cases h
  | succ len =>
    cases sz with
    | zero => rw [List.range_succ_eq_map] at h; cases h
    | succ sz => exact ⟨Nat.succ_pos _, Nat.succ_pos _⟩
theorem op_nilq (h : St c G zl s a w) {d : Nat} {neg : Bool} {ty ty' : TypeId} {e : TypeId} {x : AV} {x' : Operand} (ho : o.op = .binOp (bif neg then .neq else .eql) ty x' (.const (.slice none 0 0)) ty') (ht : P.underlying ty = some (.slice e)) (hd : o.dst = some d) (hn : d < c.nt) (hx : chkV x' x = true)
    (hK : awpOp P (.nilq d neg x) s K) : GoodR P c o a w K := by
  obtain ⟨p, p1, p2, p3⟩ := av_ok h hx
  simp only [awpOp] at hK
  split at hK
  · rename_i m z xs h1
    rw [← p1] at h1
    obtain ⟨A, len, cap, f, rfl, hxs⟩ := er_row h1
    have hb : rowCells xs = true → (A.map fun q => (⟨q.1, q.2.1, q.2.2⟩ : Addr)).isNone = false := fun hc => by
      rw [hxs] at hc
      obtain ⟨h1, h2⟩ := rowCells_pos hc
      obtain ⟨g, o', hA, _⟩ := p3.ok.2.1 0 0 h1 h2
      rw [hA]; rfl
    have hK' := hK _ hb
    obtain ⟨nb, hnb⟩ : ∃ nb, (A.map fun q => (⟨q.1, q.2.1, q.2.2⟩ : Addr)).isNone = nb := ⟨_, rfl⟩
    rw [hnb] at hK'
    have hc : a.eval (.const (.slice none 0 0)) = .slice none 0 0 := rfl
    refine good_flat h hd hn (x := .bool (xor neg nb)) trivial (fun _ _ _ _ _ _ e => (by cases e)) trivial (fun w' _ => ?_) hK'
    cases neg
    · simp only [execOp, ho, hc, ← p2, C.val, guard_slice, Sem.run_bind, Sem.run_pure, Result.andThen_ok, cond_false, Lib.run_eql_slice_nil w' ty e _ _ _ _ _ ht, Bool.false_bne, hnb]
    · simp only [execOp, ho, hc, ← p2, C.val, guard_slice, Sem.run_bind, Sem.run_pure, Result.andThen_ok, cond_true, run_neq_slice_nil w' ty e _ _ _ ht, Bool.true_bne, hnb]
  · exact hK.elim
theorem or_spec {b : Bool} {n m : Nat} (h : (b || decide (n = m)) = true) : b = true ∨ n = m := by simpa using h
theorem toList1 {α : Type} {xs : Array α} {x : α} (h : xs.toList = [x]) : xs = #[x] := Array.ext' h
theorem toList2 {α : Type} {xs : Array α} {x y : α} (h : xs.toList = [x, y]) : xs = #[x, y] := Array.ext' h
theorem chkR_sound (h : St c G zl s a w) {x : AOp} (hc : chkR P c.nt o x = true) (hK : awpOp P x s K) : GoodR P c o a w K := by
  unfold chkR at hc
  split at hc
  · simp only [Bool.and_eq_true] at hc
    obtain ⟨hd, hn⟩ := dstIs_spec hc.1
    have hc := hc.2
    split at hc
    · rename_i ho; exact op_mv h (.inl ho) hd hn hc hK
    · rename_i ho; exact op_mv h (.inr ho) hd hn hc hK
    · cases hc
  · simp only [Bool.and_eq_true] at hc
    obtain ⟨hd, hn⟩ := dstIs_spec hc.1
    have hc := hc.2
    split at hc
    · rename_i ho
      simp only [Bool.and_eq_true] at hc
      exact op_pick h ho hd hn hc.1.1 hc.1.2 hc.2 hK
    · cases hc
  · simp only [Bool.and_eq_true] at hc
    obtain ⟨hd, hn⟩ := dstIs_spec hc.1
    have hc := hc.2
    split at hc
    · rename_i ho
      simp only [Bool.and_eq_true, decide_eq_true_eq] at hc
      obtain ⟨rfl, hx⟩ := hc
      exact op_un h ho hd hn hx hK
    · cases hc
  · simp only [Bool.and_eq_true] at hc
    obtain ⟨hd, hn⟩ := dstIs_spec hc.1
    have hc := hc.2
    split at hc
    · rename_i ho
      simp only [Bool.and_eq_true, decide_eq_true_eq] at hc
      obtain ⟨⟨rfl, hx⟩, hy⟩ := hc
      exact op_bin h ho hd hn hx hy hK
    · cases hc
  · simp only [Bool.and_eq_true] at hc
    obtain ⟨hd, hn⟩ := dstIs_spec hc.1
    have hc := hc.2
    split at hc
    · rename_i ho
      simp only [Bool.and_eq_true, decide_eq_true_eq] at hc
      obtain ⟨⟨⟨rfl, ht⟩, hx⟩, hy⟩ := hc
      exact op_beq h ho (isBoolT_spec ht) hd hn hx hy hK
    · cases hc
  · simp only [Bool.and_eq_true] at hc
    obtain ⟨hd, hn⟩ := dstIs_spec hc.1
    have hc := hc.2
    split at hc
    · rename_i ho
      simp only [Bool.and_eq_true, decide_eq_true_eq] at hc
      obtain ⟨⟨rfl, ht⟩, hx⟩ := hc
      obtain ⟨el, ht⟩ := Option.isSome_iff_exists.1 ht
      exact op_nilq h ho (slU_spec ht) hd hn hx hK
    · cases hc
  · simp only [Bool.and_eq_true] at hc
    obtain ⟨hd, hn⟩ := dstIs_spec hc.1
    have hc := hc.2
    split at hc
    · rename_i ho
      simp only [Bool.and_eq_true, decide_eq_true_eq] at hc
      obtain ⟨⟨⟨rfl, ht⟩, hx⟩, hy⟩ := hc
      exact op_aeq h ho ht hd hn hx hy hK
    · cases hc
  · simp only [Bool.and_eq_true] at hc
    obtain ⟨hd, hn⟩ := dstIs_spec hc.1
    have hc := hc.2
    split at hc
    · rename_i ho
      simp only [Bool.and_eq_true] at hc
      obtain ⟨⟨hs, ht⟩, hx⟩ := hc
      obtain ⟨sd, hs⟩ := Option.isSome_iff_exists.1 hs
      exact op_conv h ho hs (isInt_spec ht) hd hn hx hK
    · cases hc
  · simp only [Bool.and_eq_true] at hc
    obtain ⟨hd, hn⟩ := dstIs_spec hc.1
    have hc := hc.2
    split at hc
    · rename_i ho
      split at hc
      · rename_i el hel
        simp only [Bool.and_eq_true] at hc
        exact op_text h ho (slU_spec hel) (isInt_spec hc.1.1) (isStr_spec hc.1.2) hd hn hc.2 hK
      · cases hc
    · cases hc
  · simp only [Bool.and_eq_true] at hc
    obtain ⟨hd, hn⟩ := dstIs_spec hc.1
    have hc := hc.2
    split at hc
    · rename_i ho
      simp only [Bool.and_eq_true] at hc
      exact op_load h ho (hasSz_spec hc.1.1.1) (isAgg_spec hc.1.1.2) (or_spec hc.1.2) hd hn hc.2 hK
    · cases hc
  · simp only [Bool.and_eq_true] at hc
    obtain ⟨hd, hn⟩ := dstIs_spec hc.1
    have hc := hc.2
    split at hc
    · rename_i ho
      simp only [Bool.and_eq_true] at hc
      exact op_lmv h ho (hasSz_spec hc.1.1.1) (isAgg_spec hc.1.1.2) (or_spec hc.1.2) hd hn hc.2 hK
    · cases hc
  · simp only [Bool.and_eq_true] at hc
    obtain ⟨hd, hn⟩ := dstIs_spec hc.1
    have hc := hc.2
    split at hc
    · rename_i ho; exact op_chk h ho hd hn hc hK
    · cases hc
  · simp only [Bool.and_eq_true] at hc
    obtain ⟨hd, hn⟩ := dstIs_spec hc.1
    have hc := hc.2
    split at hc
    · rename_i ho
      split at hc
      · rename_i fs hfs
        split at hc
        · rename_i f hf
          simp only [Bool.and_eq_true, decide_eq_true_eq, Bool.not_eq_true'] at hc
          obtain ⟨⟨⟨h1, h2⟩, h3⟩, h4⟩ := hc
          obtain ⟨i, hi⟩ := Option.isSome_iff_exists.1 h3
          refine op_fadr h ho hfs hf h1 ⟨i, hi, fun h0 => ?_⟩ hd hn h4 hK
          simp [hasSz, hi, h0] at h2
        · cases hc
      · cases hc
    · cases hc
  · simp only [Bool.and_eq_true] at hc
    obtain ⟨hd, hn⟩ := dstIs_spec hc.1
    have hc := hc.2
    split at hc
    · rename_i ho
      split at hc
      · rename_i fs hfs
        split at hc
        · rename_i f hf
          simp only [Bool.and_eq_true, decide_eq_true_eq] at hc
          obtain ⟨⟨⟨⟨h1, h2⟩, h3⟩, h4⟩, h5⟩ := hc
          exact op_fld h ho hfs hf h1 (hasSz_spec h2) (isAgg_spec h3) (or_spec h4) hd hn h5 hK
        · cases hc
      · cases hc
    · cases hc
  · simp only [Bool.and_eq_true] at hc
    obtain ⟨hd, hn⟩ := dstIs_spec hc.1
    have hc := hc.2
    split at hc
    · rename_i ho
      split at hc
      · rename_i el hel
        simp only [Bool.and_eq_true, decide_eq_true_eq] at hc
        obtain ⟨⟨⟨h1, h2⟩, h3⟩, h4⟩ := hc
        exact op_iadr h ho (slU_spec hel) (hasSz_spec h1) h2 hd hn h3 h4 hK
      · cases hc
    · cases hc
  · simp only [Bool.and_eq_true] at hc
    obtain ⟨hd, hn⟩ := dstIs_spec hc.1
    have hc := hc.2
    split at hc
    · rename_i ho
      simp only [Bool.and_eq_true] at hc
      exact op_sidx h ho (isStr_spec hc.1.1) hd hn hc.1.2 hc.2 hK
    · cases hc
  · simp only [Bool.and_eq_true] at hc
    obtain ⟨hd, hn⟩ := dstIs_spec hc.1
    have hc := hc.2
    split at hc
    · rename_i ho
      split at hc
      · rename_i n' el hel
        simp only [Bool.and_eq_true, decide_eq_true_eq] at hc
        obtain ⟨⟨⟨⟨⟨rfl, h2⟩, h3⟩, h4⟩, h5⟩, h6⟩ := hc
        exact op_aidx h ho hel (hasSz_spec h2) (isAgg_spec h3) (or_spec h4) hd hn h5 h6 hK
      · cases hc
    · cases hc
  · simp only [Bool.and_eq_true] at hc
    obtain ⟨hd, hn⟩ := dstIs_spec hc.1
    have hc := hc.2
    split at hc
    · rename_i ho
      simp only [Bool.and_eq_true, beq_iff_eq] at hc
      obtain ⟨rfl, hx⟩ := hc
      exact op_ext h ho hd hn hx hK
    · cases hc
  · simp only [Bool.and_eq_true] at hc
    obtain ⟨hd, hn⟩ := dstIs_spec hc.1
    have hc := hc.2
    split at hc
    · rename_i ho
      simp only [Bool.and_eq_true] at hc
      obtain ⟨⟨⟨h1, h2⟩, h3⟩, h4⟩ := hc
      exact op_sslice h ho (isStr_spec h1) hd hn h2 h3 h4 hK
    · cases hc
  · simp only [Bool.and_eq_true] at hc
    obtain ⟨hd, hn⟩ := dstIs_spec hc.1
    have hc := hc.2
    split at hc
    · rename_i ho
      split at hc
      · rename_i el hel
        simp only [Bool.and_eq_true] at hc
        obtain ⟨⟨⟨h1, h2⟩, h3⟩, h4⟩ := hc
        exact op_rslice h ho (slU_spec hel) (hasSz_spec h1) hd hn h2 h3 h4 hK
      · cases hc
    · cases hc
  · simp only [Bool.and_eq_true] at hc
    obtain ⟨hd, hn⟩ := dstIs_spec hc.1
    have hc := hc.2
    split at hc
    · rename_i fs cs' ho
      simp only [Bool.and_eq_true, beq_iff_eq] at hc
      obtain ⟨⟨rfl, h2⟩, h3⟩ := hc
      have hfs : fs = #[] := Array.ext' (List.isEmpty_iff.1 h2)
      subst hfs
      exact op_mkfn h ho hd hn h3 hK
    · cases hc
  · simp only [Bool.and_eq_true] at hc
    obtain ⟨hd, hn⟩ := dstIs_spec hc.1
    have hc := hc.2
    split at hc
    · rename_i as ts ho
      split at hc
      · rename_i x' ty has hts
        simp only [Bool.and_eq_true] at hc
        obtain ⟨el, hel⟩ := Option.isSome_iff_exists.1 hc.1
        rw [toList1 has, toList1 hts] at ho
        exact op_len h ho (slU_spec hel) hd hn hc.2 hK
      · cases hc
    · cases hc
  · simp only [Bool.and_eq_true] at hc
    obtain ⟨hd, hn⟩ := dstIs_spec hc.1
    have hc := hc.2
    split at hc
    · rename_i as ts ho
      split at hc
      · rename_i x' ty has hts
        simp only [Bool.and_eq_true] at hc
        rw [toList1 has, toList1 hts] at ho
        exact op_slen h ho (isStr_spec hc.1) hd hn hc.2 hK
      · cases hc
    · cases hc
  · simp only [Bool.and_eq_true] at hc
    obtain ⟨hd, hn⟩ := dstIs_spec hc.1
    have hc := hc.2
    split at hc
    · rename_i as ts ho
      split at hc
      · rename_i x' y' has
        simp only [Bool.and_eq_true] at hc
        rw [toList2 has] at ho
        exact op_mn h ho hd hn hc.1 hc.2 hK
      · cases hc
    · cases hc
  · simp only [Bool.and_eq_true] at hc
    obtain ⟨hd, hn⟩ := dstIs_spec hc.1
    have hc := hc.2
    split at hc
    · rename_i as ts ho
      split at hc
      · rename_i x' y' has
        simp only [Bool.and_eq_true] at hc
        rw [toList2 has] at ho
        exact op_mx h ho hd hn hc.1 hc.2 hK
      · cases hc
    · cases hc
  · cases hc
end
end M
set_option linter.unusedVariables false
set_option linter.unusedSimpArgs false
namespace M
open Go Go.RowKit
variable [Bs]
/-- An operation, done. -/
def Step (P : Program) (c : Ctx) (o : Oper) (a : Act) (w : World) (K : Slots → Prop) (q : Bool) : Prop :=
  (∃ v w', ((execOp a.eval o).run P w = .ok (.value v) w' ∨ ((execOp a.eval o).run P w = .ok .skip w' ∧ v = undef)) ∧ Rel q w w' ∧ ∃ G' zl' s', K s' ∧ St c G' zl' s' (a.put o.dst v) w') ∨ GoodC P c o a w K q
section
variable {P : Program} {c : Ctx} {G : Nat → C} {zl : Nat → Nat → Prop} {s : Slots} {a : Act} {w : World} {o : Oper} {K : Slots → Prop}
theorem Good.step (h : Good P c o a w K) : Step P c o a w K false := by
  obtain ⟨v, w', hr, h⟩ := h
  exact .inl ⟨v, w', hr, fun hq => by (cases hq), h⟩
theorem GoodQ.step (h : GoodQ P c o a w K) (q : Bool) : Step P c o a w K q := by
  obtain ⟨v, w', hr, hE, h⟩ := h
  exact .inl ⟨v, w', .inl hr, fun _ => hE, h⟩
theorem Step.wp {q : Bool} (h : Step P c o a w K q) (Q : Exit → Act → World → Prop) : o.wp P a w (fun a' w' => Rel q w w' ∧ ∃ G' zl' s', K s' ∧ St c G' zl' s' a' w') Q := by
  unfold Oper.wp
  rcases h with ⟨v, w', hr, hq, h⟩ | ⟨f, args, hr, hc⟩
  · rcases hr with hr | ⟨hr, rfl⟩
    · rw [hr]; exact ⟨hq, h⟩
    · rw [hr]; exact ⟨hq, h⟩
  · rw [hr]
    refine Calls.mono hc fun e w' he => ?_
    obtain ⟨v, rfl, hq, h⟩ := he
    exact ⟨hq, h⟩

def zeroIs (P : Program) (t : TypeId) (sz bytes : Nat) (z : List X) : Bool := match P.info? t with
  | some i => decide (i.size = sz) && decide (i.bytes = bytes) && (match i.zero with | some v => chkZ v.cells.toList z | none => false)
  | none => false
theorem zeroIs_spec {t : TypeId} {sz bytes : Nat} {z : List X} (h : zeroIs P t sz bytes z = true) : ∃ i v, P.info? t = some i ∧ i.size = sz ∧ i.bytes = bytes ∧ i.zero = some v ∧ chkZ v.cells.toList z = true := by
  unfold zeroIs at h
  split at h
  · rename_i i hi
    simp only [Bool.and_eq_true, decide_eq_true_eq] at h
    obtain ⟨⟨h1, h2⟩, h3⟩ := h
    split at h3
    · rename_i v hv; exact ⟨i, v, hi, h1, h2, hv, h3⟩
    · cases h3
  · cases h
def zsize (P : Program) (t : TypeId) (sz bytes : Nat) : Bool := match P.info? t with
  | some i => decide (i.size = sz) && decide (i.bytes = bytes) && (match i.zero with | some v => decide (v.cells.size = sz) | none => false)
  | none => false
theorem zsize_spec {t : TypeId} {sz bytes : Nat} (h : zsize P t sz bytes = true) : ∃ i v, P.info? t = some i ∧ i.size = sz ∧ i.bytes = bytes ∧ i.zero = some v ∧ v.cells.size = sz := by
  unfold zsize at h
  split at h
  · rename_i i hi
    simp only [Bool.and_eq_true, decide_eq_true_eq] at h
    obtain ⟨⟨h1, h2⟩, h3⟩ := h
    split at h3
    · rename_i v hv; exact ⟨i, v, hi, h1, h2, hv, of_decide_eq_true h3⟩
    · cases h3
  · cases h
def zlit (P : Program) (t : TypeId) (sz : Nat) : Bool := match P.info? t with
  | some i => decide (i.size = sz) && (match i.zero with | some v => decide (v.cells.size = sz) | none => false)
  | none => false
theorem zlit_spec {t : TypeId} {sz : Nat} (h : zlit P t sz = true) : ∃ i v, P.info? t = some i ∧ i.size = sz ∧ i.zero = some v ∧ v.cells.size = sz := by
  unfold zlit at h
  split at h
  · rename_i i hi
    simp only [Bool.and_eq_true, decide_eq_true_eq] at h
    obtain ⟨h1, h3⟩ := h
    split at h3
    · rename_i v hv; exact ⟨i, v, hi, h1, hv, of_decide_eq_true h3⟩
    · cases h3
  · cases h
def znew (P : Program) (t : TypeId) (z : List X) : Bool := match P.info? t with
  | some i => (match i.zero with | some v => chkZ v.cells.toList z | none => false)
  | none => false
theorem znew_spec {t : TypeId} {z : List X} (h : znew P t z = true) : ∃ i v, P.info? t = some i ∧ i.zero = some v ∧ chkZ v.cells.toList z = true := by
  unfold znew at h
  split at h
  · rename_i i hi
    split at h
    · rename_i v hv; exact ⟨i, v, hi, hv, h⟩
    · cases h
  · cases h
/-- A struct's places. -/
def placesOf (P : Program) (t : TypeId) : Option (List (Nat × Nat)) := match P.underlying t with
  | some (.struct fs) => fs.toList.mapM fun f => (P.info? f.type).map fun i => (f.offset, i.size)
  | some (.array n e) => (P.info? e).map fun i => (List.range n).map fun k => (k * i.size, i.size)
  | _ => none
theorem fill_wide {p q : Nat → Option (Nat × Nat)} (h : ∀ i r, p i = some r → q i = some r) : ∀ (parts : List (Nat × Value)) (cells r : Array Value), Instr.fill p cells parts = some r → Instr.fill q cells parts = some r
  | [], cells, r, hf => hf
  | (i, v) :: rest, cells, r, hf => by
    unfold Instr.fill at hf ⊢
    cases hp : p i with
    | none => rw [hp] at hf; cases hf
    | some pr =>
      rw [hp] at hf
      rw [h i pr hp]
      obtain ⟨off, size⟩ := pr
      simp only at hf ⊢
      split at hf
      · cases hf
      · rename_i hc
        rw [if_neg hc]
        exact fill_wide h rest _ r hf
theorem places_built {t : TypeId} {places : List (Nat × Nat)} (hp : placesOf P t = some places) {i : TypeInfo} (hi : P.info? t = some i) {v : Value} (hz : i.zero = some v) : ∀ parts cells, Instr.fill (fun i => places[i]?) v.cells parts = some cells → P.built t parts = some cells := by
  intro parts cells hf
  unfold placesOf at hp
  unfold Program.built
  rw [hi]
  split at hp
  · rename_i fs hfs
    rw [hfs]
    simp only [hz, hp]
    simpa using hf
  · rename_i n e he
    rw [he]
    cases hie : P.info? e with
    | none => rw [hie] at hp; cases hp
    | some ie =>
      rw [hie] at hp
      simp only [Option.map_some, Option.some.injEq] at hp
      simp only [hz, hie]
      refine fill_wide (fun k r hk => ?_) _ _ _ hf
      rw [← hp, C.map_range_get?] at hk
      split at hk
      · exact hk
      · cases hk
  · cases hp

def dstOk (nt : Nat) (o : Oper) (d : Option Nat) : Bool := match o.dst, d with
  | some d', some d => d' == d && decide (d < nt)
  | none, none => true
  | _, _ => false
theorem dstOk_spec {nt : Nat} {d : Option Nat} (h : dstOk nt o d = true) : o.dst = d ∧ ∀ n, o.dst = some n → n < nt := by
  unfold dstOk at h
  split at h
  · rename_i d' d hd
    simp only [Bool.and_eq_true, beq_iff_eq, decide_eq_true_eq] at h
    rw [hd, h.1]
    exact ⟨rfl, fun n hn => by injection hn with hn; rw [← hn]; exact h.2⟩
  · rename_i hd
    rw [hd]
    exact ⟨rfl, fun n hn => by cases hn⟩
  · cases h
def chkW (P : Program) (nt : Nat) (o : Oper) : AOp → Bool
  | .asg d h x => dstIs nt o d && (match o.op with | .assign x' => chkV x' x | _ => false)
  | .box d h x => dstIs nt o d && (match o.op with | .box _ x' => chkV x' x | _ => false)
  | .new d z => dstIs nt o d && (match o.op with | .alloc ty => znew P ty z | _ => false)
  | .make d sz bytes z n => dstIs nt o d && (match o.op with | .makeSlice ty n1 n2 => (match slU P ty with | some el => zeroIs P el sz bytes z && decide (0 < bytes) && decide (0 < sz) && decide (z.length = sz) && chkV n1 n && chkV n2 n | none => false) | _ => false)
  | .bytes d x => dstIs nt o d && (match o.op with | .convert src dst x' => (match slU P dst with | some el => isInt P el .u8 && isStr P src && chkV x' x | none => false) | _ => false)
  | .lit d h sz ps => dstIs nt o d && (match o.op with | .buildSlice ty n ps' => (match slU P ty with | some el => zlit P el sz && decide (0 < sz) && decide (ps'.toList.length = n) && decide (n * sz ≤ 16777216) && chkParts 0 ps'.toList ps | none => false) | _ => false)
  | .build d h z ps => dstIs nt o d && (match o.op with | .build ty ps' => (match placesOf P ty with | some places => znew P ty z && chkBuild places z.length ps'.toList ps | none => false) | _ => false)
  | .store sz h y x => (match o.dst with | none => true | some _ => false) && (match o.op with | .store ty y' x' => hasSz P ty sz && decide (0 < sz) && chkV x' x && chkV y' y | _ => false)
  | .app d h sz bytes x y => dstIs nt o d && (match o.op with | .call ⟨.builtin .append, as, ts⟩ => (match as.toList, ts.toList with | [x', y'], [ty, ty'] => (match slU P ty, slU P ty' with | some el, some _ => zsize P el sz bytes && decide (0 < bytes) && decide (0 < sz) && chkV x' x && chkV y' y | _, _ => false) | _, _ => false) | _ => false)
  | .call d f as => dstOk nt o d && (match o.op with | .call ⟨.value (.func f'), as', _⟩ => f' == f && fnOk P f && chkA as'.toList as | _ => false)
  | .callv d x as => dstOk nt o d && (match o.op with | .call ⟨.value x', as', _⟩ => chkV x' x && chkA as'.toList as | _ => false)
  | .clr sz z x => (match o.dst with | none => true | some _ => false) && (match o.op with | .call ⟨.builtin .clear, as, ts⟩ => (match as.toList, ts.toList with | [x'], [ty] => (match slU P ty with | some el => znew P el z && decide (z.length = sz) && decide (0 < sz) && chkV x' x | _ => false) | _, _ => false) | _ => false)
  | .callA d f x as => dstOk nt o d && (match o.op with | .call ⟨.value (.func f'), as', _⟩ => f' == f && fnOk P f && (match as'.toList with | x' :: l' => chkV x' x && chkA l' as && quietA as | [] => false) | _ => false)
  | _ => false
theorem chkW_sound (h : St c G zl s a w) {x : AOp} (hc : chkW P c.nt o x = true) (hK : awpOp P x s K) : Step P c o a w K (quietK x) := by
  unfold chkW at hc
  split at hc
  · simp only [Bool.and_eq_true] at hc
    obtain ⟨hd, hn⟩ := dstIs_spec hc.1
    have hc := hc.2
    split at hc
    · rename_i ho; exact (op_asg h ho hd hn hc hK).step _
    · cases hc
  · simp only [Bool.and_eq_true] at hc
    obtain ⟨hd, hn⟩ := dstIs_spec hc.1
    have hc := hc.2
    split at hc
    · rename_i ho; exact (op_box h ho hd hn hc hK).step _
    · cases hc
  · simp only [Bool.and_eq_true] at hc
    obtain ⟨hd, hn⟩ := dstIs_spec hc.1
    have hc := hc.2
    split at hc
    · rename_i ho
      obtain ⟨i, v, h1, h2, h3⟩ := znew_spec hc
      exact (op_new h ho h1 h2 h3 hd hn hK).step _
    · cases hc
  · simp only [Bool.and_eq_true] at hc
    obtain ⟨hd, hn⟩ := dstIs_spec hc.1
    have hc := hc.2
    split at hc
    · rename_i ho
      split at hc
      · rename_i el hel
        simp only [Bool.and_eq_true, decide_eq_true_eq] at hc
        obtain ⟨⟨⟨⟨⟨h1, h2⟩, h3⟩, h4⟩, h5⟩, h6⟩ := hc
        obtain ⟨i, v, i1, i2, i3, i4, i5⟩ := zeroIs_spec h1
        exact (op_make h ho (slU_spec hel) i1 i4 i2 i3 h2 h3 h4 i5 hd hn h5 h6 hK).step _
      · cases hc
    · cases hc
  · simp only [Bool.and_eq_true] at hc
    obtain ⟨hd, hn⟩ := dstIs_spec hc.1
    have hc := hc.2
    split at hc
    · rename_i ho
      split at hc
      · rename_i el hel
        simp only [Bool.and_eq_true] at hc
        exact (op_bytes h ho (isStr_spec hc.1.2) (slU_spec hel) (isInt_spec hc.1.1) hd hn hc.2 hK).step _
      · cases hc
    · cases hc
  · simp only [Bool.and_eq_true] at hc
    obtain ⟨hd, hn⟩ := dstIs_spec hc.1
    have hc := hc.2
    split at hc
    · rename_i ho
      split at hc
      · rename_i el hel
        simp only [Bool.and_eq_true, decide_eq_true_eq] at hc
        obtain ⟨⟨⟨⟨h1, h2⟩, h3⟩, h4⟩, h5⟩ := hc
        obtain ⟨i, v, i1, i2, i3, i4⟩ := zlit_spec h1
        exact (op_lit h ho (slU_spec hel) i1 i3 i2 h2 i4 h3 h4 hd hn h5 hK).step _
      · cases hc
    · cases hc
  · simp only [Bool.and_eq_true] at hc
    obtain ⟨hd, hn⟩ := dstIs_spec hc.1
    have hc := hc.2
    split at hc
    · rename_i ho
      split at hc
      · rename_i places hp
        simp only [Bool.and_eq_true] at hc
        obtain ⟨i, v, i1, i2, i3⟩ := znew_spec hc.1
        exact (op_build (i := i) h ho (places_built hp i1 i2) i3 hd hn hc.2 hK).step _
      · cases hc
    · cases hc
  · simp only [Bool.and_eq_true] at hc
    obtain ⟨hd, hc⟩ := hc
    have hd : o.dst = none := by
      split at hd
      · assumption
      · cases hd
    split at hc
    · rename_i ho
      simp only [Bool.and_eq_true, decide_eq_true_eq] at hc
      obtain ⟨⟨⟨h1, h2⟩, h3⟩, h4⟩ := hc
      exact (op_store h ho (hasSz_spec h1) h2 hd h3 h4 hK).step
    · cases hc
  · simp only [Bool.and_eq_true] at hc
    obtain ⟨hd, hn⟩ := dstIs_spec hc.1
    have hc := hc.2
    split at hc
    · rename_i as ts ho
      split at hc
      · rename_i x' y' ty ty' has hts
        split at hc
        · rename_i el el' hel hel'
          simp only [Bool.and_eq_true, decide_eq_true_eq] at hc
          obtain ⟨⟨⟨⟨h1, h2⟩, h3⟩, h4⟩, h5⟩ := hc
          obtain ⟨i, v, i1, i2, i3, i4, i5⟩ := zsize_spec h1
          rw [toList2 has, toList2 hts] at ho
          exact (op_app h ho (slU_spec hel) (slU_spec hel') i1 i4 i2 i3 h2 h3 i5 hd hn h4 h5 hK).step
        · cases hc
      · cases hc
    · cases hc
  · simp only [Bool.and_eq_true] at hc
    obtain ⟨hd, hc⟩ := hc
    obtain ⟨hd, hn⟩ := dstOk_spec hd
    subst hd
    split at hc
    · rename_i f' as' ts ho
      simp only [Bool.and_eq_true, beq_iff_eq] at hc
      obtain ⟨⟨rfl, h2⟩, h3⟩ := hc
      obtain ⟨fn, f1, f2, f3⟩ := fnOk_spec h2
      exact .inr (op_call h ho f1 f2 f3 hn h3 hK)
    · cases hc
  · simp only [Bool.and_eq_true] at hc
    obtain ⟨hd, hc⟩ := hc
    obtain ⟨hd, hn⟩ := dstOk_spec hd
    subst hd
    split at hc
    · rename_i x' as' ts ho
      simp only [Bool.and_eq_true] at hc
      exact .inr (op_callv h ho hc.1 hn hc.2 hK)
    · cases hc
  · simp only [Bool.and_eq_true] at hc
    obtain ⟨hd, hc⟩ := hc
    have hd : o.dst = none := by
      split at hd
      · assumption
      · cases hd
    split at hc
    · rename_i as ts ho
      split at hc
      · rename_i x' ty has hts
        split at hc
        · rename_i el hel
          simp only [Bool.and_eq_true, decide_eq_true_eq] at hc
          obtain ⟨⟨⟨h1, h2⟩, h3⟩, h4⟩ := hc
          obtain ⟨i, v, i1, i2, i3⟩ := znew_spec h1
          rw [toList1 has, toList1 hts] at ho
          exact (op_clr h ho (slU_spec hel) i1 i2 i3 h2 h3 hd h4 hK).step
        · cases hc
      · cases hc
    · cases hc
  · simp only [Bool.and_eq_true] at hc
    obtain ⟨hd, hc⟩ := hc
    obtain ⟨hd, hn⟩ := dstOk_spec hd
    subst hd
    split at hc
    · rename_i f' as' ts ho
      simp only [Bool.and_eq_true, beq_iff_eq] at hc
      obtain ⟨⟨rfl, h2⟩, h3⟩ := hc
      obtain ⟨fn, f1, f2, f3⟩ := fnOk_spec h2
      split at h3
      · rename_i x' l' hl
        simp only [Bool.and_eq_true] at h3
        exact .inr (op_callA h ho hl f1 f2 f3 hn h3.1.1 h3.1.2 h3.2 hK)
      · cases h3
    · cases hc
  · cases hc
/-- Any operation. -/
def chkOp (P : Program) (nt : Nat) (o : Oper) (x : AOp) : Bool := bif readK x then chkR P nt o x else chkW P nt o x
theorem chkOp_sound (h : St c G zl s a w) {x : AOp} (hc : chkOp P c.nt o x = true) (hK : awpOp P x s K) : Step P c o a w K (quietK x) := by
  unfold chkOp at hc
  cases hr : readK x with
  | true => rw [hr] at hc; exact (chkR_sound h hc hK).quiet.step _
  | false => rw [hr] at hc; exact chkW_sound h hc hK
end
end M
set_option linter.unusedVariables false
set_option linter.unusedSimpArgs false
namespace M
open Go Go.RowKit
variable [Bs]
section
variable {P : Program} {c : Ctx} {G : Nat → C} {zl : Nat → Nat → Prop} {s s' : Slots} {a : Act} {w : World} {K : Slots → Prop} {ops : Array Oper}
theorem St.congr (h : St c G zl s a w) (he : ∀ t, get s t = get s' t) : St c G zl s' a w :=
  { h with inv := { h.inv with er := fun t => (h.inv.er t).trans (he t) } }

/-- An operation of a region: its guard and itself. -/
def chkG (P : Program) (nt : Nat) (ops : Array Oper) (i : Nat) (g : M.G) : Bool := match ops[i]? with
  | some o => (match o.guard, g.g with
    | none, none => true
    | some (j, b), some (t, b') => b == b' && decide (t < base) && (match ops[j]? with | some oj => decide (oj.dst = some t) | none => false)
    | _, _ => false) && decide (o.dst = g.o.dst) && (match g.o.dst with | some d => decide (d < nt) | none => true) && chkOp P nt o g.o
  | none => false
/-- Where the machine may stand. -/
def Now (c : Ctx) (K : Slots → Prop) (a : Act) (w : World) : Prop := ∃ G zl s, K s ∧ St c G zl s a w

theorem yielded_of (h : St c G zl s a w) {t j : Nat} {v : Bool} (hv : get s t = .bool v) (ht : t < base) {oj : Oper} (hj : ops[j]? = some oj) (hd : oj.dst = some t) : yielded ops a.tmps j = some v := by
  have hG := h.inv.er t
  rw [hv] at hG
  have hc := er_bool hG
  have := h.val t ht
  rw [hc, C.val] at this
  unfold yielded
  simp only [hj, Option.bind_some, hd]
  rw [Array.getD_eq_getD_getElem?] at this
  cases ht : a.tmps[t]? with
  | none => rw [ht] at this; simp [undef] at this
  | some u =>
    rw [ht] at this
    simp only [Option.getD_some] at this
    rw [← this]
theorem St.unset (h : St c G zl s a w) (d : Option Nat) (hn : ∀ n, d = some n → n < c.nt) : ∃ G', St c G' zl (putD d (.tup []) s) (a.put d undef) w := by
  cases d with
  | none => exact ⟨G, h⟩
  | some n => exact h.put (x := .tup 0 fun _ => .dead undef) (hn n rfl) ⟨fun j hj => (by omega), fun j hj => (by omega)⟩ (fun _ _ b k ⟨j, hj, _⟩ => (by omega)) (fun b k ⟨j, hj, _⟩ => (by omega)) (fun j hj => (by omega)) (fun b k ⟨j, hj, _⟩ => (by omega))
theorem guard_cons {t : Nat} {v : Bool} (hv : get s t = .bool v) : ∀ u, get s u = get ((t, .bool v) :: s) u := fun u => by
  rw [get_cons]
  split
  · rename_i e; subst e; exact hv
  · rfl
theorem yielded_un (h : St c G zl s a w) {t j : Nat} (hv : get s t = .tup []) (ht : t < base) {oj : Oper} (hj : ops[j]? = some oj) (hd : oj.dst = some t) : yielded ops a.tmps j = none := by
  have hG := h.inv.er t
  rw [hv] at hG
  have hval := h.val t ht
  have : (G t).val = .tuple #[] := by
    cases hc : G t with
    | tup n f =>
      rw [hc] at hG
      simp only [C.er, X.tup.injEq, List.map_eq_nil_iff, List.range_eq_nil] at hG
      subst hG
      rfl
    | _ => rw [hc] at hG; simp [C.er] at hG
  rw [this] at hval
  unfold yielded
  simp only [hj, Option.bind_some, hd]
  rw [Array.getD_eq_getD_getElem?] at hval
  cases ht : a.tmps[t]? with
  | none => rfl
  | some u =>
    rw [ht] at hval
    simp only [Option.getD_some] at hval
    rw [← hval]
/-- One of them, done or left out. -/
theorem chkG_step {i : Nat} {g : M.G} (h : St c G zl s a w) (hc : chkG P c.nt ops i g = true) (hK : awpG P g s K) (Q : Exit → Act → World → Prop) :
    wpOp P ops Q i (fun a' w' => Rel (quietK g.o) w w' ∧ Now c K a' w') a w := by
  unfold chkG at hc
  split at hc
  · rename_i o ho
    simp only [Bool.and_eq_true, decide_eq_true_eq] at hc
    obtain ⟨⟨⟨hg, hd⟩, hn⟩, hop⟩ := hc
    unfold wpOp
    simp only [ho]
    obtain ⟨gg, go⟩ := g
    split at hg
    · rename_i h1 h2
      subst h2
      have hw : Region.wanted o (yielded ops a.tmps) = true := by simp [Region.wanted, h1]
      rw [if_pos hw]
      exact .inl ((chkOp_sound h hop hK).wp Q)
    · rename_i j b t b' h1 h2
      subst h2
      simp only [Bool.and_eq_true, beq_iff_eq, decide_eq_true_eq] at hg
      obtain ⟨⟨rfl, ht⟩, hj⟩ := hg
      split at hj
      · rename_i oj hoj
        have hj := of_decide_eq_true hj
        simp only [awpG] at hK
        split at hK
        · rename_i v hv
          have hy := yielded_of h hv ht hoj hj
          obtain ⟨k1, k2⟩ := hK
          have hwv : Region.wanted o (yielded ops a.tmps) = (v == b) := by
            simp only [Region.wanted, h1, hy]
            cases v <;> cases b <;> rfl
          rw [hwv]
          by_cases hvb : v = b
          · subst hvb
            rw [if_pos (by simp)]
            exact .inl ((chkOp_sound (h.congr (guard_cons hv)) hop (k1 rfl)).wp Q)
          · have hnb : v = !b := by cases v <;> cases b <;> first | rfl | exact absurd rfl hvb
            rw [if_neg (by simpa using hvb)]
            subst hnb
            obtain ⟨G', h'⟩ := (h.congr (guard_cons hv)).unset o.dst (fun n hnn => by
              rw [hd] at hnn
              simp only [hnn] at hn
              simpa using hn)
            rw [hd] at h' ⊢
            exact ⟨Rel.refl _ _, G', zl, _, k2 rfl, h'⟩
        · rename_i hv
          have hy := yielded_un h hv ht hoj hj
          have hwv : Region.wanted o (yielded ops a.tmps) = false := by
            simp only [Region.wanted, h1, hy]
            rfl
          rw [hwv, if_neg (by simp)]
          obtain ⟨G', h'⟩ := h.unset o.dst (fun n hnn => by
            rw [hd] at hnn
            simp only [hnn] at hn
            simpa using hn)
          rw [hd] at h' ⊢
          exact ⟨Rel.refl _ _, G', zl, _, hK, h'⟩
        · exact hK.elim
      · cases hj
    · cases hg
  · cases hc
/-- One that only reads: what it comes to, now and later. -/
theorem chkG_later {i : Nat} {g : M.G} (h : St c G zl s a w) (hc : chkG P c.nt ops i g = true) (hr : readK g.o = true) (hK : awpG P g s K) :
    ∃ o v, ops[i]? = some o ∧ Later P ops o v a w ∧ Now c K (a.put o.dst v) w := by
  unfold chkG at hc
  split at hc
  · rename_i o ho
    simp only [Bool.and_eq_true, decide_eq_true_eq] at hc
    obtain ⟨⟨⟨hg, hd⟩, hn⟩, hop⟩ := hc
    obtain ⟨gg, go⟩ := g
    unfold chkOp at hop
    simp only at hr hop
    rw [hr] at hop
    simp only [cond_true] at hop
    refine ⟨o, ?_⟩
    split at hg
    · rename_i h1 h2
      subst h2
      have hw : Region.wanted o (yielded ops a.tmps) = true := by simp [Region.wanted, h1]
      obtain ⟨v, hv, G', zl', s', k1, k2⟩ := chkR_sound h hop hK
      exact ⟨v, ho, .inl ⟨hw, hv⟩, G', zl', s', k1, k2⟩
    · rename_i j b t b' h1 h2
      subst h2
      simp only [Bool.and_eq_true, beq_iff_eq, decide_eq_true_eq] at hg
      obtain ⟨⟨rfl, ht⟩, hj⟩ := hg
      split at hj
      · rename_i oj hoj
        have hj := of_decide_eq_true hj
        simp only [awpG] at hK
        split at hK
        · rename_i v hv
          have hy := yielded_of h hv ht hoj hj
          obtain ⟨k1, k2⟩ := hK
          have hwv : Region.wanted o (yielded ops a.tmps) = (v == b) := by
            simp only [Region.wanted, h1, hy]
            cases v <;> cases b <;> rfl
          by_cases hvb : v = b
          · subst hvb
            obtain ⟨u, hu, G', zl', s', k3, k4⟩ := chkR_sound (h.congr (guard_cons hv)) hop (k1 rfl)
            exact ⟨u, ho, .inl ⟨by rw [hwv]; simp, hu⟩, G', zl', s', k3, k4⟩
          · have hnb : v = !b := by cases v <;> cases b <;> first | rfl | exact absurd rfl hvb
            subst hnb
            obtain ⟨G', h'⟩ := (h.congr (guard_cons hv)).unset o.dst (fun n hnn => by
              rw [hd] at hnn
              simp only [hnn] at hn
              simpa using hn)
            refine ⟨undef, ho, .inr ⟨by rw [hwv]; simp, rfl⟩, G', zl, _, k2 rfl, ?_⟩
            rw [hd] at h' ⊢
            exact h'
        · rename_i hv
          have hy := yielded_un h hv ht hoj hj
          have hwv : Region.wanted o (yielded ops a.tmps) = false := by
            simp only [Region.wanted, h1, hy]
            rfl
          obtain ⟨G', h'⟩ := h.unset o.dst (fun n hnn => by
            rw [hd] at hnn
            simp only [hnn] at hn
            simpa using hn)
          refine ⟨undef, ho, .inr ⟨hwv, rfl⟩, G', zl, _, hK, ?_⟩
          rw [hd] at h' ⊢
          exact h'
        · exact hK.elim
      · cases hj
    · cases hg
  · cases hc

/-- What the code's ends come to. -/
def Conc (c : Ctx) (Q : Ex → Slots → Prop) : Exit → Act → World → Prop
  | .normal, a, w => Now c (Q .normal) a w
  | .exit id, a, w => Now c (Q (.exit id)) a w
  | .ret, a, w => Now c (Q .ret) a w
  | _, _, _ => False

def chkGs (P : Program) (nt : Nat) (ops : Array Oper) : Nat → List M.G → Bool
  | k, [] => decide (k = ops.size)
  | k, g :: l => chkG P nt ops k g && chkGs P nt ops (k + 1) l
theorem ops_sound {Q : Ex → Slots → Prop} : ∀ (l : List M.G) (k : Nat) {G : Nat → C} {zl : Nat → Nat → Prop} {s : Slots} {a : Act} {w : World}, chkGs P c.nt ops k l = true → St c G zl s a w → awpOps P l s Q → wpOps P ops (Conc c Q) (List.range' k l.length) a w
  | [], k, G, zl, s, a, w, hc, h, hK => ⟨G, zl, s, hK, h⟩
  | g :: l, k, G, zl, s, a, w, hc, h, hK => by
    simp only [chkGs, Bool.and_eq_true] at hc
    rw [List.length_cons, List.range'_succ, wpOps_cons]
    refine wpOp_mono (fun a' w' ⟨_, G', zl', s', k1, k2⟩ => ?_) (chkG_step h hc.1 hK (Conc c Q))
    exact ops_sound l (k + 1) hc.2 k2 k1
theorem chkGs_len : ∀ (l : List M.G) (k : Nat), chkGs P c.nt ops k l = true → k + l.length = ops.size
  | [], k, h => by simpa [chkGs] using h
  | g :: l, k, h => by
    simp only [chkGs, Bool.and_eq_true] at h
    have := chkGs_len l (k + 1) h.2
    simp only [List.length_cons]
    omega
theorem region_sound {Q : Ex → Slots → Prop} {l : List M.G} {id : Nat} (hc : chkGs P c.nt ops 0 l = true) (h : St c G zl s a w) (hK : awpOps P l s Q) : (Code.region id ops false).wp P (Conc c Q) a w := by
  refine wp_region ?_
  have hl := chkGs_len l 0 hc
  rw [List.range_eq_range', ← hl, Nat.zero_add]
  exact ops_sound l 0 hc h hK

theorem get_keep (ks0 : List Nat) (s : Slots) (t : Nat) : ∀ ks : List Nat, get (ks.map fun k => (k, (get s k).only ks0)) t = if ks.contains t then (get s t).only ks0 else .dead
  | [] => rfl
  | k :: ks => by
    simp only [List.map_cons, get]
    by_cases h : k = t
    · subst h
      simp
    · have h1 : (k == t) = false := by simpa using h
      have h2 : (k :: ks).contains t = ks.contains t := by
        simp only [List.contains_cons]
        have : (t == k) = false := by simpa using fun e => h e.symm
        rw [this, Bool.false_or]
      rw [h1, h2, cond_false]
      exact get_keep ks0 s t ks
/-- All but these slots is forgotten. -/
theorem St.keep (h : St c G zl s a w) (ks : List Nat) : ∃ G', St c G' zl (M.keep ks s) a w := by
  let G' : Nat → C := fun t => if ks.contains t then (G t).cutOff (C.others ks) else .dead (G t).val
  have hin : ∀ t, ks.contains t = true → G' t = (G t).cutOff (C.others ks) := fun t ht => if_pos ht
  have hout : ∀ t, ks.contains t = false → G' t = .dead (G t).val := fun t ht => if_neg (by rw [ht]; simp)
  have hv : ∀ t, (G' t).val = (G t).val := fun t => by
    cases ht : ks.contains t with
    | true => rw [hin t ht, C.off_val]
    | false => rw [hout t ht]; rfl
  have hfp : ∀ t b k, (G' t).fp b k → (G t).fp b k := fun t b k hf => by
    cases ht : ks.contains t with
    | true => rw [hin t ht, C.off_fp] at hf; exact hf
    | false => rw [hout t ht] at hf; exact hf.elim
  refine ⟨G', h.move ⟨fun t => ?_, fun t => ?_, fun t u hne b k hf hf' => h.inv.sep t u hne b k (hfp t b k hf) (hfp u b k hf'), fun t b k hf => h.inv.fz t b k (hfp t b k hf), fun t => ?_, h.inv.zin⟩ hv (Ext.refl (fun _ _ => False) w) (fun _ _ hs => hs.elim) (fun t b k hf => .inl ⟨t, hfp t b k hf⟩)⟩
  · unfold M.keep
    rw [get_keep]
    cases ht : ks.contains t with
    | true => rw [hin t ht, C.only_er, h.inv.er]; rfl
    | false => rw [hout t ht]; rfl
  · cases ht : ks.contains t with
    | true => rw [hin t ht]; exact C.off_ok _ _ (h.inv.ok t)
    | false => rw [hout t ht]; trivial
  · cases ht : ks.contains t with
    | true =>
      rw [hin t ht]
      refine C.rf_of (C.others ks) (fun s' q y hk hs => ?_) _ (C.off_free _ _) (C.off_rf _ _ (h.inv.rf t))
      have hs' : ks.contains s' = true := by simpa [C.others] using hk
      rw [hin s' hs']
      rcases C.self y _ q hs with ⟨z, hz, hs2⟩ | hno
      · exact .inl ⟨_, hz.off _, C.off_sub _ q _ _ (h.inv.ok s') hs2⟩
      · exact .inr hno
    | false => rw [hout t ht]; trivial

/-! ### Regions of no fixed order -/
def DT.heads : DT → List Nat
  | .nil _ => []
  | .step i _ _ => [i]
  | .alt a b => a.heads ++ b.heads
  | .kp _ t => t.heads
def DT.quiet : DT → Nat → Bool
  | .nil _, _ => true
  | .step i g t, j => (if i = j then quietK g.o else true) && t.quiet j
  | .alt a b, j => a.quiet j && b.quiet j
  | .kp _ t, j => t.quiet j
def freeQ (ops : Array Oper) (q : Nat → Bool) (t : Nat → Nat → Bool) (listed : Array Bool) (i : Nat) : Bool := match ops[i]? with
  | some oi => (List.range ops.size).all fun j => j == i || listed.getD j true || t j i || (q j && (match ops[j]? with
    | some oj => oi.apart ops oj
    | none => true))
  | none => false
def chkT (P : Program) (nt : Nat) (ops : Array Oper) (q : Nat → Bool) (bf : Nat → Nat → Bool) : DT → Nat → Array Bool → Bool → Bool
  | .nil _, _, listed, alt => !alt && decide (Region.ready .any ops listed = [])
  | .step i g t, fuel, listed, alt => (match fuel with
    | 0 => false
    | fuel + 1 => chkG P nt ops i g && (!q i || quietK g.o) && (alt || decide (Region.ready .any ops listed = [i]) || (readK g.o && (Region.ready .any ops listed).contains i && freeQ ops q bf listed i)) && chkT P nt ops q bf t fuel (listed.setIfInBounds i true) false)
  | .alt a b, fuel, listed, alt => (alt || decide (Region.ready .any ops listed = a.heads ++ b.heads)) && chkT P nt ops q bf a fuel listed true && chkT P nt ops q bf b fuel listed true
  | .kp _ t, fuel, listed, alt => chkT P nt ops q bf t fuel listed alt
theorem freeQ_spec {q : Nat → Bool} {t : Nat → Nat → Bool} {listed : Array Bool} {i : Nat} {oi : Oper} (hi : ops[i]? = some oi) (h : freeQ ops q t listed i = true) (j : Nat) (oj : Oper) (hj : ops[j]? = some oj) (hne : j ≠ i) (hun : listed.getD j true = false) (hno : t j i = false) : oi.apart ops oj = true ∧ q j = true := by
  simp only [freeQ, hi, List.all_eq_true, List.mem_range] at h
  have h1 := h j (Array.getElem?_eq_some_iff.1 hj).1
  simp only [hj, Bool.or_eq_true, beq_iff_eq, hne, false_or, hun, Bool.false_eq_true, hno, Bool.and_eq_true] at h1
  exact ⟨h1.2, h1.1⟩
theorem tree_sound {q : Nat → Bool} {bf : Nat → Nat → Bool} (hreach : chkReach ops bf = true) (hns : Region.noSelect ops = true) {Q : Ex → Slots → Prop} : ∀ (t : DT) (fuel : Nat) (listed : Array Bool) {G : Nat → C} {zl : Nat → Nat → Prop} {s : Slots} {a : Act} {w : World}, Down ops listed → St c G zl s a w → awpD P t s Q →
    (chkT P c.nt ops q bf t fuel listed false = true → wpAnyQ P ops q (Conc c Q) fuel listed a w) ∧
    ((∀ i ∈ t.heads, i ∈ Region.ready .any ops listed) → chkT P c.nt ops q bf t fuel listed true = true → ∃ f, fuel = f + 1 ∧ ∀ i ∈ t.heads, wpOp P ops (Conc c Q) i (fun a' w' => Rel (q i) w w' ∧ wpAnyQ P ops q (Conc c Q) f (listed.setIfInBounds i true) a' w') a w)
  | .nil ks, fuel, listed, G, zl, s, a, w, hdn, h, hK => by
    obtain ⟨G', h'⟩ := h.keep ks
    constructor
    · intro hc
      simp only [chkT, Bool.not_false, Bool.true_and, decide_eq_true_eq] at hc
      cases fuel with
      | zero => exact ⟨hc, G', zl, _, hK, h'⟩
      | succ f => exact ⟨fun _ => ⟨G', zl, _, hK, h'⟩, by rw [hc]; intro i hi; cases hi⟩
    · intro _ hc
      simp [chkT] at hc
  | .step i g t, fuel, listed, G, zl, s, a, w, hdn, h, hK => by
    cases fuel with
    | zero => exact ⟨fun hc => by simp [chkT] at hc, fun _ hc => by simp [chkT] at hc⟩
    | succ f =>
      have hset : i ∈ Region.ready .any ops listed → Down ops (listed.setIfInBounds i true) := fun hr => by
        obtain ⟨_, o, ho, hall⟩ := mem_ready.1 hr
        exact hdn.set ho hall
      have one : i ∈ Region.ready .any ops listed → chkT P c.nt ops q bf t f (listed.setIfInBounds i true) false = true → chkG P c.nt ops i g = true → (q i = true → quietK g.o = true) →
          wpOp P ops (Conc c Q) i (fun a' w' => Rel (q i) w w' ∧ wpAnyQ P ops q (Conc c Q) f (listed.setIfInBounds i true) a' w') a w := fun hrdy ht hg hq =>
        wpOp_mono (fun a' w' ⟨hr, G', zl', s', k1, k2⟩ => ⟨fun hqi => hr (hq hqi), (tree_sound hreach hns t f _ (hset hrdy) k2 k1).1 ht⟩) (chkG_step h hg hK (Conc c Q))
      constructor
      · intro hc
        have hc0 := hc
        simp only [chkT, Bool.and_eq_true, Bool.or_eq_true, decide_eq_true_eq, Bool.false_eq_true, false_or] at hc
        obtain ⟨⟨⟨hg, hq⟩, hr⟩, ht⟩ := hc
        have hq' : q i = true → quietK g.o = true := fun hqi => by rw [hqi] at hq; simpa using hq
        rcases hr with hr | ⟨⟨hr, hrd⟩, hfq⟩
        · refine ⟨fun h0 => (by rw [hr] at h0; cases h0), fun j hj => ?_⟩
          rw [hr, List.mem_singleton] at hj
          subst hj
          exact one (by rw [hr]; exact List.mem_singleton.2 rfl) ht hg hq'
        · obtain ⟨o, v, ho, hl, G', zl', s', k1, k2⟩ := chkG_later h hg hr hK
          have hrdy : i ∈ Region.ready .any ops listed := by simpa using hrd
          exact wpAnyQ_first ho (Region.noSelect_spec hns) (fun _ _ _ hh => hh.elim) hreach f listed a w hdn (fun j oj hj hne hun hno => freeQ_spec ho hfq j oj hj hne hun hno) hrdy hl ((tree_sound hreach hns t f _ (hset hrdy) k2 k1).1 ht)
      · intro hheads hc
        have hc0 := hc
        simp only [chkT, Bool.and_eq_true, Bool.or_eq_true, decide_eq_true_eq, true_or] at hc
        obtain ⟨⟨⟨hg, hq⟩, _⟩, ht⟩ := hc
        have hq' : q i = true → quietK g.o = true := fun hqi => by rw [hqi] at hq; simpa using hq
        refine ⟨f, rfl, fun j hj => ?_⟩
        rw [DT.heads, List.mem_singleton] at hj
        subst hj
        exact one (hheads j (List.mem_singleton.2 rfl)) ht hg hq'
  | .alt t1 t2, fuel, listed, G, zl, s, a, w, hdn, h, hK => by
    have both : (∀ i ∈ t1.heads ++ t2.heads, i ∈ Region.ready .any ops listed) → chkT P c.nt ops q bf t1 fuel listed true = true → chkT P c.nt ops q bf t2 fuel listed true = true → ∃ f, fuel = f + 1 ∧ ∀ i ∈ t1.heads ++ t2.heads, wpOp P ops (Conc c Q) i (fun a' w' => Rel (q i) w w' ∧ wpAnyQ P ops q (Conc c Q) f (listed.setIfInBounds i true) a' w') a w := fun hh h1 h2 => by
      obtain ⟨f, hf, i1⟩ := (tree_sound hreach hns t1 fuel listed hdn h hK.1).2 (fun i hi => hh i (List.mem_append_left _ hi)) h1
      obtain ⟨f', hf', i2⟩ := (tree_sound hreach hns t2 fuel listed hdn h hK.2).2 (fun i hi => hh i (List.mem_append_right _ hi)) h2
      have : f' = f := by omega
      subst this
      exact ⟨f', hf, fun i hi => (List.mem_append.1 hi).elim (i1 i) (i2 i)⟩
    constructor
    · intro hc
      simp only [chkT, Bool.and_eq_true, Bool.or_eq_true, decide_eq_true_eq, Bool.false_eq_true, false_or] at hc
      obtain ⟨⟨hr, h1⟩, h2⟩ := hc
      obtain ⟨f, rfl, hi⟩ := both (fun i hi => by rw [hr]; exact hi) h1 h2
      refine ⟨fun h0 => ?_, fun i hi' => hi i (by rw [← hr]; exact hi')⟩
      exfalso
      rw [h0] at hr
      have ne : ∀ {t : DT}, chkT P c.nt ops q bf t (f + 1) listed true = true → t.heads ≠ [] := by
        intro t
        induction t with
        | nil => intro hh; simp [chkT] at hh
        | step i g t _ => intro _ hh; cases hh
        | alt a b iha _ =>
          intro hh he
          simp only [chkT, Bool.and_eq_true] at hh
          rw [DT.heads, List.append_eq_nil_iff] at he
          exact iha hh.1.2 he.1
        | kp ks t ih => exact ih
      have := (List.append_eq_nil_iff.1 hr.symm).1
      exact ne h1 this
    · intro hheads hc
      simp only [chkT, Bool.and_eq_true, Bool.or_eq_true, decide_eq_true_eq, true_or, true_and] at hc
      exact both hheads hc.1 hc.2
  | .kp ks t, fuel, listed, G, zl, s, a, w, hdn, h, hK => by
    obtain ⟨G', h'⟩ := h.keep ks
    exact tree_sound hreach hns t fuel listed hdn h' hK
/-- Who waits for whom. -/
def waits (ops : Array Oper) (j i : Nat) : Bool := ((Region.before ops).getD j 0).testBit i
def chkDraw (P : Program) (nt : Nat) (ops : Array Oper) (t : DT) : Bool := P.follows .mixedOrders && Region.noSelect ops && chkReach ops (waits ops) && chkT P nt ops t.quiet (waits ops) t ops.size (Array.replicate ops.size false) false
theorem draw_sound {Q : Ex → Slots → Prop} {t : DT} {id : Nat} (hc : chkDraw P c.nt ops t = true) (h : St c G zl s a w) (hK : awpD P t s Q) : (Code.region id ops true).wp P (Conc c Q) a w := by
  simp only [chkDraw, Bool.and_eq_true] at hc
  obtain ⟨⟨⟨hm, hns⟩, hreach⟩, hc⟩ := hc
  refine wp_region_any hm ?_
  have hE : Ext (fun _ _ => False) w w.drew := Ext.drew w _
  have h' : St c G zl s a w.drew := h.move (h.inv.world hE fun _ _ hs => hs.elim) (fun _ => rfl) hE (fun _ _ hs => hs.elim) (fun t b k hf => .inl ⟨t, hf⟩)
  have hdn : Down ops (Array.replicate ops.size false) := fun k ok _ hl => by
    exfalso
    simp only [Array.getD_eq_getD_getElem?, Array.getElem?_replicate] at hl
    split at hl <;> simp at hl
  exact ((tree_sound hreach hns t ops.size _ hdn h' hK).1 hc).any
end
end M
set_option linter.unusedVariables false
set_option linter.unusedSimpArgs false
namespace M
open Go Go.RowKit
variable [Bs]
section
variable {P : Program} {c : Ctx} {G : Nat → C} {zl : Nat → Nat → Prop} {s s' : Slots} {a : Act} {w : World}
def chkCode (P : Program) (nt : Nat) : A → Code → Bool
  | .skip, .skip => true
  | .ret, .ret => true
  | .exit id, .exit id' => decide (id = id')
  | .ops l, .region _ ops false => chkGs P nt ops 0 l
  | .draw t, .region _ ops true => chkDraw P nt ops t
  | .seq a b, .seq x y => chkCode P nt a x && chkCode P nt b y
  | .cond c a b, .cond c' x y => chkV c' c && chkCode P nt a x && chkCode P nt b y
  | .block id b, .block id' x => decide (id = id') && chkCode P nt b x
  | .loop b, .loop x => chkCode P nt b x
  | .pk _ b, x => chkCode P nt b x
  | _, _ => false

theorem least (p : Nat → Prop) : (∃ n, p n) → ∃ m, p m ∧ ∀ k, p k → m ≤ k := by
  rintro ⟨n, hn⟩
  induction n using Nat.strongRecOn with
  | _ n ih =>
    by_cases h : ∃ k, k < n ∧ p k
    · obtain ⟨k, hk, hp⟩ := h
      exact ih k hk hp
    · exact ⟨n, hn, fun k hk => by
        rcases Nat.lt_or_ge k n with hlt | hge
        · exact (h ⟨k, hlt, hk⟩).elim
        · exact hge⟩

theorem code_sound : ∀ (t : A) (code : Code) {Q : Ex → Slots → Prop} {G : Nat → C} {zl : Nat → Nat → Prop} {s : Slots} {a : Act} {w : World}, chkCode P c.nt t code = true → St c G zl s a w → awp P t s Q → code.wp P (Conc c Q) a w := by
  intro t
  induction t with
  | skip =>
    intro code Q G zl s a w hc h hK
    unfold chkCode at hc
    cases code <;> simp at hc
    exact wp_skip ⟨G, zl, s, hK, h⟩
  | ret =>
    intro code Q G zl s a w hc h hK
    unfold chkCode at hc
    cases code <;> simp at hc
    exact wp_ret ⟨G, zl, s, hK, h⟩
  | exit id =>
    intro code Q G zl s a w hc h hK
    unfold chkCode at hc
    cases code <;> simp at hc
    subst hc
    exact wp_exit ⟨G, zl, s, hK, h⟩
  | ops l =>
    intro code Q G zl s a w hc h hK
    unfold chkCode at hc
    cases code with
    | region id os d =>
      cases d with
      | false => exact region_sound hc h hK
      | true => simp at hc
    | _ => simp at hc
  | draw t =>
    intro code Q G zl s a w hc h hK
    unfold chkCode at hc
    cases code with
    | region id os d =>
      cases d with
      | true =>
        exact draw_sound hc h hK
      | false => simp at hc
    | _ => simp at hc
  | seq x y ihx ihy =>
    intro code Q G zl s a w hc h hK
    unfold chkCode at hc
    cases code with
    | seq x' y' =>
      simp only [Bool.and_eq_true] at hc
      refine wp_seq (wp_mono (ihx x' hc.1 h hK) fun e a w he => ?_)
      cases e with
      | normal =>
        obtain ⟨G, zl, s, k, h⟩ := he
        exact ihy y' hc.2 h k
      | exit id => exact he
      | ret => exact he
      | goto l => exact he.elim
      | panic ch => exact he.elim
      | outgrown => exact he.elim
    | _ => simp at hc
  | cond cc x y ihx ihy =>
    intro code Q G zl s a w hc h hK
    unfold chkCode at hc
    cases code with
    | cond c' x' y' =>
      simp only [Bool.and_eq_true] at hc
      obtain ⟨⟨h1, h2⟩, h3⟩ := hc
      obtain ⟨d, e1, e2, e3⟩ := av_ok h h1
      simp only [awp] at hK
      split at hK
      · rename_i b hb
        rw [← e1] at hb
        have := er_bool hb
        subst this
        exact wp_cond_split (by rw [← e2]; rfl) (fun ht => ihx x' h2 h (hK.1 ht)) (fun hf => ihy y' h3 h (hK.2 hf))
      · exact hK.elim
    | _ => simp at hc
  | block id b ih =>
    intro code Q G zl s a w hc h hK
    unfold chkCode at hc
    cases code with
    | block id' x =>
      simp only [Bool.and_eq_true, decide_eq_true_eq] at hc
      obtain ⟨rfl, hc⟩ := hc
      refine wp_block (wp_mono (ih x hc h hK) fun e a w he => ?_)
      cases e with
      | normal => exact he
      | exit i =>
        obtain ⟨G, zl, s, k, h⟩ := he
        simp only at k
        show if i = id then Conc c Q .normal a w else Conc c Q (.exit i) a w
        by_cases hi : i = id
        · subst hi
          rw [if_pos rfl]
          simp only [beq_self_eq_true, cond_true] at k
          exact ⟨G, zl, s, k, h⟩
        · rw [if_neg hi]
          have : (i == id) = false := by simpa using hi
          rw [this] at k
          exact ⟨G, zl, s, k, h⟩
      | ret => exact he
      | goto l => exact he.elim
      | panic ch => exact he.elim
      | outgrown => exact he.elim
    | _ => simp at hc
  | loop b ih =>
    intro code Q G zl s a w hc h hK
    unfold chkCode at hc
    cases code with
    | loop x =>
      obtain ⟨I, ⟨n, hn⟩, hround⟩ := hK
      let J : Nat → Act → World → Prop := fun n a w => Now c (I n) a w
      have hleast := fun a w => least (fun n => J n a w)
      let μ : Act → World → Nat := fun a w => by
        classical exact if hh : ∃ n, J n a w then Classical.choose (hleast a w hh) else 0
      have hμ : ∀ a w, (∃ n, J n a w) → J (μ a w) a w ∧ ∀ k, J k a w → μ a w ≤ k := fun a w hh => by
        have hspec := Classical.choose_spec (hleast a w hh)
        have : μ a w = Classical.choose (hleast a w hh) := dif_pos hh
        rw [this]
        exact hspec
      refine wp_loop (fun a w => ∃ n, J n a w) μ ?_ fun a w hI => ?_
      · exact ⟨n, G, zl, s, hn, h⟩
      · obtain ⟨⟨G1, zl1, s1, k1, h1⟩, _⟩ := hμ a w hI
        refine wp_mono (ih x hc h1 (hround _ s1 k1)) fun e a' w' he => ?_
        cases e with
        | normal =>
          obtain ⟨G2, zl2, s2, ⟨m, hm, hI2⟩, h2⟩ := he
          have hJ : J m a' w' := ⟨G2, zl2, s2, hI2, h2⟩
          exact ⟨⟨m, hJ⟩, Nat.lt_of_le_of_lt ((hμ a' w' ⟨m, hJ⟩).2 m hJ) hm⟩
        | exit id => exact he
        | ret => exact he
        | goto l => exact he.elim
        | panic ch => exact he.elim
        | outgrown => exact he.elim
    | _ => simp at hc
  | pk ks b ih =>
    intro code Q G zl s a w hc h hK
    have hc : chkCode P c.nt b code = true := by
      cases b <;> cases code <;> first | exact hc | (rename_i d; cases d <;> exact hc)
    refine wp_mono (ih code hc h hK) fun e a w he => ?_
    cases e with
    | normal =>
      obtain ⟨G, zl, s, k, h⟩ := he
      obtain ⟨G', h'⟩ := h.keep ks
      exact ⟨G', zl, _, k, h'⟩
    | exit id => exact he
    | ret => exact he
    | goto l => exact he.elim
    | panic ch => exact he.elim
    | outgrown => exact he.elim
end
end M
set_option linter.unusedVariables false
set_option linter.unusedSimpArgs false
namespace M
open Go Go.RowKit
variable [Bs]
def startA : Nat → List X → Slots
  | _, [] => []
  | i, x :: l => (i, alias (base + i) [] x) :: startA (i + 1) l
def startB : Nat → List X → Slots
  | _, [] => []
  | i, x :: l => (base + i, x) :: startB (i + 1) l
/-- Where a function starts: its parameters' values lie apart, and the parameters point there. -/
def begins (xs : List X) : Slots := startA 0 xs ++ startB 0 xs
def X.isTup : X → Bool
  | .tup _ => true
  | _ => false
def post (x : X) : X := bif x.clean then x else .dead
/-- A result: a slot's value, or what lies in the variable that the slot points to. -/
inductive RV where
  | t (n : Nat)
  | c (n sz : Nat) (agg : Bool) (ty : TypeId)
def takesR : List RV → Slots → List X × Slots
  | [], s => ([], s)
  | .t n :: l, s => ((take .mv (opv s (.t n)) s).1 :: (takesR l (take .mv (opv s (.t n)) s).2).1, (takesR l (take .mv (opv s (.t n)) s).2).2)
  | .c n sz agg _ :: l, s => ((match get s n with
    | .ptr .own cs => if cs.length = sz then (bif agg then .agg (X.killL n [] cs) else (X.killL n [] cs).headD (.tup [])) else .tup []
    | _ => .tup []) :: (takesR l (setLoc n [] .dead s)).1, (takesR l (setLoc n [] .dead s)).2)
def resultX : List X → X
  | [x] => x
  | l => .tup l
def posts : Nat → Nat → Slots → List X
  | _, 0, _ => []
  | i, n + 1, s => post (get s (base + i)) :: posts (i + 1) n s
/-- Where a function ends: its results are taken out, its parameters are as they are. -/
def Ends (rs : List RV) (n : Nat) (Q : X → List X → Prop) : Ex → Slots → Prop
  | .exit _, _ => False
  | _, s => X.clean.cleanL (takesR rs s).1 = true ∧ (∀ x ∈ (takesR rs s).1, x.isTup = false) ∧ Q (resultX (takesR rs s).1) (posts 0 n (takesR rs s).2)

namespace C
theorem clean_bare : ∀ c : C, c.er.clean = true → c.bare
  | .ref _ _ _, h => by simp [er, X.clean] at h
  | .adr _ _ _ _ _, h => by simp [er, X.clean] at h
  | .cut _ _ _ _ _, h => by simp [er, X.clean] at h
  | .ptr m g o n c, h => fun j hj => clean_bare (c j) (by
      simp only [er, X.clean, Bool.and_eq_true] at h
      exact cleanL_all.1 h.2 _ (List.mem_map.2 ⟨j, by simpa using hj, rfl⟩))
  | .agg n c, h => fun j hj => clean_bare (c j) (by
      simp only [er, X.clean] at h
      exact cleanL_all.1 h _ (List.mem_map.2 ⟨j, by simpa using hj, rfl⟩))
  | .tup n c, h => fun j hj => clean_bare (c j) (by
      simp only [er, X.clean] at h
      exact cleanL_all.1 h _ (List.mem_map.2 ⟨j, by simpa using hj, rfl⟩))
  | .fn f n c, h => fun j hj => clean_bare (c j) (by
      simp only [er, X.clean] at h
      exact cleanL_all.1 h _ (List.mem_map.2 ⟨j, by simpa using hj, rfl⟩))
  | .dead _, _ => trivial
  | .int _ _, _ => trivial
  | .bool _, _ => trivial
  | .str _, _ => trivial
  | .row _ _ _ _ _ _, _ => trivial
variable {w : World} {zl zb : Nat → Nat → Prop}
theorem clean_ok : ∀ c : C, c.er.clean = true → c.ok w (Zf zl zb) → c.ok w (Zf zl fun _ _ => False)
  | .ref _ _ _, h, _ => by simp [er, X.clean] at h
  | .adr _ _ _ _ _, h, _ => by simp [er, X.clean] at h
  | .cut _ _ _ _ _, h, _ => by simp [er, X.clean] at h
  | .row m sz A len cap e, h, ho => by
    simp only [er, X.clean, Bool.and_eq_true] at h
    obtain ⟨h1, h2, h3, h4, h5⟩ := ho
    refine ⟨h1, fun i j hi hj => ?_, fun i j hi hj => ?_, h4, h5⟩
    · obtain ⟨g, o, q1, q2, q3⟩ := h2 i j hi hj
      refine ⟨g, o, q1, q2, fun hm => ?_⟩
      cases m with
      | own => exact (hm rfl).elim
      | sl => exact q3 hm
      | bor => simp at h
    · obtain ⟨a1, a2, a3, a4⟩ := h3 i j hi hj
      exact ⟨a1, a2, a3, clean_ok (e i j) (cleanLL_all.1 h.2 _ (List.mem_map.2 ⟨i, by simpa using hi, rfl⟩) _ (List.mem_map.2 ⟨j, by simpa using hj, rfl⟩)) a4⟩
  | .ptr m g o n c, h, ho => by
    simp only [er, X.clean, Bool.and_eq_true] at h
    obtain ⟨h1, h2, h3, h4⟩ := ho
    refine ⟨fun j hj => ?_, h2, fun j hj => ?_, h4⟩
    · obtain ⟨a1, a2, a3⟩ := h1 j hj
      refine ⟨a1, fun hm => ?_, a3⟩
      cases m with
      | own => exact (hm rfl).elim
      | sl => exact a2 hm
      | bor => simp at h
    · obtain ⟨a1, a2, a3⟩ := h3 j hj
      exact ⟨a1, a2, clean_ok (c j) (cleanL_all.1 h.2 _ (List.mem_map.2 ⟨j, by simpa using hj, rfl⟩)) a3⟩
  | .agg n c, h, ho => by
    simp only [er, X.clean] at h
    exact ⟨fun j hj => ⟨(ho.1 j hj).1, clean_ok (c j) (cleanL_all.1 h _ (List.mem_map.2 ⟨j, by simpa using hj, rfl⟩)) (ho.1 j hj).2⟩, ho.2⟩
  | .tup n c, h, ho => by
    simp only [er, X.clean] at h
    exact ⟨fun j hj => ⟨(ho.1 j hj).1, clean_ok (c j) (cleanL_all.1 h _ (List.mem_map.2 ⟨j, by simpa using hj, rfl⟩)) (ho.1 j hj).2⟩, ho.2⟩
  | .fn f n c, h, ho => fun j hj => ⟨clean_ok (c j) (by
      simp only [er, X.clean] at h
      exact cleanL_all.1 h _ (List.mem_map.2 ⟨j, by simpa using hj, rfl⟩)) (ho j hj).1, (ho j hj).2⟩
  | .dead _, _, _ => trivial
  | .int _ _, _, _ => trivial
  | .bool _, _, _ => trivial
  | .str _, _, h => h
end C
theorem get_startA (i : Nat) : ∀ (xs : List X) (r : Slots) (t : Nat), get (startA i xs ++ r) t = if i ≤ t ∧ t < i + xs.length then alias (base + t) [] (xs.getD (t - i) .dead) else get r t
  | [], r, t => by
    rw [if_neg (by simp only [List.length_nil]; omega)]; rfl
  | x :: xs, r, t => by
    simp only [startA, List.cons_append]
    rw [get_cons, get_startA (i + 1) xs]
    by_cases h : t = i
    · subst h
      rw [if_pos rfl, if_pos ⟨Nat.le_refl _, by simp only [List.length_cons]; omega⟩, Nat.sub_self]
      rfl
    · rw [if_neg h]
      by_cases h2 : i + 1 ≤ t ∧ t < i + 1 + xs.length
      · rw [if_pos h2, if_pos ⟨by omega, by simp only [List.length_cons]; omega⟩, show t - i = (t - (i + 1)) + 1 by omega]
        rfl
      · rw [if_neg h2, if_neg (by simp only [List.length_cons]; omega)]
theorem get_startB (i : Nat) : ∀ (xs : List X) (t : Nat), get (startB i xs) t = if base + i ≤ t ∧ t < base + i + xs.length then xs.getD (t - (base + i)) .dead else .dead
  | [], t => by
    rw [if_neg (by simp only [List.length_nil]; omega)]; rfl
  | x :: xs, t => by
    simp only [startB]
    rw [get_cons, get_startB (i + 1) xs]
    by_cases h : t = base + i
    · subst h
      rw [if_pos rfl, if_pos ⟨Nat.le_refl _, by simp only [List.length_cons]; omega⟩, Nat.sub_self]
      rfl
    · rw [if_neg h]
      by_cases h2 : base + (i + 1) ≤ t ∧ t < base + (i + 1) + xs.length
      · rw [if_pos h2, if_pos ⟨by omega, by simp only [List.length_cons]; omega⟩, show t - (base + i) = (t - (base + (i + 1))) + 1 by omega]
        rfl
      · rw [if_neg h2, if_neg (by simp only [List.length_cons]; omega)]
/-- Where a function stands when it starts. -/
theorem start_st {w : World} {zl zb : Nat → Nat → Prop} {cs : List C} (h : ArgsOk w zl zb cs) (hgl : Glob w zl zb) {nt : Nat} (hn : cs.length ≤ nt) (hnt : nt ≤ base) :
    ∃ G, St ⟨w, fun b k => ∃ x ∈ cs, x.fp b k, zl, zb, nt, cs.map C.val⟩ G zl (begins (cs.map C.er)) ⟨(cs.map C.val).toArray ++ Array.replicate (nt - (cs.map C.val).toArray.size) undef, []⟩ w := by
  let G : Nat → C := fun t => if t < cs.length then (cs.getD t (.dead undef)).alias (base + t) [] else if base ≤ t ∧ t < base + cs.length then cs.getD (t - base) (.dead undef) else .dead undef
  have g1 : ∀ t, t < cs.length → G t = (cs.getD t (.dead undef)).alias (base + t) [] := fun t ht => if_pos ht
  have g2 : ∀ t, t < cs.length → G (base + t) = cs.getD t (.dead undef) := fun t ht => by
    show (if _ then _ else _ : C) = _
    rw [if_neg (by omega), if_pos (by omega), Nat.add_sub_cancel_left]
  have g3 : ∀ t, ¬ t < cs.length → ¬ (base ≤ t ∧ t < base + cs.length) → G t = .dead undef := fun t h1 h2 => by
    show (if _ then _ else _ : C) = _
    rw [if_neg h1, if_neg h2]
  have hm : ∀ t, t < cs.length → cs.getD t (.dead undef) ∈ cs := fun t ht => getD_mem ht _
  have cases3 : ∀ t, (t < cs.length ∧ t < base) ∨ (∃ u, u < cs.length ∧ t = base + u) ∨ (G t = .dead undef ∧ ¬ t < cs.length ∧ ¬ (base ≤ t ∧ t < base + cs.length)) := fun t => by
    by_cases h1 : t < cs.length
    · exact .inl ⟨h1, by omega⟩
    · by_cases h2 : base ≤ t ∧ t < base + cs.length
      · exact .inr (.inl ⟨t - base, by omega, by omega⟩)
      · exact .inr (.inr ⟨g3 t h1 h2, h1, h2⟩)
  have hal : ∀ t, t < cs.length → (G t).ok w (Zf zl zb) ∧ (G t).rf G ∧ ∀ b k, ¬ (G t).fp b k := fun t ht => by
    rw [g1 t ht]
    have hx := hm t ht
    exact C.alias_all (base + t) _ (g2 t ht) (h.ok _ hx) (C.bare_rf G _ (h.bare _ hx))
  have hfp : ∀ t b k, (G t).fp b k → ∃ u, u < cs.length ∧ t = base + u ∧ (cs.getD u (.dead undef)).fp b k := fun t b k hf => by
    rcases cases3 t with ⟨h1, _⟩ | ⟨u, hu, rfl⟩ | ⟨h1, _⟩
    · exact ((hal t h1).2.2 b k hf).elim
    · rw [g2 u hu] at hf; exact ⟨u, hu, rfl, hf⟩
    · rw [h1] at hf; exact hf.elim
  refine ⟨G, ⟨⟨fun t => ?_, fun t => ?_, fun t u hne b k hf hf' => ?_, fun t b k hf => ?_, fun t => ?_, h.zin⟩, fun t ht => ?_, ?_, hnt, rfl, ⟨Ext.refl _ _, fun t b k hf => ?_, fun _ _ hz => hz, fun _ _ hz => .inl hz, hgl, fun b k hb ⟨x, hx, hf⟩ => ((hgl b hb).2 k).elim (h.fz x hx b k hf).1 (h.fz x hx b k hf).2⟩, fun i v hi => ?_⟩⟩
  · have hgd : ∀ u, (cs.map C.er).getD u .dead = (cs.getD u (.dead undef)).er := fun u => by
      rw [List.getD_eq_getElem?_getD, List.getD_eq_getElem?_getD, List.getElem?_map]
      cases cs[u]? <;> rfl
    unfold begins
    rw [get_startA, get_startB, List.length_map, hgd, hgd]
    rcases cases3 t with ⟨h1, h2⟩ | ⟨u, hu, rfl⟩ | ⟨h1, h2, h3⟩
    · rw [if_pos ⟨by omega, by omega⟩, g1 t h1, C.alias_er, Nat.sub_zero]
    · rw [if_neg (by omega), if_pos ⟨by omega, by omega⟩, g2 u hu, show base + u - (base + 0) = u by omega]
    · rw [if_neg (by omega), if_neg (by omega), h1]; rfl
  · rcases cases3 t with ⟨h1, _⟩ | ⟨u, hu, rfl⟩ | ⟨h1, _⟩
    · exact (hal t h1).1
    · rw [g2 u hu]; exact h.ok _ (hm u hu)
    · rw [h1]; trivial
  · obtain ⟨x, hx, e1, h1⟩ := hfp t b k hf
    obtain ⟨y, hy, e2, h2⟩ := hfp u b k hf'
    exact pairwise_getD h.apart _ hx hy (fun e => hne (by rw [e1, e2, e])) h1 h2
  · obtain ⟨x, hx, e1, h1⟩ := hfp t b k hf
    exact h.fz _ (hm x hx) b k h1
  · rcases cases3 t with ⟨h1, _⟩ | ⟨u, hu, rfl⟩ | ⟨h1, _⟩
    · exact (hal t h1).2.1
    · rw [g2 u hu]; exact C.bare_rf G _ (h.bare _ (hm u hu))
    · rw [h1]; trivial
  · rw [Array.getD_eq_getD_getElem?, Array.getElem?_append]
    simp only [List.size_toArray, List.length_map]
    by_cases h1 : t < cs.length
    · rw [if_pos h1, g1 t h1, C.alias_val, List.getElem?_toArray, List.getElem?_map, List.getElem?_eq_getElem h1, getD_of (List.getElem?_eq_getElem h1)]
      rfl
    · rw [if_neg h1, g3 t h1 (by omega), Array.getElem?_replicate]
      split <;> rfl
  · simp only [Array.size_append, List.size_toArray, List.length_map, Array.size_replicate]
    omega
  · obtain ⟨x, hx, e1, h1⟩ := hfp t b k hf
    exact .inl ⟨_, hm x hx, h1⟩
  · simp only [List.getElem?_map] at hi
    cases hc : cs[i]? with
    | none => rw [hc] at hi; cases hi
    | some x =>
      rw [hc] at hi
      injection hi with hi
      have hlt := (List.getElem?_eq_some_iff.1 hc).1
      rw [g2 i hlt, getD_of hc, hi]
end M
set_option linter.unusedVariables false
set_option linter.unusedSimpArgs false
namespace M
open Go Go.RowKit
variable [Bs]
def chkRes (P : Program) : List ResultVar → List RV → Bool
  | [], [] => true
  | .tmp t :: l, .t t' :: l' => t == t' && decide (t < base) && chkRes P l l'
  | .cell a ty :: l, .c n sz agg ty' :: l' => a == n && decide (n < base) && ty == ty' && hasSz P ty sz && isAgg' P ty agg && (agg || decide (sz = 1)) && chkRes P l l'
  | _, _ => false
section
variable {P : Program} {w : World}
theorem notup_of (x : C) (h : x.er.isTup = false) : x.notup := by
  cases x <;> first | trivial | (simp [C.er, X.isTup] at h)
def oneV : List Value → Value
  | [v] => v
  | l => .tuple l.toArray
def resV (tmps : Array Value) : ResultVar → Sem Value
  | .tmp t => pure (tmps.getD t undef)
  | .cell a t => do loadVar t (← asAddr (tmps.getD a undef))
theorem run_results {fn : Func} {vs : List Value} (tmps : Array Value) (h : (fn.results.toList.mapM (resV tmps)).run P w = .ok vs w) : (results fn tmps).run P w = .ok (oneV vs) w := by
  unfold results
  rw [Array.mapM_eq_mapM_toList]
  rw [Sem.run_bind, Sem.run_map]
  erw [h]
  simp only [Result.andThen_ok, Sem.run_pure]
  match vs with
  | [] => rfl
  | [v] => rfl
  | u :: v :: l => simp [oneV]
theorem takesR_ok {c : Ctx} {zl : Nat → Nat → Prop} {a : Act} : ∀ {l' : List ResultVar} {l : List RV}, chkRes P l' l = true → ∀ {G : Nat → C} {s : Slots}, St c G zl s a w → (∀ x ∈ (takesR l s).1, x.isTup = false) →
    ∃ cs G', cs.map C.er = (takesR l s).1 ∧ (l'.mapM (resV a.tmps)).run P w = .ok (cs.map C.val) w ∧ TookL w zl c.zb G cs G' (takesR l s).2
  | [], [], _, G, s, h, _ => ⟨[], G, rfl, by simp, TookL.nil h.inv⟩
  | .tmp t :: l', .t t' :: l, hc, G, s, h, hk => by
    simp only [chkRes, Bool.and_eq_true, beq_iff_eq, decide_eq_true_eq] at hc
    obtain ⟨⟨rfl, ht⟩, hc⟩ := hc
    obtain ⟨p, p1, p2, p3⟩ := av_ok h (o := .tmp t) (x := .t t) (by simp [chkV, ht])
    obtain ⟨y, G1, f1, f2, f3, f4⟩ := take_ok .mv h.inv p3
    rw [p1] at f1 f4
    obtain ⟨cs, G', g1, g2, g3⟩ := takesR_ok hc (h.took0 f4) fun x hx => hk x (List.mem_cons_of_mem _ hx)
    refine ⟨y :: cs, G', by simp [takesR, f1, g1], ?_, TookL.cons f4 g3⟩
    have hv : a.tmps.getD t undef = y.val := by rw [f2, p2]; rfl
    simp only [List.mapM_cons, resV, Sem.run_bind, Sem.run_pure, Result.andThen_ok, g2, hv, List.map_cons]
  | .cell ad ty :: l', .c n sz agg ty' :: l, hc, G, s, h, hk => by
    simp only [chkRes, Bool.and_eq_true, beq_iff_eq, decide_eq_true_eq] at hc
    obtain ⟨⟨⟨⟨⟨⟨rfl, ht⟩, rfl⟩, hsz⟩, hagg⟩, h1⟩, hc⟩ := hc
    have hk0 : (match get s ad with
      | .ptr .own cs => if cs.length = sz then (bif agg then .agg (X.killL ad [] cs) else (X.killL ad [] cs).headD (.tup [])) else .tup []
      | _ => .tup [] : X).isTup = false := hk _ (List.mem_cons_self ..)
    split at hk0
    · rename_i cs0 hg
      split at hk0
      · rename_i hlen
        obtain ⟨D, G1, t1, t2, t3, t4, t5, t6, t7, t8, t9, t10, t11, t12⟩ := h.inv.take_out ad [] (G ad) rfl
        rw [h.inv.er, hg] at t1
        simp only [X.kill] at t1
        obtain ⟨g, o, m, f, rfl, hcs⟩ := er_ptr t1
        have hm : m = sz := by
          have := congrArg List.length hcs
          rw [X.killL_length] at this
          simpa [hlen] using this.symm
        subst hm
        obtain ⟨q1, q2, q3, q4⟩ := t4
        have hin : ∀ j, j < m → ∀ b k, (f j).fp b k → (C.ptr .own g o m f).fp b k := fun j hj b k hf => C.in_ptr (q3 j hj).1 (q3 j hj).2.1 hj hf
        have hav : a.tmps.getD ad undef = .pointer (some ⟨g, o, none⟩) := by rw [← h.val ad ht, ← t2]; rfl
        obtain ⟨ii, hi, hisz⟩ := hasSz_spec hsz
        obtain ⟨dd, hdd, hda⟩ := isAgg_spec hagg
        have hrunA : (isAgg ty).run P w = .ok agg w := by
          subst hda
          simp only [isAgg, Sem.run_bind, run_underlying hdd, Result.andThen_ok]
          cases dd <;> rfl
        have hsize : (Go.sizeOf ty).run P w = .ok m w := by simp [Go.sizeOf, typeInfo, hi, hisz]
        have hl : (loadCells ⟨g, o, none⟩ m).run P w = .ok ((List.range m).map fun j => (f j).val).toArray w := run_loadCells w _ m _ (fun j hj => by rw [add_at]; exact (q1 j hj).1)
        have fin : ∀ y : C, (∀ b k, y.fp b k → (C.ptr .own g o m f).fp b k) → y.ok w (Zf zl c.zb) → y.rf G1 → y.er = (if cs0.length = m then (bif agg then .agg (X.killL ad [] cs0) else (X.killL ad [] cs0).headD (.tup [])) else .tup []) → (loadVar ty ⟨g, o, none⟩).run P w = .ok y.val w →
            ∃ cs G', cs.map C.er = (takesR (.c ad m agg ty :: l) s).1 ∧ ((ResultVar.cell ad ty :: l').mapM (resV a.tmps)).run P w = .ok (cs.map C.val) w ∧ TookL w zl c.zb G cs G' (takesR (.c ad m agg ty :: l) s).2 := fun y yfp yok yrf yer yrun => by
          have hTk : Took w zl c.zb G y G1 (setLoc ad [] .dead s) := ⟨t3, yok, yrf, fun t b k hf => t8 t b k (yfp b k hf), fun b k hf => h.inv.fz ad b k (t9 b k (yfp b k hf)), t10, fun b k hf => ⟨ad, t9 b k (yfp b k hf)⟩, t11⟩
          obtain ⟨cs, G', g1, g2, g3⟩ := takesR_ok hc (h.took0 hTk) fun x hx => hk x (List.mem_cons_of_mem _ hx)
          refine ⟨y :: cs, G', ?_, ?_, TookL.cons hTk g3⟩
          · simp only [List.map_cons, takesR, hg, yer, g1]
          · simp only [List.mapM_cons, resV, hav, asAddr, Sem.run_bind, Sem.run_pure, Result.andThen_ok, yrun, g2, List.map_cons]
        cases agg with
        | true =>
          refine fin (.agg m f) (fun b k ⟨j, hj, hf⟩ => hin j hj b k hf) ⟨fun j hj => ⟨(q3 j hj).1, (q3 j hj).2.2⟩, fun j hj b k hf => (q4 j hj b k hf).2⟩ t5 ?_ ?_
          · rw [if_pos hlen, cond_true, hcs]; rfl
          · simp only [loadVar, Sem.run_bind, hrunA, Result.andThen_ok, if_true, hsize, hl, Sem.run_pure]
            rfl
        | false =>
          have hs1 : m = 1 := by simpa using h1
          subst hs1
          refine fin (f 0) (fun b k hf => hin 0 (by omega) b k hf) (q3 0 (by omega)).2.2 (t5 0 (by omega)) ?_ ?_
          · rw [if_pos hlen, cond_false, hcs]; rfl
          · have := (q1 0 (by omega)).1
            simp only [loadVar, Sem.run_bind, hrunA, Result.andThen_ok, Bool.false_eq_true, if_false, run_load]
            simp only [Nat.add_zero] at this
            rw [this]
      · simp [X.isTup] at hk0
    · simp [X.isTup] at hk0
  | [], _ :: _, hc, _, _, _, _ => by cases hc
  | .tmp _ :: _, [], hc, _, _, _, _ => by cases hc
  | .cell _ _ :: _, [], hc, _, _, _, _ => by cases hc
  | .tmp _ :: _, .c _ _ _ _ :: _, hc, _, _, _, _ => by cases hc
  | .cell _ _ :: _, .t _ :: _, hc, _, _, _, _ => by cases hc

theorem post_ok {c : Ctx} {G : Nat → C} {zl : Nat → Nat → Prop} {s : Slots} (h : Inv w zl c.zb G s) (t : Nat) : ∃ p : C, p.er = post (get s t) ∧ p.val = (G t).val ∧ p.ok w (Zf zl fun _ _ => False) ∧ p.bare ∧ ∀ b k, p.fp b k → (G t).fp b k := by
  unfold post
  cases hc : (get s t).clean with
  | true =>
    rw [← h.er] at hc
    exact ⟨G t, h.er t, rfl, C.clean_ok _ hc (h.ok t), C.clean_bare _ hc, fun _ _ hf => hf⟩
  | false => exact ⟨.dead (G t).val, rfl, rfl, trivial, trivial, fun _ _ hf => hf.elim⟩
theorem posts_ok {c : Ctx} {G : Nat → C} {zl : Nat → Nat → Prop} {s : Slots} (h : Inv w zl c.zb G s) : ∀ (n i : Nat), ∃ ps : List C, ps.map C.er = posts i n s ∧ ps.map C.val = (List.range' i n).map (fun j => (G (base + j)).val) ∧ (∀ p ∈ ps, p.ok w (Zf zl fun _ _ => False) ∧ p.bare ∧ ∃ t, i ≤ t ∧ ∀ b k, p.fp b k → (G (base + t)).fp b k) ∧ ps.Pairwise fun a b => ∀ x k, a.fp x k → ¬ b.fp x k
  | 0, i => ⟨[], rfl, rfl, fun _ hx => (by cases hx), List.Pairwise.nil⟩
  | n + 1, i => by
    obtain ⟨p, p1, p2, p3, p4, p5⟩ := post_ok h (base + i)
    obtain ⟨ps, q1, q2, q3, q4⟩ := posts_ok h n (i + 1)
    refine ⟨p :: ps, by simp [posts, p1, q1], by simp [List.range'_succ, p2, q2], fun x hx => ?_, List.pairwise_cons.2 ⟨fun x hx b k hf hf' => ?_, q4⟩⟩
    · rcases List.mem_cons.1 hx with rfl | hx
      · exact ⟨p3, p4, i, Nat.le_refl _, p5⟩
      · obtain ⟨a1, a2, t, ht, a3⟩ := q3 x hx
        exact ⟨a1, a2, t, by omega, a3⟩
    · obtain ⟨_, _, t, ht, a3⟩ := q3 x hx
      exact h.sep (base + i) (base + t) (by omega) b k (p5 b k hf) (a3 b k hf')

/-- A function told by its code in the small language. -/
structure Told (P : Program) (f : FuncId) (t : A) (rs : List RV) (n : Nat) : Prop where
  told : ∃ fn code, P.funcs[f]? = some fn ∧ fn.body = some code ∧ chkCode P fn.ntmps t code = true ∧ chkRes P fn.results.toList rs = true ∧ fn.ntmps ≤ base ∧ n ≤ fn.ntmps

theorem Told.ac {f : FuncId} {t : A} {rs : List RV} {n : Nat} (hT : Told P f t rs n) {xs : List X} (hn : xs.length = n) {Q : X → List X → Prop} (h : awp P t (begins xs) (Ends rs n Q)) : AC P f xs Q := by
  intro w zl zb cs hxs hA hgl
  obtain ⟨fn, code, hf, hb, hc, hr, hnt, hnn⟩ := hT.told
  have hcl : cs.length = n := by rw [← hn, ← hxs]; simp
  obtain ⟨G, hst⟩ := start_st hA hgl (nt := fn.ntmps) (by omega) hnt
  rw [hxs] at hst
  refine calls_of_wp hf hb (wp_mono (code_sound t code hc hst h) fun e a w' he => ?_)
  have fin : ∀ {G : Nat → C} {zl' : Nat → Nat → Prop} {s : Slots}, St ⟨w, fun b k => ∃ x ∈ cs, x.fp b k, zl, zb, fn.ntmps, cs.map C.val⟩ G zl' s a w' → (X.clean.cleanL (takesR rs s).1 = true ∧ (∀ x ∈ (takesR rs s).1, x.isTup = false) ∧ Q (resultX (takesR rs s).1) (posts 0 n (takesR rs s).2)) →
      a.defers = [] ∧ ∃ v, (results fn a.tmps).run P w' = .ok v w' ∧ ∃ r ps zl', Done w zl cs (.returned v) w' r ps zl' ∧ Q r.er (ps.map C.er) := by
    intro G zl' s h ⟨k1, k2, k3⟩
    obtain ⟨rsC, G1, g1, g2, hTk⟩ := takesR_ok hr h k2
    refine ⟨h.defers, _, run_results a.tmps g2, ?_⟩
    rw [← g1] at k1 k2 k3
    obtain ⟨ps, p1, p2, p3, p4⟩ := posts_ok (c := ⟨w, fun b k => ∃ x ∈ cs, x.fp b k, zl, zb, fn.ntmps, cs.map C.val⟩) hTk.inv n 0
    have hrc : ∀ x ∈ rsC, x.er.clean = true := fun x hx => cleanL_all.1 k1 _ (List.mem_map_of_mem hx)
    -- the result
    obtain ⟨r, r1, r2, r3, r4, r5⟩ : ∃ r : C, r.er = resultX (rsC.map C.er) ∧ r.val = oneV (rsC.map C.val) ∧ r.ok w' (Zf zl' fun _ _ => False) ∧ r.bare ∧ ∀ b k, r.fp b k → ∃ x ∈ rsC, x.fp b k := by
      by_cases h1 : rsC.length = 1
      · obtain ⟨x, rfl⟩ := List.length_eq_one_iff.1 h1
        refine ⟨x, rfl, rfl, C.clean_ok x (hrc x (List.mem_singleton.2 rfl)) (hTk.all x (List.mem_singleton.2 rfl)).1, C.clean_bare x (hrc x (List.mem_singleton.2 rfl)), fun b k hf => ⟨x, List.mem_singleton.2 rfl, hf⟩⟩
      · refine ⟨.tup rsC.length fun j => rsC.getD j (.dead undef), ?_, ?_, ⟨fun j hj => ⟨?_, C.clean_ok _ (hrc _ (getD_mem hj _)) (hTk.all _ (getD_mem hj _)).1⟩, fun j hj b k hf j' hj' hne => pairwise_getD hTk.apart _ hj hj' hne hf⟩, fun j hj => C.clean_bare _ (hrc _ (getD_mem hj _)), fun b k ⟨j, hj, hf⟩ => ⟨_, getD_mem hj _, hf⟩⟩
        · show X.tup _ = _
          rw [range_getD rsC _ C.er]
          cases rsC with
          | nil => rfl
          | cons x l => cases l with
            | nil => simp at h1
            | cons y l => rfl
        · show Value.tuple _ = _
          rw [range_getD rsC _ C.val]
          cases rsC with
          | nil => rfl
          | cons x l => cases l with
            | nil => simp at h1
            | cons y l => rfl
        · have := k2 _ (List.mem_map_of_mem (getD_mem hj (.dead undef)))
          exact notup_of _ this
    refine ⟨r, ps, zl', ?_, by rw [r1, p1]; exact k3⟩
    have hdomG : ∀ t b k, (G1 t).fp b k → (∃ y ∈ cs, y.fp b k) ∨ w.heap.size ≤ b := fun t b k hf => h.tr.dom t b k (hTk.mono t b k hf)
    have hrd : ∀ b k, r.fp b k → (∃ y ∈ cs, y.fp b k) ∨ w.heap.size ≤ b := fun b k hf => by
      obtain ⟨x, hx, hf⟩ := r5 b k hf
      obtain ⟨t, ht⟩ := (hTk.all x hx).2.2.2 b k hf
      exact h.tr.dom t b k ht
    refine ⟨by rw [r2], ?_, h.tr.ext, ⟨fun x hx => ?_, fun x hx => ?_, fun x hx b k hf => ?_, fun b k hz => hTk.inv.zin b k (hz.imp id fun h => h.elim), List.pairwise_cons.2 ⟨fun x hx b k hf hf' => ?_, p4⟩⟩, fun x hx b k hf => ?_, h.tr.zl0, h.tr.zl⟩
    · rw [p2, List.range_eq_range'.symm]
      apply List.ext_getElem?
      intro i
      rw [List.getElem?_map, List.getElem?_map]
      by_cases hi : i < n
      · rw [List.getElem?_range hi, List.getElem?_eq_getElem (by omega)]
        simp only [Option.map_some, Option.some.injEq]
        rw [hTk.val]
        exact h.args i _ (by rw [List.getElem?_map, List.getElem?_eq_getElem (by omega)]; rfl)
      · rw [List.getElem?_eq_none (by simp; omega), List.getElem?_eq_none (by omega)]
        rfl
    · rcases List.mem_cons.1 hx with rfl | hx
      · exact r3
      · exact (p3 x hx).1
    · rcases List.mem_cons.1 hx with rfl | hx
      · exact r4
      · exact (p3 x hx).2.1
    · refine ⟨?_, fun h => h⟩
      rcases List.mem_cons.1 hx with rfl | hx
      · obtain ⟨y, hy, hf⟩ := r5 b k hf
        exact ((hTk.all y hy).2.2.1 b k hf).1
      · obtain ⟨_, _, t, _, a3⟩ := p3 x hx
        exact (hTk.inv.fz _ b k (a3 b k hf)).1
    · obtain ⟨y, hy, hf⟩ := r5 b k hf
      obtain ⟨_, _, t, _, a3⟩ := p3 x hx
      exact (hTk.all y hy).2.1 _ b k hf (a3 b k hf')
    · rcases List.mem_cons.1 hx with rfl | hx
      · exact hrd b k hf
      · obtain ⟨_, _, t, _, a3⟩ := p3 x hx
        exact hdomG _ b k (a3 b k hf)
  cases e with
  | normal => obtain ⟨G, zl', s, k, h⟩ := he; exact fin h k
  | ret => obtain ⟨G, zl', s, k, h⟩ := he; exact fin h k
  | exit id => obtain ⟨G, zl', s, k, h⟩ := he; exact k.elim
  | goto l => exact he.elim
  | panic ch => exact he.elim
  | outgrown => exact he.elim
/-- The same as one closed check. -/
def toldB (P : Program) (fn : Func) (t : A) (rs : List RV) (n : Nat) : Bool := match fn.body with
  | some code => chkCode P fn.ntmps t code && chkRes P fn.results.toList rs && decide (fn.ntmps ≤ base) && decide (n ≤ fn.ntmps)
  | none => false
theorem Told.of {f : FuncId} {fn : Func} {t : A} {rs : List RV} {n : Nat} (hf : P.funcs[f]? = some fn) (h : toldB P fn t rs n = true) : Told P f t rs n := by
  unfold toldB at h
  split at h
  · rename_i code hc
    simp only [Bool.and_eq_true, decide_eq_true_eq] at h
    exact ⟨fn, code, hf, hc, h.1.1.1, h.1.1.2, h.1.2, h.2⟩
  · cases h
end
end M
set_option linter.unusedVariables false
namespace M
open Go

theorem AC.mono [Bs] {P : Program} {f : FuncId} {xs : List X} {Q Q' : X → List X → Prop} (h : AC P f xs Q) (hq : ∀ r ps, Q r ps → Q' r ps) : AC P f xs Q' :=
  fun w zl zb cs e a g => (h w zl zb cs e a g).mono fun _ _ ⟨r, ps, zl', d, q⟩ => ⟨r, ps, zl', d, hq _ _ q⟩

abbrev Out := X × List X
abbrev Ora := FuncId → List X → Option Out
def isFn (f : FuncId) : X → Bool
  | .fn g _ => g == f
  | _ => false
/-- The function value is still what it was (a Bool). -/
def capsB (s1 : Slots) (fv : Option AV) (f : FuncId) : Bool := match fv with
  | none => true
  | some x => isFn f (opv s1 x)
abbrev Back := X → Option Slots
def mutE (r : Nat) (p : Path) (s : Slots) (n : Nat) (x : X) : Option (X × Back) :=
  match x with
  | .ref _ _ => (match look s r p with
    | some (.row .own z xs) => some (.row .own z xs, fun y => match y with
      | .row .own z' ys => if z' = z then some (setB r p (.row .own z ys) s) else none
      | _ => none)
    | _ => none)
  | .adr _ _ i c => (match look s r p with
    | some (.ptr .own cs) => if c + n ≤ cs.length then some (.ptr .own ((cs.drop c).take n), fun y => match y with
      | .ptr .own ys => if ys.length = n then some (setB r p (.ptr .own (cs.take c ++ ys ++ cs.drop (c + n))) s) else none
      | _ => none) else none
    | some (.row .own z xs) => (match xs[i]? with
      | some e => if c + n ≤ e.length then some (.ptr .own ((e.drop c).take n), fun y => match y with
        | .ptr .own ys => if ys.length = n then (if solidL ys = true then some (setB r p (.row .own z (xs.set i (e.take c ++ ys ++ e.drop (c + n)))) s) else none) else none
        | _ => none) else none
      | none => none)
    | _ => none)
  | _ => none
def putR (d : Option Nat) (s : Slots) : Option Out → Option Slots
  | some o => some (putD d o.1 s)
  | none => none
def putM (d : Option Nat) (as : List (AV × PM)) (back : Back) : Option Out → Option Slots
  | some o => (match back (mutPost as o.2) with
    | some s' => some (putD d o.1 s')
    | none => none)
  | none => none
def callM (C : Ora) (f : FuncId) (d : Option Nat) (as : List (AV × PM)) (fv : Option AV) (ms : List X) (s0 : Slots) : Option (X × Back) → Option Slots
  | some (y, back) => if X.bare y = true ∧ capsB s0 fv f = true then putM d as back (C f (argsOf s0 y as ms ++ capsOf s0 fv)) else none
  | none => none
def callE (C : Ora) (f : FuncId) (d : Option Nat) (as : List (AV × PM)) (fv : Option AV) (s : Slots) : Option Slots :=
  if X.bare.bareL (movs as s).1 = true then
  match mutOf as with
  | none => if capsB (movs as s).2 fv f = true then putR d (movs as s).2 (C f (argsOf (movs as s).2 .dead as (movs as s).1 ++ capsOf (movs as s).2 fv)) else none
  | some (x, n) => callM C f d as fv (movs as s).1 (setLoc (placeOf (opv (movs as s).2 x)).1 (placeOf (opv (movs as s).2 x)).2 .dead (movs as s).2) (mutE (placeOf (opv (movs as s).2 x)).1 (placeOf (opv (movs as s).2 x)).2 (movs as s).2 n (opv (movs as s).2 x))
  else none

def binB (op : BinOp) : X → X → Bool
  | .int k a, .int k' b => match op with
    | .shl => decide (0 ≤ b)
    | .shr => decide (0 ≤ b)
    | .quo => decide (k = k') && !decide (b = 0)
    | .rem => decide (k = k') && !decide (b = 0)
    | .andNot => false
    | _ => decide (k = k')
  | .str a, .str b => match op with
    | .add => decide (a.size + b.size ≤ 9223372036854775807)
    | .eql => true
    | .neq => true
    | _ => false
  | _, _ => false
theorem binB_ok {op : BinOp} {x y : X} (h : binB op x y = true) : binOk op x y := by
  cases x <;> cases y <;> cases op <;> simp_all [binB, binOk]
def unB (op : UnOp) : X → Bool
  | .int _ _ => match op with
    | .neg => true
    | _ => false
  | .bool _ => match op with
    | .not => true
    | _ => false
  | _ => false
theorem unB_ok {op : UnOp} {x : X} (h : unB op x = true) : unOk op x := by
  cases x <;> cases op <;> simp_all [unB, unOk]
def isU8 : List X → Option UInt8
  | [.int .u8 n] => if 0 ≤ n ∧ n < 256 then some (UInt8.ofNat n.toNat) else none
  | _ => none
theorem isU8_eq {e : List X} {b : UInt8} (h : isU8 e = some b) : e = [.int .u8 b.toNat] := by
  unfold isU8 at h
  split at h
  · split at h
    · rename_i n hn
      obtain rfl := Option.some.inj h
      have : (UInt8.ofNat n.toNat).toNat = n.toNat := by
        rw [UInt8.toNat_ofNat']
        exact Nat.mod_eq_of_lt (by omega)
      rw [this]
      congr 2
      omega
    · cases h
  · cases h
def u8s : List (List X) → Option (List UInt8)
  | [] => some []
  | e :: l => match isU8 e, u8s l with
    | some b, some r => some (b :: r)
    | _, _ => none
theorem u8s_eq : ∀ {xs : List (List X)} {l : List UInt8}, u8s xs = some l → xs = l.map fun b => [.int .u8 b.toNat]
  | [], l, h => by cases h; rfl
  | e :: r, l, h => by
    unfold u8s at h
    split at h
    · rename_i b r' h1 h2
      obtain rfl := Option.some.inj h
      rw [isU8_eq h1, u8s_eq h2]; rfl
    · cases h
theorem u8s_map (l : List UInt8) : u8s (l.map fun b => [.int .u8 (b.toNat : Int)]) = some l := by
  induction l with
  | nil => rfl
  | cons b l ih =>
    simp only [List.map_cons, u8s, ih]
    have : isU8 [.int .u8 (b.toNat : Int)] = some b := by
      have h := b.toNat_lt
      show (if 0 ≤ (b.toNat : Int) ∧ (b.toNat : Int) < 256 then some (UInt8.ofNat (b.toNat : Int).toNat) else none) = some b
      rw [if_pos ⟨by omega, by omega⟩]
      simp
    rw [this]
def scalarsB : List (List X) → Bool
  | [] => true
  | e :: l => e.all scalar && scalarsB l
theorem scalarsB_ok {xs : List (List X)} (h : scalarsB xs = true) : scalars xs := by
  induction xs with
  | nil => intro e he; cases he
  | cons a l ih =>
    simp only [scalarsB, Bool.and_eq_true, List.all_eq_true] at h
    intro e he c hc
    rcases List.mem_cons.1 he with rfl | he
    · exact h.1 c hc
    · exact ih h.2 e he c hc
def solidsB (h : Tk) (l : List X) : Bool := match h with
  | .al => true
  | _ => l.all fun x => solidL (cellsOf x)
theorem solidsB_ok {h : Tk} {l : List X} (e : solidsB h l = true) : solids h l := by
  cases h
  · intro x hx; exact (List.all_eq_true.1 e) x hx
  · trivial
  · intro x hx; exact (List.all_eq_true.1 e) x hx
def sizesB : List Nat → List X → Bool
  | [], [] => true
  | n :: ns, y :: ys => ((cellsOf y).length == n) && sizesB ns ys
  | _, _ => false
theorem sizesB_ok : ∀ {ns : List Nat} {ys : List X}, sizesB ns ys = true → sizesOk ns ys
  | [], [], _ => trivial
  | [], _ :: _, h => by cases h
  | _ :: _, [], h => by cases h
  | n :: ns, y :: ys, h => by
    simp only [sizesB, Bool.and_eq_true, beq_iff_eq] at h
    exact ⟨h.1, sizesB_ok h.2⟩
def litB (sz : Nat) (l : List X) : Bool := l.all fun x => ((cellsOf x).length == sz) && solidL (cellsOf x)
def storeB (s : Slots) (r : Nat) (p : Path) (i c : Nat) (l : List X) : Bool := match look s r p with
  | some (.row .own _ xs) => (match xs[i]? with
    | some e => decide (c + l.length ≤ e.length) && solidL l
    | none => false)
  | some (.ptr .own cs) => decide (c + l.length ≤ cs.length)
  | _ => false
theorem storeB_ok {s : Slots} {r : Nat} {p : Path} {i c : Nat} {l : List X} (h : storeB s r p i c l = true) : storable s r p i c l := by
  unfold storeB at h
  unfold storable
  split at h
  · split at h
    · rename_i h1 _ _ h2
      rw [h1]; simp only [h2]
      simpa using h
    · cases h
  · rename_i h1
    rw [h1]
    simpa using h
  · cases h

def putA (d : Option Nat) (cs : List X) (s1 : Slots) : Option Out → Option Slots
  | some (r, .agg ys :: _) => if solidL ys = true then (match backL cs ys s1 with
    | some s' => some (putD d r s')
    | none => none) else none
  | _ => none
def guardS (b : Bool) (s : Slots) : Option Slots := if b = true then some s else none
def eOp (C : Ora) (ok : FuncId → Bool) (o : AOp) (s : Slots) : Option Slots :=
  match o with
  | .mv d x => some (put d (opv s x) s)
  | .asg d h x => some (put d (take h (opv s x) s).1 (take h (opv s x) s).2)
  | .pick d c a b => match opv s c with
    | .bool t => some (put d (pickX t (opv s a) (opv s b)) s)
    | _ => none
  | .un d op x => if unB op (opv s x) = true then some (put d (unX op (opv s x)) s) else none
  | .bin d op x y => if binB op (opv s x) (opv s y) = true then some (put d (binX op (opv s x) (opv s y)) s) else none
  | .beq d neg x y => match opv s x, opv s y with
    | .bool p, .bool q => some (put d (.bool (xor neg (p == q))) s)
    | _, _ => none
  | .nilq d neg x => match opv s x with
    | .row _ _ xs => if rowCells xs = true then some (put d (.bool neg) s) else none
    | _ => none
  | .aeq d neg ks x y => match opv s x, opv s y with
    | .agg p, .agg q => match eqCells ks p q with
      | some t => some (put d (.bool (xor neg t)) s)
      | none => none
    | _, _ => none
  | .conv d k x => match opv s x with
    | .int _ n => some (put d (.int k (k.wrap n)) s)
    | _ => none
  | .bytes d x => match opv s x with
    | .str t => some (put d (.row .own 1 (t.data.toList.map fun b => [.int .u8 b.toNat])) s)
    | _ => none
  | .text d x => match rowAt s (opv s x) with
    | some (1, xs) => if xs.length ≤ 9223372036854775807 then (match u8s xs with
      | some l => some (put d (.str ⟨l.toArray⟩) s)
      | none => none) else none
    | _ => none
  | .box d h x => if 0 < (cellsOf (take h (opv s x) s).1).length then some (put d (.ptr .own (cellsOf (take h (opv s x) s).1)) (take h (opv s x) s).2) else none
  | .new d z => some (put d (.ptr .own z) s)
  | .build d h z ps => if solidsB h (takes h (ps.map (·.2)) s).1 = true ∧ sizesB (ps.map (·.1.2)) (takes h (ps.map (·.2)) s).1 = true then some (put d (.agg (fills z (ps.map (·.1.1)) (takes h (ps.map (·.2)) s).1)) (takes h (ps.map (·.2)) s).2) else none
  | .lit d h sz ps => if litB sz (takes h ps s).1 = true then some (put d (.row .own sz ((takes h ps s).1.map cellsOf)) (takes h ps s).2) else none
  | .make d sz bytes z n => match opv s n with
    | .int _ i => if 0 ≤ i ∧ i * bytes ≤ 140737488355328 then some (put d (.row .own sz (List.replicate i.toNat z)) s) else none
    | _ => none
  | .load d sz agg a => match cellsAt s (opv s a) with
    | some cs => if sz ≤ cs.length then some (put d (bif agg then .agg (cs.take sz) else cs.headD .dead) s) else none
    | none => none
  | .store sz h a x => if (cellsOf (take h (opv s x) s).1).length = sz then (match opv (take h (opv s x) s).2 a with
    | .adr r p i c => if storeB (take h (opv s x) s).2 r p i c (cellsOf (take h (opv s x) s).1) = true then some (setCells r p i c (cellsOf (take h (opv s x) s).1) (take h (opv s x) s).2) else none
    | _ => none) else none
  | .chk d x => match opv s x with
    | .adr r p i c => some (put d (.adr r p i c) s)
    | .ptr m cs => some (put d (.ptr m cs) s)
    | .fn f cs => some (put d (.fn f cs) s)
    | _ => none
  | .fadr d x off => match opv s x with
    | .adr r p i c => some (put d (.adr r p i (c + off)) s)
    | .ptr m cs => some (put d (.ptr m (cs.drop off)) s)
    | _ => none
  | .fld d x off sz agg => match opv s x with
    | .agg cs => if off + sz ≤ cs.length then some (put d (bif agg then .agg ((cs.drop off).take sz) else (cs.drop off).headD .dead) s) else none
    | _ => none
  | .iadr d sz x i => match opv s i with
    | .int _ n => if 0 ≤ n then (match opv s x with
      | .row m z xs => if z = sz then (match xs[n.toNat]? with
        | some e => some (put d (.ptr m e) s)
        | none => none) else none
      | .ref r p => (match look s r p with
        | some (.row _ z xs) => if z = sz ∧ n.toNat < xs.length then some (put d (.adr r p n.toNat 0) s) else none
        | _ => none)
      | .cut r p lo hi => (match look s r p with
        | some (.row _ z _) => if z = sz ∧ lo + n.toNat < hi then some (put d (.adr r p (lo + n.toNat) 0) s) else none
        | _ => none)
      | _ => none) else none
    | _ => none
  | .sidx d x i => match opv s x, opv s i with
    | .str t, .int _ n => if 0 ≤ n then (match t.data[n.toNat]? with
      | some b => some (put d (.int .u8 b.toNat) s)
      | none => none) else none
    | _, _ => none
  | .aidx d n sz agg x i => match opv s x, opv s i with
    | .agg cs, .int _ j => if 0 ≤ j ∧ j < n ∧ cs.length = n * sz then some (put d (bif agg then .agg ((cs.drop (j.toNat * sz)).take sz) else (cs.drop (j.toNat * sz)).headD .dead) s) else none
    | _, _ => none
  | .ext d x i => match opv s x with
    | .tup cs => if i < cs.length then some (put d (cs.getD i .dead) s) else none
    | _ => none
  | .sslice d x lo hi => match opv s x with
    | .str t => if 0 ≤ asNat s lo 0 ∧ asNat s lo 0 ≤ asNat s hi t.size ∧ asNat s hi t.size ≤ t.size then some (put d (.str (t.extract (asNat s lo 0).toNat (asNat s hi t.size).toNat)) s) else none
    | _ => none
  | .rslice d sz x lo hi => match rowAt s (opv s x) with
    | some (z0, xs) => if z0 = sz ∧ 0 ≤ asNat s lo 0 ∧ asNat s lo 0 ≤ asNat s hi xs.length ∧ asNat s hi xs.length ≤ xs.length then (match opv s x with
      | .row m z _ => some (put d (.row m z ((xs.take (asNat s hi xs.length).toNat).drop (asNat s lo 0).toNat)) s)
      | .ref r p => some (put d (.cut r p (asNat s lo 0).toNat (asNat s hi xs.length).toNat) s)
      | _ => none) else none
    | none => none
  | .clr sz z x => match opv s x with
    | .cut r p lo hi => (match look s r p with
      | some (.row .own z' xs) => if z' = sz then some (setB r p (.row .own z' (fillE lo hi z xs)) s) else none
      | _ => none)
    | _ => none
  | .callA d f x as => match opv s x with
    | .agg cs => if X.bare.bareL (takeL cs s).1 = true then putA d cs (takeL cs s).2 (C f (.agg (takeL cs s).1 :: argsOf (takeL cs s).2 .dead as (as.map fun _ => .dead))) else none
    | _ => none
  | .lmv d fz sz agg a => match cellsAt s (opv s a) with
    | some cs => if sz ≤ cs.length then ghost fz d (put d (bif agg then .agg (cs.take sz) else cs.headD .dead) s) else none
    | none => none
  | .mkfn d f cs => some (put d (.fn f (cs.map (opv s))) s)
  | .len d x => match rowAt s (opv s x) with
    | some (z, xs) => some (put d (.int .i64 xs.length) s)
    | none => none
  | .slen d x => match opv s x with
    | .str t => some (put d (.int .i64 t.size) s)
    | _ => none
  | .app d h sz bytes x y => match (take .mv (opv s x) s).1 with
    | .row .own z xs => if z = sz then (match h with
      | .mv => (match (takeE (opv (take .mv (opv s x) s).2 y) (take .mv (opv s x) s).2).1 with
        | .row .own z' ys => if z' = sz ∧ (xs.length + ys.length) * bytes ≤ 140737488355328 then some (put d (.row .own z (xs ++ ys)) (takeE (opv (take .mv (opv s x) s).2 y) (take .mv (opv s x) s).2).2) else none
        | _ => none)
      | _ => (match rowAt (take .mv (opv s x) s).2 (opv (take .mv (opv s x) s).2 y) with
        | some (z', ys) => if z' = sz ∧ (xs.length + ys.length) * bytes ≤ 140737488355328 ∧ scalarsB ys = true then some (put d (.row .own z (xs ++ ys)) (take .mv (opv s x) s).2) else none
        | none => none)) else none
    | _ => none
  | .mn d xs => match xs.map (opv s) with
    | [.int k a, .int k' b] => if k = k' then some (put d (.int k (if b < a then b else a)) s) else none
    | _ => none
  | .mx d xs => match xs.map (opv s) with
    | [.int k a, .int k' b] => if k = k' then some (put d (.int k (if b > a then b else a)) s) else none
    | _ => none
  | .call d f as => callE C f d as none s
  | .callv d x as => match opv s x with
    | .fn f _ => if ok f = true then callE C f d as (some x) s else none
    | _ => none
end M
set_option linter.unusedVariables false
set_option linter.unusedSimpArgs false
namespace M
open Go
/-- What the oracle says is so. -/
def Ora.Sound [Bs] (P : Program) (C : Ora) : Prop := ∀ f xs o, C f xs = some o → AC P f xs fun r ps => r = o.1 ∧ ps = o.2
section
variable [Bs] {P : Program} {C : Ora} {ok : FuncId → Bool}
theorem capsB_ok {s1 : Slots} {fv : Option AV} {f : FuncId} (h : capsB s1 fv f = true) : capsIs s1 fv f := by
  unfold capsB at h
  unfold capsIs
  cases fv with
  | none => trivial
  | some x =>
    simp only at h ⊢
    unfold isFn at h
    split at h
    · rename_i h1; rw [h1]; simpa using h
    · cases h
theorem mutE_ok {r : Nat} {p : Path} {s : Slots} {n : Nat} {x y : X} {back : Back} (h : mutE r p s n x = some (y, back)) {go : X → (X → (Slots → Prop) → Prop) → Prop}
    (hg : ∀ b' : X → (Slots → Prop) → Prop, (∀ q K s', back q = some s' → K s' → b' q K) → go y b') : mutCall r p s n x go := by
  unfold mutE at h
  unfold mutCall
  split at h
  · split at h
    · rename_i z xs hl
      obtain ⟨rfl, rfl⟩ := Prod.mk.inj (Option.some.inj h)
      simp only [hl]
      refine hg _ fun q K s' hb hK => ?_
      simp only at hb
      split at hb
      · split at hb
        · rename_i hz
          obtain rfl := Option.some.inj hb
          exact ⟨hz, hK⟩
        · cases hb
      · cases hb
    · cases h
  · split at h
    · rename_i cs hl
      split at h
      · rename_i hc
        obtain ⟨rfl, rfl⟩ := Prod.mk.inj (Option.some.inj h)
        simp only [hl]
        refine ⟨hc, hg _ fun q K s' hb hK => ?_⟩
        simp only at hb
        split at hb
        · split at hb
          · rename_i hz
            obtain rfl := Option.some.inj hb
            exact ⟨hz, hK⟩
          · cases hb
        · cases hb
      · cases h
    · rename_i z xs hl
      split at h
      · rename_i e he
        split at h
        · rename_i hc
          obtain ⟨rfl, rfl⟩ := Prod.mk.inj (Option.some.inj h)
          simp only [hl, he]
          refine ⟨hc, hg _ fun q K s' hb hK => ?_⟩
          simp only at hb
          split at hb
          · split at hb
            · split at hb
              · rename_i hz hso
                obtain rfl := Option.some.inj hb
                exact ⟨hz, hso, hK⟩
              · cases hb
            · cases hb
          · cases hb
        · cases h
      · cases h
    · cases h
  · cases h
theorem callE_ok (hC : C.Sound P) {f : FuncId} {d : Option Nat} {as : List (AV × PM)} {fv : Option AV} {s s' : Slots} (h : callE C f d as fv s = some s') {K : Slots → Prop} (hK : K s') : callX P f d as fv s K := by
  unfold callE at h
  unfold callX
  split at h
  · rename_i hb
    refine ⟨hb, ?_⟩
    split at h
    · rename_i hm
      split at h
      · rename_i hc
        simp only [hm]
        refine ⟨capsB_ok hc, ?_⟩
        unfold putR at h
        split at h
        · rename_i o ho
          obtain rfl := Option.some.inj h
          exact (hC _ _ _ ho).mono fun r ps ⟨h1, _⟩ => by rw [h1]; exact hK
        · cases h
      · cases h
    · rename_i x n hm
      simp only [hm]
      unfold callM at h
      split at h
      · rename_i y back hmu
        split at h
        · rename_i hc
          refine mutE_ok hmu fun b' hb' => ⟨hc.1, capsB_ok hc.2, ?_⟩
          unfold putM at h
          split at h
          · rename_i o ho
            split at h
            · rename_i s2 hs2
              obtain rfl := Option.some.inj h
              refine (hC _ _ _ ho).mono fun r ps ⟨h1, h2⟩ => ?_
              rw [h1, h2]
              exact hb' _ _ _ hs2 hK
            · cases h
          · cases h
        · cases h
      · cases h
  · cases h
theorem eOp_ok (hC : C.Sound P) (hok : ∀ f, ok f = true → fnOk P f = true) {o : AOp} {s s' : Slots} (h : eOp C ok o s = some s') {K : Slots → Prop} (hK : K s') : awpOp P o s K := by
  cases o with
  | mv d x => cases h; exact hK
  | asg d h1 x => cases h; exact hK
  | pick d c a b =>
    simp only [eOp] at h
    simp only [awpOp]
    split at h <;> first | (rename_i h1; rw [h1]; cases h; exact hK) | cases h
  | un d op x =>
    simp only [eOp] at h
    split at h
    · rename_i h1; cases h; exact ⟨unB_ok h1, hK⟩
    · cases h
  | bin d op x y =>
    simp only [eOp] at h
    split at h
    · rename_i h1; cases h; exact ⟨binB_ok h1, hK⟩
    · cases h
  | beq d neg x y =>
    simp only [eOp] at h
    simp only [awpOp]
    split at h
    · rename_i h1 h2; rw [h1, h2]; cases h; exact hK
    · cases h
  | nilq d neg x =>
    simp only [eOp] at h
    simp only [awpOp]
    split at h
    · rename_i h1
      rw [h1]
      split at h
      · rename_i hc
        cases h
        intro b hb
        rw [hb hc]
        cases neg <;> exact hK
      · cases h
    · cases h
  | aeq d neg ks x y =>
    simp only [eOp] at h
    simp only [awpOp]
    split at h
    · rename_i h1 h2
      rw [h1, h2]
      split at h
      · rename_i t ht
        cases h
        exact ⟨t, ht, hK⟩
      · cases h
    · cases h
  | conv d k x =>
    simp only [eOp] at h
    simp only [awpOp]
    split at h
    · rename_i h1; rw [h1]; cases h; exact hK
    · cases h
  | bytes d x =>
    simp only [eOp] at h
    simp only [awpOp]
    split at h
    · rename_i h1; rw [h1]; cases h; exact hK
    · cases h
  | text d x =>
    simp only [eOp] at h
    simp only [awpOp]
    split at h
    · rename_i xs h1
      split at h
      · rename_i h2
        split at h
        · rename_i l h3
          cases h
          exact ⟨xs, h1, h2, l, u8s_eq h3, hK⟩
        · cases h
      · cases h
    · cases h
  | box d h1 x =>
    simp only [eOp] at h
    split at h
    · rename_i h2; cases h; exact ⟨h2, hK⟩
    · cases h
  | new d z => cases h; exact hK
  | build d h1 z ps =>
    simp only [eOp] at h
    split at h
    · rename_i h2; cases h; exact ⟨solidsB_ok h2.1, sizesB_ok h2.2, hK⟩
    · cases h
  | lit d h1 sz ps =>
    simp only [eOp] at h
    split at h
    · rename_i h2
      cases h
      refine ⟨fun x hx => ?_, hK⟩
      have := (List.all_eq_true.1 h2) x hx
      simpa using this
    · cases h
  | make d sz bytes z n =>
    simp only [eOp] at h
    simp only [awpOp]
    split at h
    · rename_i h1
      rw [h1]
      split at h
      · rename_i h2; cases h; exact ⟨h2.1, h2.2, hK⟩
      · cases h
    · cases h
  | load d sz agg a =>
    simp only [eOp] at h
    simp only [awpOp]
    split at h
    · rename_i cs h1
      split at h
      · rename_i h2; cases h; exact ⟨cs, h1, h2, hK⟩
      · cases h
    · cases h
  | store sz h1 a x =>
    simp only [eOp] at h
    simp only [awpOp]
    split at h
    · rename_i h2
      refine ⟨h2, ?_⟩
      split at h
      · rename_i h3
        rw [h3]
        split at h
        · rename_i h4; cases h; exact ⟨storeB_ok h4, hK⟩
        · cases h
      · cases h
    · cases h
  | chk d x =>
    simp only [eOp] at h
    simp only [awpOp]
    split at h <;> first | (rename_i h1; rw [h1]; cases h; exact hK) | cases h
  | fadr d x off =>
    simp only [eOp] at h
    simp only [awpOp]
    split at h <;> first | (rename_i h1; rw [h1]; cases h; exact hK) | cases h
  | fld d x off sz agg =>
    simp only [eOp] at h
    simp only [awpOp]
    split at h
    · rename_i h1
      rw [h1]
      split at h
      · rename_i h2; cases h; exact ⟨h2, hK⟩
      · cases h
    · cases h
  | iadr d sz x i =>
    simp only [eOp] at h
    simp only [awpOp]
    split at h
    · rename_i h1
      rw [h1]
      split at h
      · rename_i h2
        refine ⟨h2, ?_⟩
        split at h
        · rename_i h3
          rw [h3]
          split at h
          · rename_i h4
            refine ⟨h4, ?_⟩
            split at h
            · rename_i e h5; cases h; exact ⟨e, h5, hK⟩
            · cases h
          · cases h
        · rename_i h3
          rw [h3]
          simp only
          split at h
          · rename_i h4
            rw [h4]
            split at h
            · rename_i h5; cases h; exact ⟨h5.1, h5.2, hK⟩
            · cases h
          · cases h
        · rename_i h3
          rw [h3]
          simp only
          split at h
          · rename_i h4
            rw [h4]
            split at h
            · rename_i h5; cases h; exact ⟨h5.1, h5.2, hK⟩
            · cases h
          · cases h
        · cases h
      · cases h
    · cases h
  | sidx d x i =>
    simp only [eOp] at h
    simp only [awpOp]
    split at h
    · rename_i h1 h2
      rw [h1, h2]
      split at h
      · rename_i h3
        refine ⟨h3, ?_⟩
        split at h
        · rename_i b h4; cases h; exact ⟨b, h4, hK⟩
        · cases h
      · cases h
    · cases h
  | aidx d n sz agg x i =>
    simp only [eOp] at h
    simp only [awpOp]
    split at h
    · rename_i h1 h2
      rw [h1, h2]
      split at h
      · rename_i h3; cases h; exact ⟨h3.1, h3.2.1, h3.2.2, hK⟩
      · cases h
    · cases h
  | ext d x i =>
    simp only [eOp] at h
    simp only [awpOp]
    split at h
    · rename_i h1
      rw [h1]
      split at h
      · rename_i h3; cases h; exact ⟨h3, hK⟩
      · cases h
    · cases h
  | sslice d x lo hi =>
    simp only [eOp] at h
    simp only [awpOp]
    split at h
    · rename_i h1
      rw [h1]
      split at h
      · rename_i h3; cases h; exact ⟨h3.1, h3.2.1, h3.2.2, hK⟩
      · cases h
    · cases h
  | rslice d sz x lo hi =>
    simp only [eOp] at h
    simp only [awpOp]
    split at h
    · rename_i z0 xs h1
      split at h
      · rename_i h2
        obtain ⟨rfl, h2, h3, h4⟩ := h2
        refine ⟨xs, h1, h2, h3, h4, ?_⟩
        split at h <;> first | (rename_i h5; rw [h5]; cases h; exact hK) | cases h
      · cases h
    · cases h
  | clr sz z x =>
    simp only [eOp] at h
    simp only [awpOp]
    split at h
    · rename_i h1
      rw [h1]
      simp only
      split at h
      · rename_i h2
        rw [h2]
        split at h
        · rename_i h3; cases h; exact ⟨h3, hK⟩
        · cases h
      · cases h
    · cases h
  | callA d f x as =>
    simp only [eOp] at h
    simp only [awpOp]
    split at h
    · rename_i cs h1
      rw [h1]
      split at h
      · rename_i h2
        refine ⟨h2, ?_⟩
        unfold putA at h
        split at h
        · rename_i r ys ps ho
          split at h
          · rename_i h3
            split at h
            · rename_i s2 h4
              cases h
              exact (hC _ _ _ ho).mono fun r' ps' ⟨e1, e2⟩ => by rw [e1, e2]; exact ⟨h3, _, h4, hK⟩
            · cases h
          · cases h
        · cases h
      · cases h
    · cases h
  | lmv d fz sz agg a =>
    simp only [eOp] at h
    simp only [awpOp]
    split at h
    · rename_i cs h1
      split at h
      · rename_i h2; exact ⟨cs, h1, h2, s', h, hK⟩
      · cases h
    · cases h
  | mkfn d f cs => cases h; exact hK
  | len d x =>
    simp only [eOp] at h
    simp only [awpOp]
    split at h
    · rename_i z xs h1; cases h; exact ⟨z, xs, h1, hK⟩
    · cases h
  | slen d x =>
    simp only [eOp] at h
    simp only [awpOp]
    split at h
    · rename_i h1; rw [h1]; cases h; exact hK
    · cases h
  | app d h1 sz bytes x y =>
    simp only [eOp] at h
    simp only [awpOp]
    split at h
    · rename_i z xs h2
      rw [h2]
      split at h
      · rename_i h3
        refine ⟨h3, ?_⟩
        cases h1 with
        | mv =>
          simp only at h ⊢
          split at h
          · rename_i h4
            simp only [h4]
            split at h
            · rename_i h5; cases h; exact ⟨h5.1, h5.2, hK⟩
            · cases h
          · cases h
        | al =>
          simp only at h ⊢
          split at h
          · rename_i z' ys h4
            split at h
            · rename_i h5
              obtain ⟨rfl, h5, h6⟩ := h5
              cases h
              exact ⟨ys, h4, h5, scalarsB_ok h6, hK⟩
            · cases h
          · cases h
        | as_ =>
          simp only at h ⊢
          split at h
          · rename_i z' ys h4
            split at h
            · rename_i h5
              obtain ⟨rfl, h5, h6⟩ := h5
              cases h
              exact ⟨ys, h4, h5, scalarsB_ok h6, hK⟩
            · cases h
          · cases h
      · cases h
    · cases h
  | mn d xs =>
    simp only [eOp] at h
    simp only [awpOp]
    split at h
    · rename_i h1
      rw [h1]
      split at h
      · rename_i h2; cases h; exact ⟨h2, hK⟩
      · cases h
    · cases h
  | mx d xs =>
    simp only [eOp] at h
    simp only [awpOp]
    split at h
    · rename_i h1
      rw [h1]
      split at h
      · rename_i h2; cases h; exact ⟨h2, hK⟩
      · cases h
    · cases h
  | call d f as => exact callE_ok hC h hK
  | callv d x as =>
    simp only [eOp] at h
    simp only [awpOp]
    split at h
    · rename_i h1
      rw [h1]
      split at h
      · rename_i h2; exact ⟨hok _ h2, callE_ok hC h hK⟩
      · cases h
    · cases h
end
end M
set_option linter.unusedVariables false
set_option linter.unusedSimpArgs false
namespace M
open Go
mutual
/-- The same value (a Bool). -/
def X.eqb : X → X → Bool
  | .dead, .dead => true
  | .int k n, .int k' n' => decide (k = k') && decide (n = n')
  | .bool a, .bool b => a == b
  | .str s, .str t => decide (s = t)
  | .row m z xs, .row m' z' ys => decide (m = m') && z == z' && X.eqbLL xs ys
  | .ptr m xs, .ptr m' ys => decide (m = m') && X.eqbL xs ys
  | .agg xs, .agg ys => X.eqbL xs ys
  | .tup xs, .tup ys => X.eqbL xs ys
  | .fn f xs, .fn g ys => f == g && X.eqbL xs ys
  | .ref s p, .ref t q => s == t && p == q
  | .adr s p i c, .adr t q j d => s == t && p == q && i == j && c == d
  | .cut s p i c, .cut t q j d => s == t && p == q && i == j && c == d
  | _, _ => false
def X.eqbL : List X → List X → Bool
  | [], [] => true
  | x :: l, y :: r => X.eqb x y && X.eqbL l r
  | _, _ => false
def X.eqbLL : List (List X) → List (List X) → Bool
  | [], [] => true
  | x :: l, y :: r => X.eqbL x y && X.eqbLL l r
  | _, _ => false
end
mutual
theorem X.eqb_eq : ∀ {x y : X}, X.eqb x y = true → x = y
  | .dead, y, h => by cases y <;> simp_all [X.eqb]
  | .int k n, y, h => by cases y <;> simp_all [X.eqb]
  | .bool a, y, h => by cases y <;> simp_all [X.eqb]
  | .str s, y, h => by cases y <;> simp_all [X.eqb]
  | .row m z xs, y, h => by
    cases y <;> simp only [X.eqb, Bool.and_eq_true, decide_eq_true_eq, beq_iff_eq, Bool.false_eq_true] at h
    rw [h.1.1, h.1.2, X.eqbLL_eq h.2]
  | .ptr m xs, y, h => by
    cases y <;> simp only [X.eqb, Bool.and_eq_true, decide_eq_true_eq, beq_iff_eq, Bool.false_eq_true] at h
    rw [h.1, X.eqbL_eq h.2]
  | .agg xs, y, h => by
    cases y <;> simp only [X.eqb, Bool.false_eq_true] at h
    rw [X.eqbL_eq h]
  | .tup xs, y, h => by
    cases y <;> simp only [X.eqb, Bool.false_eq_true] at h
    rw [X.eqbL_eq h]
  | .fn f xs, y, h => by
    cases y <;> simp only [X.eqb, Bool.and_eq_true, beq_iff_eq, Bool.false_eq_true] at h
    rw [h.1, X.eqbL_eq h.2]
  | .ref s p, y, h => by cases y <;> simp_all [X.eqb]
  | .adr s p i c, y, h => by cases y <;> simp_all [X.eqb]
  | .cut s p i c, y, h => by cases y <;> simp_all [X.eqb]
theorem X.eqbL_eq : ∀ {x y : List X}, X.eqbL x y = true → x = y
  | [], [], _ => rfl
  | [], _ :: _, h => by simp [X.eqbL] at h
  | _ :: _, [], h => by simp [X.eqbL] at h
  | x :: l, y :: r, h => by
    simp only [X.eqbL, Bool.and_eq_true] at h
    rw [X.eqb_eq h.1, X.eqbL_eq h.2]
theorem X.eqbLL_eq : ∀ {x y : List (List X)}, X.eqbLL x y = true → x = y
  | [], [], _ => rfl
  | [], _ :: _, h => by simp [X.eqbLL] at h
  | _ :: _, [], h => by simp [X.eqbLL] at h
  | x :: l, y :: r, h => by
    simp only [X.eqbLL, Bool.and_eq_true] at h
    rw [X.eqbL_eq h.1, X.eqbLL_eq h.2]
end
mutual
theorem X.eqb_self : ∀ x : X, X.eqb x x = true
  | .dead => rfl
  | .int k n => by simp [X.eqb]
  | .bool a => by simp [X.eqb]
  | .str s => by simp [X.eqb]
  | .row m z xs => by simp [X.eqb, X.eqbLL_self xs]
  | .ptr m xs => by simp [X.eqb, X.eqbL_self xs]
  | .agg xs => by simp [X.eqb, X.eqbL_self xs]
  | .tup xs => by simp [X.eqb, X.eqbL_self xs]
  | .fn f xs => by simp [X.eqb, X.eqbL_self xs]
  | .ref s p => by simp [X.eqb]
  | .adr s p i c => by simp [X.eqb]
  | .cut s p i c => by simp [X.eqb]
theorem X.eqbL_self : ∀ x : List X, X.eqbL x x = true
  | [] => rfl
  | x :: l => by simp [X.eqbL, X.eqb_self x, X.eqbL_self l]
theorem X.eqbLL_self : ∀ x : List (List X), X.eqbLL x x = true
  | [] => rfl
  | x :: l => by simp [X.eqbLL, X.eqbL_self x, X.eqbLL_self l]
end
def eqS : Slots → Slots → Bool
  | [], [] => true
  | (k, x) :: l, (k', y) :: r => k == k' && X.eqb x y && eqS l r
  | _, _ => false
theorem eqS_eq : ∀ {x y : Slots}, eqS x y = true → x = y
  | [], [], _ => rfl
  | [], _ :: _, h => by simp [eqS] at h
  | _ :: _, [], h => by simp [eqS] at h
  | (k, x) :: l, (k', y) :: r, h => by
    simp only [eqS, Bool.and_eq_true, beq_iff_eq] at h
    rw [h.1.1, X.eqb_eq h.1.2, eqS_eq h.2]
def same : Option Slots → Option Slots → Option Slots
  | some a, some b => if eqS a b = true then some a else none
  | _, _ => none

def eG (C : Ora) (ok : FuncId → Bool) (g : G) (s : Slots) : Option Slots := match g with
  | ⟨none, o⟩ => eOp C ok o s
  | ⟨some (t, b), o⟩ => match get s t with
    | .bool v => if v = b then eOp C ok o ((t, .bool b) :: s) else some (putD o.dst (.tup []) ((t, .bool (!b)) :: s))
    | .tup [] => some (putD o.dst (.tup []) s)
    | _ => none
def eOps (C : Ora) (ok : FuncId → Bool) : List G → Slots → Option Slots
  | [], s => some s
  | g :: l, s => (eG C ok g s).bind (eOps C ok l)
def eD (C : Ora) (ok : FuncId → Bool) : DT → Slots → Option Slots
  | .nil ks, s => some (keep ks s)
  | .step _ g t, s => (eG C ok g s).bind (eD C ok t)
  | .alt a b, s => same (eD C ok a s) (eD C ok b s)
  | .kp ks t, s => eD C ok t (keep ks s)
abbrev Res := Option (Ex × Slots)
def thenA (k : Slots → Res) : Res → Res
  | some (.normal, s) => k s
  | some (.exit i, s) => some (.exit i, s)
  | some (.ret, s) => some (.ret, s)
  | none => none
def blkA (id : Nat) : Res → Res
  | some (.exit i, s) => if i = id then some (.normal, s) else some (.exit i, s)
  | some (.normal, s) => some (.normal, s)
  | some (.ret, s) => some (.ret, s)
  | none => none
def pkA (ks : List Nat) : Res → Res
  | some (.normal, s) => some (.normal, keep ks s)
  | some (.exit i, s) => some (.exit i, s)
  | some (.ret, s) => some (.ret, s)
  | none => none
def nrm : Option Slots → Res
  | some s => some (.normal, s)
  | none => none
/-- A loop of at most so many rounds. -/
def iter (f : Slots → Res) : Nat → Slots → Res
  | 0, _ => none
  | n + 1, s => thenA (iter f n) (f s)
def eA (C : Ora) (ok : FuncId → Bool) (N : Nat) : A → Slots → Res
  | .skip, s => some (.normal, s)
  | .ret, s => some (.ret, s)
  | .exit id, s => some (.exit id, s)
  | .ops l, s => nrm (eOps C ok l s)
  | .draw t, s => nrm (eD C ok t s)
  | .seq a b, s => thenA (eA C ok N b) (eA C ok N a s)
  | .cond c a b, s => match opv s c with
    | .bool t => if t = true then eA C ok N a s else eA C ok N b s
    | _ => none
  | .block id b, s => blkA id (eA C ok N b s)
  | .loop b, s => iter (eA C ok N b) N s
  | .pk ks b, s => pkA ks (eA C ok N b s)
/-- What stands in for a function. -/
structure Fn where
  body : A
  rs : List RV
  n : Nat
abbrev Tab := FuncId → Option Fn
def fin (F : Fn) : Res → Option Out
  | some (.exit _, _) => none
  | some (_, s) => if X.clean.cleanL (takesR F.rs s).1 = true ∧ (takesR F.rs s).1.any X.isTup = false then some (resultX (takesR F.rs s).1, posts 0 F.n (takesR F.rs s).2) else none
  | none => none
def eF (C : Ora) (ok : FuncId → Bool) (N : Nat) (F : Fn) (xs : List X) : Option Out :=
  if xs.length = F.n then fin F (eA C ok N F.body (begins xs)) else none
def okT (T : Tab) (f : FuncId) : Bool := (T f).isSome
def exec (L : Ora) (T : Tab) : Nat → Ora
  | 0, _, _ => none
  | n + 1, f, xs => match T f with
    | some F => eF (exec L T n) (okT T) n F xs
    | none => L f xs

section
variable [Bs] {P : Program} {C : Ora} {ok : FuncId → Bool}
theorem eG_ok (hC : C.Sound P) (hok : ∀ f, ok f = true → fnOk P f = true) {g : G} {s s' : Slots} (h : eG C ok g s = some s') {K : Slots → Prop} (hK : K s') : awpG P g s K := by
  obtain ⟨gg, o⟩ := g
  cases gg with
  | none => exact eOp_ok hC hok h hK
  | some tb =>
    obtain ⟨t, b⟩ := tb
    simp only [eG] at h
    simp only [awpG]
    split at h
    · rename_i v hv
      rw [hv]
      split at h
      · rename_i hvb
        exact ⟨fun _ => eOp_ok hC hok h hK, fun hn => by subst hvb; cases v <;> simp at hn⟩
      · rename_i hvb
        exact ⟨fun hh => (hvb hh).elim, fun _ => by cases h; exact hK⟩
    · rename_i hv
      rw [hv]
      cases h; exact hK
    · cases h
theorem eOps_ok (hC : C.Sound P) (hok : ∀ f, ok f = true → fnOk P f = true) : ∀ {l : List G} {s s' : Slots}, eOps C ok l s = some s' → ∀ {Q : Ex → Slots → Prop}, Q .normal s' → awpOps P l s Q
  | [], s, s', h, Q, hQ => by cases h; exact hQ
  | g :: l, s, s', h, Q, hQ => by
    simp only [eOps] at h
    cases h1 : eG C ok g s with
    | none => rw [h1] at h; cases h
    | some s1 =>
      rw [h1] at h
      exact eG_ok hC hok h1 (eOps_ok hC hok h hQ)
theorem eD_ok (hC : C.Sound P) (hok : ∀ f, ok f = true → fnOk P f = true) : ∀ {t : DT} {s s' : Slots}, eD C ok t s = some s' → ∀ {Q : Ex → Slots → Prop}, Q .normal s' → awpD P t s Q
  | .nil ks, s, s', h, Q, hQ => by cases h; exact hQ
  | .step i g t, s, s', h, Q, hQ => by
    simp only [eD] at h
    cases h1 : eG C ok g s with
    | none => rw [h1] at h; cases h
    | some s1 =>
      rw [h1] at h
      exact eG_ok hC hok h1 (eD_ok hC hok h hQ)
  | .alt a b, s, s', h, Q, hQ => by
    simp only [eD] at h
    unfold same at h
    split at h
    · rename_i x y hx hy
      split at h
      · rename_i he
        obtain rfl := eqS_eq he
        cases h
        exact ⟨eD_ok hC hok hx hQ, eD_ok hC hok hy hQ⟩
      · cases h
    · cases h
  | .kp ks t, s, s', h, Q, hQ => eD_ok (t := t) hC hok h hQ
theorem thenA_some {k : Slots → Res} {r : Res} {e : Ex} {s : Slots} (h : thenA k r = some (e, s)) : (∃ s', r = some (.normal, s') ∧ k s' = some (e, s)) ∨ (e ≠ .normal ∧ r = some (e, s)) := by
  unfold thenA at h
  split at h
  · exact .inl ⟨_, rfl, h⟩
  · cases h; exact .inr ⟨by simp, rfl⟩
  · cases h; exact .inr ⟨by simp, rfl⟩
  · cases h
theorem eA_ok (hC : C.Sound P) (hok : ∀ f, ok f = true → fnOk P f = true) {N : Nat} : ∀ {t : A} {s s' : Slots} {e : Ex}, eA C ok N t s = some (e, s') → ∀ {Q : Ex → Slots → Prop}, Q e s' → awp P t s Q := by
  intro t
  induction t with
  | skip => intro s s' e h Q hQ; cases h; exact hQ
  | ret => intro s s' e h Q hQ; cases h; exact hQ
  | exit id => intro s s' e h Q hQ; cases h; exact hQ
  | ops l =>
    intro s s' e h Q hQ
    simp only [eA] at h
    unfold nrm at h
    split at h
    · rename_i s1 h1; cases h; exact eOps_ok hC hok h1 hQ
    · cases h
  | draw l =>
    intro s s' e h Q hQ
    simp only [eA] at h
    unfold nrm at h
    split at h
    · rename_i s1 h1; cases h; exact eD_ok hC hok h1 hQ
    · cases h
  | seq a b iha ihb =>
    intro s s' e h Q hQ
    simp only [eA] at h
    rcases thenA_some h with ⟨s1, h1, h2⟩ | ⟨hne, h1⟩
    · exact iha h1 (ihb h2 hQ)
    · refine iha h1 ?_
      cases e with
      | normal => exact (hne rfl).elim
      | exit i => exact hQ
      | ret => exact hQ
  | cond c a b iha ihb =>
    intro s s' e h Q hQ
    simp only [eA] at h
    simp only [awp]
    split at h
    · rename_i t ht
      rw [ht]
      split at h
      · rename_i h1
        exact ⟨fun _ => iha h hQ, fun h2 => by rw [h1] at h2; cases h2⟩
      · rename_i h1
        exact ⟨fun h2 => (h1 h2).elim, fun _ => ihb h hQ⟩
    · cases h
  | block id b ih =>
    intro s s' e h Q hQ
    simp only [eA] at h
    unfold blkA at h
    split at h
    · rename_i i s1 h1
      split at h
      · rename_i hi
        cases h
        refine ih h1 ?_
        subst hi
        simpa using hQ
      · rename_i hi
        cases h
        refine ih h1 ?_
        have : (i == id) = false := by simpa using hi
        simpa [this] using hQ
    · rename_i s1 h1; cases h; exact ih h1 hQ
    · rename_i s1 h1; cases h; exact ih h1 hQ
    · cases h
  | loop b ih =>
    intro s s' e h Q hQ
    simp only [eA] at h
    refine ⟨fun n s1 => iter (eA C ok N b) n s1 = some (e, s'), ⟨N, h⟩, fun n s1 h1 => ?_⟩
    cases n with
    | zero => cases h1
    | succ n =>
      simp only [iter] at h1
      rcases thenA_some h1 with ⟨s2, h2, h3⟩ | ⟨hne, h2⟩
      · exact ih h2 ⟨n, Nat.lt_succ_self n, h3⟩
      · refine ih h2 ?_
        cases e with
        | normal => exact (hne rfl).elim
        | exit i => exact hQ
        | ret => exact hQ
  | pk ks b ih =>
    intro s s' e h Q hQ
    simp only [eA] at h
    unfold pkA at h
    split at h
    · rename_i s1 h1; cases h; exact ih h1 hQ
    · rename_i s1 h1; cases h; exact ih h1 hQ
    · rename_i s1 h1; cases h; exact ih h1 hQ
    · cases h
/-- What is in the table is so. -/
structure Tab.Ok (P : Program) (T : Tab) : Prop where
  told : ∀ f F, T f = some F → Told P f F.body F.rs F.n
  ok : ∀ f F, T f = some F → fnOk P f = true
theorem exec_sound {L : Ora} {T : Tab} (hL : L.Sound P) (hT : T.Ok P) : ∀ n, (exec L T n).Sound P
  | 0 => fun f xs o h => by cases h
  | n + 1 => fun f xs o h => by
    simp only [exec] at h
    split at h
    · rename_i F hF
      unfold eF at h
      split at h
      · rename_i hn
        refine (hT.told f F hF).ac hn ?_
        unfold fin at h
        split at h
        · cases h
        · rename_i e s' h1 h2
          split at h
          · rename_i hc
            have h2 : eA (exec L T n) (okT T) n F.body (begins xs) = some (e, s') := h2
            cases h
            refine eA_ok (exec_sound hL hT n) (fun f hf => ?_) h2 ?_
            · unfold okT at hf
              obtain ⟨F', hF'⟩ := Option.isSome_iff_exists.1 hf
              exact hT.ok f F' hF'
            · cases e with
              | exit i => exact (h1 i rfl).elim
              | normal => exact ⟨hc.1, fun x hx => by have := List.any_eq_false.1 hc.2 x hx; simpa using this, rfl, rfl⟩
              | ret => exact ⟨hc.1, fun x hx => by have := List.any_eq_false.1 hc.2 x hx; simpa using this, rfl, rfl⟩
          · cases h
        · cases h
      · cases h
    · exact hL f xs o h
end
end M
set_option linter.unusedVariables false
set_option linter.unusedSimpArgs false
namespace M
open Go
section
variable {C C' : Ora} {ok : FuncId → Bool}
/-- An operation asks the oracle at most once. -/
theorem putR_ask {C : Ora} {d : Option Nat} {s s' : Slots} {f : FuncId} {xs : List X} (h : putR d s (C f xs) = some s') : ∃ o, C f xs = some o ∧ ∀ C' : Ora, C' f xs = some o → putR d s (C' f xs) = some s' := by
  cases ho : C f xs with
  | none => rw [ho] at h; cases h
  | some o => rw [ho] at h; exact ⟨o, rfl, fun C' h' => by rw [h']; exact h⟩
theorem putM_ask {C : Ora} {d : Option Nat} {as : List (AV × PM)} {back : Back} {s' : Slots} {f : FuncId} {xs : List X} (h : putM d as back (C f xs) = some s') : ∃ o, C f xs = some o ∧ ∀ C' : Ora, C' f xs = some o → putM d as back (C' f xs) = some s' := by
  cases ho : C f xs with
  | none => rw [ho] at h; cases h
  | some o => rw [ho] at h; exact ⟨o, rfl, fun C' h' => by rw [h']; exact h⟩
theorem callE_ask {f : FuncId} {d : Option Nat} {as : List (AV × PM)} {fv : Option AV} {s s' : Slots} (h : callE C f d as fv s = some s') :
    ∃ xs o, C f xs = some o ∧ ∀ C' : Ora, C' f xs = some o → callE C' f d as fv s = some s' := by
  unfold callE at h ⊢
  by_cases hb : X.bare.bareL (movs as s).1 = true
  · simp only [if_pos hb] at h ⊢
    cases hm : mutOf as with
    | none =>
      simp only [hm] at h ⊢
      by_cases hc : capsB (movs as s).2 fv f = true
      · simp only [if_pos hc] at h ⊢
        obtain ⟨o, h1, h2⟩ := putR_ask h
        exact ⟨_, o, h1, h2⟩
      · simp only [if_neg hc] at h; cases h
    | some xn =>
      obtain ⟨x, n⟩ := xn
      simp only [hm] at h ⊢
      unfold callM at h ⊢
      split at h
      · split at h
        · rename_i y back h1 h2
          simp only [h1, if_pos h2]
          obtain ⟨o, h1, h2⟩ := putM_ask h
          exact ⟨_, o, h1, h2⟩
        · cases h
      · cases h
  · simp only [if_neg hb] at h; cases h
theorem eOp_ask {o : AOp} {s s' : Slots} (h : eOp C ok o s = some s') : (∀ C' : Ora, eOp C' ok o s = some s') ∨ ∃ f xs r, C f xs = some r ∧ ∀ C' : Ora, C' f xs = some r → eOp C' ok o s = some s' := by
  cases o with
  | call d f as =>
    obtain ⟨xs, o, h1, h2⟩ := callE_ask (C := C) h
    exact .inr ⟨f, xs, o, h1, h2⟩
  | callv d x as =>
    simp only [eOp] at h ⊢
    split at h
    · rename_i f caps hf
      split at h
      · rename_i hok
        obtain ⟨xs, o, h1, h2⟩ := callE_ask (C := C) h
        refine .inr ⟨f, xs, o, h1, fun C' h' => ?_⟩
        simp only [if_pos hok]
        exact h2 C' h'
      · cases h
    · cases h
  | callA d f x as =>
    simp only [eOp] at h ⊢
    split at h
    · rename_i cs h1
      split at h
      · rename_i h2
        simp only [if_pos h2]
        refine .inr ?_
        cases ho : C f (.agg (takeL cs s).1 :: argsOf (takeL cs s).2 .dead as (as.map fun _ => .dead)) with
        | none => rw [ho] at h; cases h
        | some r => rw [ho] at h; exact ⟨f, _, r, ho, fun C' h' => by rw [h']; exact h⟩
      · cases h
    · cases h
  | _ => exact .inl fun _ => h
theorem eG_ask {g : G} {s s' : Slots} (h : eG C ok g s = some s') : (∀ C' : Ora, eG C' ok g s = some s') ∨ ∃ f xs r, C f xs = some r ∧ ∀ C' : Ora, C' f xs = some r → eG C' ok g s = some s' := by
  obtain ⟨gg, o⟩ := g
  cases gg with
  | none => exact eOp_ask h
  | some tb =>
    obtain ⟨t, b⟩ := tb
    simp only [eG] at h ⊢
    split at h
    · rename_i v hv
      split at h
      · rename_i h1
        simp only [hv, if_pos h1]
        exact eOp_ask h
      · rename_i h1
        simp only [hv, if_neg h1]
        exact .inl fun _ => h
    · exact .inl fun _ => h
    · cases h
def Ora.le (C C' : Ora) : Prop := ∀ f xs o, C f xs = some o → C' f xs = some o
theorem eG_mono (hl : C.le C') {g : G} {s s' : Slots} (h : eG C ok g s = some s') : eG C' ok g s = some s' := by
  rcases eG_ask h with h | ⟨f, xs, r, h1, h2⟩
  · exact h _
  · exact h2 _ (hl _ _ _ h1)
theorem eOps_mono (hl : C.le C') : ∀ {l : List G} {s s' : Slots}, eOps C ok l s = some s' → eOps C' ok l s = some s'
  | [], _, _, h => h
  | g :: l, s, s', h => by
    simp only [eOps] at h ⊢
    cases h1 : eG C ok g s with
    | none => rw [h1] at h; cases h
    | some s1 => rw [h1] at h; rw [eG_mono hl h1]; exact eOps_mono hl h
theorem eD_mono (hl : C.le C') : ∀ {t : DT} {s s' : Slots}, eD C ok t s = some s' → eD C' ok t s = some s'
  | .nil _, _, _, h => h
  | .step _ g l, s, s', h => by
    simp only [eD] at h ⊢
    cases h1 : eG C ok g s with
    | none => rw [h1] at h; cases h
    | some s1 => rw [h1] at h; rw [eG_mono hl h1]; exact eD_mono hl h
  | .alt a b, s, s', h => by
    simp only [eD] at h ⊢
    unfold same at h
    split at h
    · rename_i x y hx hy
      rw [eD_mono hl hx, eD_mono hl hy]
      exact h
    · cases h
  | .kp _ t, s, s', h => eD_mono (t := t) hl h
theorem thenA_mono {k k' : Slots → Res} {r r' : Res} {o : Ex × Slots} (h : thenA k r = some o) (hr : ∀ x, r = some x → r' = some x) (hk : ∀ s, k s = some o → k' s = some o) : thenA k' r' = some o := by
  unfold thenA at h
  split at h
  · rw [hr _ rfl]; exact hk _ h
  · rw [hr _ rfl]; exact h
  · rw [hr _ rfl]; exact h
  · cases h
theorem iter_mono {f f' : Slots → Res} (hf : ∀ s o, f s = some o → f' s = some o) : ∀ {n m : Nat} {s : Slots} {o : Ex × Slots}, n ≤ m → iter f n s = some o → iter f' m s = some o
  | 0, _, _, _, _, h => by cases h
  | n + 1, 0, _, _, hn, _ => by omega
  | n + 1, m + 1, s, o, hn, h => thenA_mono h (hf s) fun s' h' => iter_mono hf (by omega) h'
end
/-- A loop, however many rounds. -/
noncomputable def loopW (f : Slots → Res) (s : Slots) : Res := by
  classical exact if h : ∃ o : Ex × Slots, ∃ n, iter f n s = some o then some (Classical.choose h) else none
theorem loopW_of {f : Slots → Res} {s : Slots} {o : Ex × Slots} {n : Nat} (h : iter f n s = some o) : loopW f s = some o := by
  have hh : ∃ o : Ex × Slots, ∃ n, iter f n s = some o := ⟨o, n, h⟩
  unfold loopW
  rw [dif_pos hh]
  obtain ⟨m, hm⟩ := Classical.choose_spec hh
  have h1 := iter_mono (fun _ _ h => h) (Nat.le_max_left m n) hm
  have h2 := iter_mono (fun _ _ h => h) (Nat.le_max_right m n) h
  rw [h1] at h2
  exact h2
theorem loopW_some {f : Slots → Res} {s : Slots} {o : Ex × Slots} (h : loopW f s = some o) : ∃ n, iter f n s = some o := by
  unfold loopW at h
  split at h
  · rename_i hh
    cases h
    exact Classical.choose_spec hh
  · cases h
theorem opt_ext {α : Type} {a b : Option α} (h1 : ∀ x, a = some x → b = some x) (h2 : ∀ x, b = some x → a = some x) : a = b := by
  cases a with
  | none => cases b with
    | none => rfl
    | some y => exact h2 y rfl
  | some x => exact (h1 x rfl).symm
theorem loopW_eq (f : Slots → Res) (s : Slots) : loopW f s = thenA (loopW f) (f s) := by
  refine opt_ext (fun o h => ?_) fun o h => ?_
  · obtain ⟨n, hn⟩ := loopW_some h
    cases n with
    | zero => cases hn
    | succ n => exact thenA_mono hn (fun _ h => h) fun s' h' => loopW_of h'
  · unfold thenA at h
    split at h
    · rename_i s' hs
      obtain ⟨n, hn⟩ := loopW_some h
      refine loopW_of (n := n + 1) ?_
      simp only [iter, hs, thenA]; exact hn
    · rename_i hs; refine loopW_of (n := 1) ?_; simp only [iter, hs, thenA]; exact h
    · rename_i hs; refine loopW_of (n := 1) ?_; simp only [iter, hs, thenA]; exact h
    · cases h
/-- Code, with loops of any length. -/
noncomputable def evA (C : Ora) (ok : FuncId → Bool) : A → Slots → Res
  | .skip, s => some (.normal, s)
  | .ret, s => some (.ret, s)
  | .exit id, s => some (.exit id, s)
  | .ops l, s => nrm (eOps C ok l s)
  | .draw t, s => nrm (eD C ok t s)
  | .seq a b, s => thenA (evA C ok b) (evA C ok a s)
  | .cond c a b, s => match opv s c with
    | .bool t => if t = true then evA C ok a s else evA C ok b s
    | _ => none
  | .block id b, s => blkA id (evA C ok b s)
  | .loop b, s => loopW (evA C ok b) s
  | .pk ks b, s => pkA ks (evA C ok b s)
theorem nrm_mono {a b : Option Slots} (h : ∀ s, a = some s → b = some s) {o : Ex × Slots} (ho : nrm a = some o) : nrm b = some o := by
  unfold nrm at ho
  split at ho
  · rw [h _ rfl]; exact ho
  · cases ho
theorem blkA_mono {id : Nat} {a b : Res} (h : ∀ s, a = some s → b = some s) {o : Ex × Slots} (ho : blkA id a = some o) : blkA id b = some o := by
  cases a with
  | none => cases ho
  | some x => rw [h _ rfl]; exact ho
theorem pkA_mono {ks : List Nat} {a b : Res} (h : ∀ s, a = some s → b = some s) {o : Ex × Slots} (ho : pkA ks a = some o) : pkA ks b = some o := by
  cases a with
  | none => cases ho
  | some x => rw [h _ rfl]; exact ho
theorem eA_evA {C C' : Ora} {ok : FuncId → Bool} (hl : C.le C') {N : Nat} : ∀ {t : A} {s : Slots} {o : Ex × Slots}, eA C ok N t s = some o → evA C' ok t s = some o := by
  intro t
  induction t with
  | skip => intro s o h; exact h
  | ret => intro s o h; exact h
  | exit id => intro s o h; exact h
  | ops l => intro s o h; exact nrm_mono (fun s' h' => eOps_mono hl h') h
  | draw l => intro s o h; exact nrm_mono (fun s' h' => eD_mono hl h') h
  | seq a b iha ihb => intro s o h; exact thenA_mono h (fun x hx => iha hx) fun s' h' => ihb h'
  | cond c a b iha ihb =>
    intro s o h
    simp only [eA] at h
    simp only [evA]
    split at h
    · rename_i t ht
      try rw [ht]
      cases t with
      | true => exact iha h
      | false => exact ihb h
    · cases h
  | block id b ih => intro s o h; exact blkA_mono (fun x hx => ih hx) h
  | loop b ih => intro s o h; exact loopW_of (iter_mono (fun s o h => ih h) (Nat.le_refl _) h)
  | pk ks b ih => intro s o h; exact pkA_mono (fun x hx => ih hx) h
/-- Code, with more and more fuel. -/
theorem eA_mono {C C' : Ora} {ok : FuncId → Bool} (hl : C.le C') {N N' : Nat} (hN : N ≤ N') : ∀ {t : A} {s : Slots} {o : Ex × Slots}, eA C ok N t s = some o → eA C' ok N' t s = some o := by
  intro t
  induction t with
  | skip => intro s o h; exact h
  | ret => intro s o h; exact h
  | exit id => intro s o h; exact h
  | ops l => intro s o h; exact nrm_mono (fun s' h' => eOps_mono hl h') h
  | draw l => intro s o h; exact nrm_mono (fun s' h' => eD_mono hl h') h
  | seq a b iha ihb => intro s o h; exact thenA_mono h (fun x hx => iha hx) fun s' h' => ihb h'
  | cond c a b iha ihb =>
    intro s o h
    simp only [eA] at h ⊢
    split at h
    · rename_i t ht
      cases t with
      | true => exact iha h
      | false => exact ihb h
    · cases h
  | block id b ih => intro s o h; exact blkA_mono (fun x hx => ih hx) h
  | loop b ih => intro s o h; exact iter_mono (fun s o h => ih h) hN h
  | pk ks b ih => intro s o h; exact pkA_mono (fun x hx => ih hx) h
theorem exec_mono {L : Ora} {T : Tab} : ∀ {n m : Nat}, n ≤ m → (exec L T n).le (exec L T m)
  | 0, _, _, _, _, _, h => by cases h
  | n + 1, 0, hn, _, _, _, _ => by omega
  | n + 1, m + 1, hn, f, xs, o, h => by
    have hnm : n ≤ m := by omega
    simp only [exec] at h ⊢
    split at h
    · rename_i F hF
      unfold eF at h ⊢
      split at h
      · rename_i hl
        rw [if_pos hl]
        cases hr : eA (exec L T n) (okT T) n F.body (begins xs) with
        | none => rw [hr] at h; cases h
        | some r => rw [hr] at h; rw [eA_mono (exec_mono hnm) hnm hr]; exact h
      · cases h
    · exact h
/-- What a function comes to. -/
noncomputable def ev (L : Ora) (T : Tab) : Ora := fun f xs => by
  classical exact if h : ∃ o : Out, ∃ n, exec L T n f xs = some o then some (Classical.choose h) else none
theorem ev_of {L : Ora} {T : Tab} {f : FuncId} {xs : List X} {o : Out} {n : Nat} (h : exec L T n f xs = some o) : ev L T f xs = some o := by
  have hh : ∃ o : Out, ∃ n, exec L T n f xs = some o := ⟨o, n, h⟩
  unfold ev
  rw [dif_pos hh]
  obtain ⟨m, hm⟩ := Classical.choose_spec hh
  have h1 := exec_mono (Nat.le_max_left m n) f xs _ hm
  have h2 := exec_mono (Nat.le_max_right m n) f xs _ h
  rw [h1] at h2
  exact h2
theorem ev_some {L : Ora} {T : Tab} {f : FuncId} {xs : List X} {o : Out} (h : ev L T f xs = some o) : ∃ n, exec L T n f xs = some o := by
  unfold ev at h
  split at h
  · rename_i hh
    cases h
    exact Classical.choose_spec hh
  · cases h
theorem exec_ev (L : Ora) (T : Tab) (n : Nat) : (exec L T n).le (ev L T) := fun _ _ _ h => ev_of h
theorem ev_sound [Bs] {P : Program} {L : Ora} {T : Tab} (hL : L.Sound P) (hT : T.Ok P) : (ev L T).Sound P := fun f xs o h => by
  obtain ⟨n, hn⟩ := ev_some h
  exact exec_sound hL hT n f xs o hn
section
variable {L : Ora} {T : Tab}
theorem eG_fin {g : G} {s s' : Slots} (h : eG (ev L T) (okT T) g s = some s') : ∃ n, ∀ m, n ≤ m → eG (exec L T m) (okT T) g s = some s' := by
  rcases eG_ask h with h | ⟨f, xs, r, h1, h2⟩
  · exact ⟨0, fun m _ => h _⟩
  · obtain ⟨n, hn⟩ := ev_some h1
    exact ⟨n, fun m hm => h2 _ (exec_mono hm f xs r hn)⟩
theorem eOps_fin : ∀ {l : List G} {s s' : Slots}, eOps (ev L T) (okT T) l s = some s' → ∃ n, ∀ m, n ≤ m → eOps (exec L T m) (okT T) l s = some s'
  | [], s, s', h => ⟨0, fun m _ => h⟩
  | g :: l, s, s', h => by
    simp only [eOps] at h ⊢
    cases h1 : eG (ev L T) (okT T) g s with
    | none => rw [h1] at h; cases h
    | some s1 =>
      rw [h1] at h
      obtain ⟨n1, hn1⟩ := eG_fin h1
      obtain ⟨n2, hn2⟩ := eOps_fin (l := l) h
      exact ⟨max n1 n2, fun m hm => by rw [hn1 m (by omega)]; exact hn2 m (by omega)⟩
theorem eD_fin : ∀ {l : DT} {s s' : Slots}, eD (ev L T) (okT T) l s = some s' → ∃ n, ∀ m, n ≤ m → eD (exec L T m) (okT T) l s = some s'
  | .nil _, s, s', h => ⟨0, fun m _ => h⟩
  | .step _ g l, s, s', h => by
    simp only [eD] at h ⊢
    cases h1 : eG (ev L T) (okT T) g s with
    | none => rw [h1] at h; cases h
    | some s1 =>
      rw [h1] at h
      obtain ⟨n1, hn1⟩ := eG_fin h1
      obtain ⟨n2, hn2⟩ := eD_fin (l := l) h
      exact ⟨max n1 n2, fun m hm => by rw [hn1 m (by omega)]; exact hn2 m (by omega)⟩
  | .alt a b, s, s', h => by
    simp only [eD] at h ⊢
    unfold same at h
    split at h
    · rename_i x y hx hy
      obtain ⟨n1, hn1⟩ := eD_fin hx
      obtain ⟨n2, hn2⟩ := eD_fin hy
      exact ⟨max n1 n2, fun m hm => by rw [hn1 m (by omega), hn2 m (by omega)]; exact h⟩
    · cases h
  | .kp _ t, s, s', h => eD_fin (l := t) h
theorem nrm_fin {a : Option Slots} {b : Nat → Option Slots} (h : ∀ s, a = some s → ∃ n, ∀ m, n ≤ m → b m = some s) {o : Ex × Slots} (ho : nrm a = some o) : ∃ n, ∀ m, n ≤ m → nrm (b m) = some o := by
  cases a with
  | none => cases ho
  | some s =>
    obtain ⟨n, hn⟩ := h s rfl
    exact ⟨n, fun m hm => by rw [hn m hm]; exact ho⟩
theorem evA_fin : ∀ {t : A} {s : Slots} {o : Ex × Slots}, evA (ev L T) (okT T) t s = some o → ∃ n, ∀ m, n ≤ m → eA (exec L T m) (okT T) m t s = some o := by
  intro t
  induction t with
  | skip => intro s o h; exact ⟨0, fun m _ => h⟩
  | ret => intro s o h; exact ⟨0, fun m _ => h⟩
  | exit id => intro s o h; exact ⟨0, fun m _ => h⟩
  | ops l => intro s o h; exact nrm_fin (fun s h => eOps_fin h) h
  | draw l => intro s o h; exact nrm_fin (fun s h => eD_fin h) h
  | seq a b iha ihb =>
    intro s o h
    simp only [evA] at h
    simp only [eA]
    cases hr : evA (ev L T) (okT T) a s with
    | none => rw [hr] at h; cases h
    | some r =>
      rw [hr] at h
      obtain ⟨n1, hn1⟩ := iha hr
      obtain ⟨e, s1⟩ := r
      cases e with
      | normal =>
        obtain ⟨n2, hn2⟩ := ihb (s := s1) h
        exact ⟨max n1 n2, fun m hm => by rw [hn1 m (by omega)]; exact hn2 m (by omega)⟩
      | exit i => exact ⟨n1, fun m hm => by rw [hn1 m hm]; exact h⟩
      | ret => exact ⟨n1, fun m hm => by rw [hn1 m hm]; exact h⟩
  | cond c a b iha ihb =>
    intro s o h
    simp only [evA] at h
    simp only [eA]
    split at h
    · rename_i t ht
      try rw [ht]
      cases t with
      | true => exact iha h
      | false => exact ihb h
    · cases h
  | block id b ih =>
    intro s o h
    simp only [evA] at h
    simp only [eA]
    cases hr : evA (ev L T) (okT T) b s with
    | none => rw [hr] at h; cases h
    | some r =>
      rw [hr] at h
      obtain ⟨n1, hn1⟩ := ih hr
      exact ⟨n1, fun m hm => by rw [hn1 m hm]; exact h⟩
  | pk ks b ih =>
    intro s o h
    simp only [evA] at h
    simp only [eA]
    cases hr : evA (ev L T) (okT T) b s with
    | none => rw [hr] at h; cases h
    | some r =>
      rw [hr] at h
      obtain ⟨n1, hn1⟩ := ih hr
      exact ⟨n1, fun m hm => by rw [hn1 m hm]; exact h⟩
  | loop b ih =>
    intro s o h
    simp only [evA] at h
    obtain ⟨n, hn⟩ := loopW_some h
    have go : ∀ (n : Nat) (s : Slots), iter (evA (ev L T) (okT T) b) n s = some o → ∃ k, ∀ m, k ≤ m → iter (eA (exec L T m) (okT T) m b) n s = some o := by
      intro n
      induction n with
      | zero => intro s h; cases h
      | succ n ihn =>
        intro s h
        simp only [iter] at h ⊢
        cases hr : evA (ev L T) (okT T) b s with
        | none => rw [hr] at h; cases h
        | some r =>
          rw [hr] at h
          obtain ⟨n1, hn1⟩ := ih hr
          obtain ⟨e, s1⟩ := r
          cases e with
          | normal =>
            obtain ⟨n2, hn2⟩ := ihn s1 h
            exact ⟨max n1 n2, fun m hm => by rw [hn1 m (by omega)]; exact hn2 m (by omega)⟩
          | exit i => exact ⟨n1, fun m hm => by rw [hn1 m hm]; exact h⟩
          | ret => exact ⟨n1, fun m hm => by rw [hn1 m hm]; exact h⟩
    obtain ⟨k, hk⟩ := go n s hn
    refine ⟨max k n, fun m hm => ?_⟩
    simp only [eA]
    exact iter_mono (fun _ _ h => h) (by omega) (hk m (by omega))
/-- A function's body. -/
noncomputable def evF (L : Ora) (T : Tab) (F : Fn) (xs : List X) : Option Out :=
  if xs.length = F.n then fin F (evA (ev L T) (okT T) F.body (begins xs)) else none
theorem ev_eq {f : FuncId} {F : Fn} (hF : T f = some F) (xs : List X) : ev L T f xs = evF L T F xs := by
  refine opt_ext (fun o h => ?_) fun o h => ?_
  · obtain ⟨n, hn⟩ := ev_some h
    cases n with
    | zero => cases hn
    | succ n =>
      simp only [exec, hF] at hn
      unfold eF at hn
      unfold evF
      split at hn
      · rename_i hl
        rw [if_pos hl]
        cases hr : eA (exec L T n) (okT T) n F.body (begins xs) with
        | none => rw [hr] at hn; cases hn
        | some r => rw [hr] at hn; rw [eA_evA (exec_ev L T n) hr]; exact hn
      · cases hn
  · unfold evF at h
    split at h
    · rename_i hl
      cases hr : evA (ev L T) (okT T) F.body (begins xs) with
      | none => rw [hr] at h; cases h
      | some r =>
        rw [hr] at h
        obtain ⟨n, hn⟩ := evA_fin hr
        refine ev_of (n := n + 1) ?_
        simp only [exec, hF, eF, if_pos hl, hn n (Nat.le_refl n)]
        exact h
    · cases h
theorem ev_lib {f : FuncId} (hF : T f = none) (xs : List X) : ev L T f xs = L f xs := by
  refine opt_ext (fun o h => ?_) fun o h => ?_
  · obtain ⟨n, hn⟩ := ev_some h
    cases n with
    | zero => cases hn
    | succ n => simpa only [exec, hF] using hn
  · refine ev_of (n := 1) ?_
    simpa only [exec, hF] using h
end
end M
set_option linter.unusedVariables false
set_option linter.unusedSimpArgs false
namespace M
open Go
/-! Equations for simp. -/
section
variable {C : Ora} {ok : FuncId → Bool} {T : Tab}
@[simp] theorem evA_skip (s : Slots) : evA C ok .skip s = some (.normal, s) := rfl
@[simp] theorem evA_ret (s : Slots) : evA C ok .ret s = some (.ret, s) := rfl
@[simp] theorem evA_exit (i : Nat) (s : Slots) : evA C ok (.exit i) s = some (.exit i, s) := rfl
@[simp] theorem evA_ops (l : List G) (s : Slots) : evA C ok (.ops l) s = nrm (eOps C ok l s) := rfl
@[simp] theorem evA_draw (t : DT) (s : Slots) : evA C ok (.draw t) s = nrm (eD C ok t s) := rfl
@[simp] theorem evA_seq (a b : A) (s : Slots) : evA C ok (.seq a b) s = thenA (evA C ok b) (evA C ok a s) := rfl
@[simp] theorem evA_block (i : Nat) (b : A) (s : Slots) : evA C ok (.block i b) s = blkA i (evA C ok b s) := rfl
@[simp] theorem evA_loop (b : A) (s : Slots) : evA C ok (.loop b) s = loopW (evA C ok b) s := rfl
@[simp] theorem evA_pk (ks : List Nat) (b : A) (s : Slots) : evA C ok (.pk ks b) s = pkA ks (evA C ok b s) := rfl
noncomputable def condA (C : Ora) (ok : FuncId → Bool) (a b : A) (s : Slots) : X → Res
  | .bool t => if t = true then evA C ok a s else evA C ok b s
  | _ => none
@[simp] theorem evA_cond (c : AV) (a b : A) (s : Slots) : evA C ok (.cond c a b) s = condA C ok a b s (opv s c) := by
  simp only [evA]; cases opv s c <;> rfl
@[simp] theorem condA_bool (a b : A) (s : Slots) (t : Bool) : condA C ok a b s (.bool t) = if t = true then evA C ok a s else evA C ok b s := rfl
@[simp] theorem eOps_nil (s : Slots) : eOps C ok [] s = some s := rfl
@[simp] theorem eOps_cons (g : G) (l : List G) (s : Slots) : eOps C ok (g :: l) s = (eG C ok g s).bind (eOps C ok l) := rfl
@[simp] theorem eD_nil (ks : List Nat) (s : Slots) : eD C ok (.nil ks) s = some (keep ks s) := rfl
@[simp] theorem eD_step (i : Nat) (g : G) (t : DT) (s : Slots) : eD C ok (.step i g t) s = (eG C ok g s).bind (eD C ok t) := rfl
@[simp] theorem eD_alt (a b : DT) (s : Slots) : eD C ok (.alt a b) s = same (eD C ok a s) (eD C ok b s) := rfl
@[simp] theorem eD_kp (ks : List Nat) (t : DT) (s : Slots) : eD C ok (.kp ks t) s = eD C ok t (keep ks s) := rfl
@[simp] theorem same_self (s : Slots) : same (some s) (some s) = some s := by
  have : eqS s s = true := by
    induction s with
    | nil => rfl
    | cons a l ih => obtain ⟨k, x⟩ := a; simp [eqS, X.eqb_self, ih]
  simp [same, this]
@[simp] theorem bind_ite (c : Prop) [Decidable c] (a b : Option Slots) (f : Slots → Option Slots) : (if c then a else b).bind f = if c then a.bind f else b.bind f := by split <;> rfl
def guardG (C : Ora) (ok : FuncId → Bool) (o : AOp) (t : Nat) (b : Bool) (s : Slots) : X → Option Slots
  | .bool v => if v = b then eOp C ok o ((t, .bool b) :: s) else some (putD o.dst (.tup []) ((t, .bool (!b)) :: s))
  | .tup [] => some (putD o.dst (.tup []) s)
  | _ => none
@[simp] theorem eG_none (o : AOp) (s : Slots) : eG C ok ⟨none, o⟩ s = eOp C ok o s := rfl
@[simp] theorem eG_some (t : Nat) (b : Bool) (o : AOp) (s : Slots) : eG C ok ⟨some (t, b), o⟩ s = guardG C ok o t b s (get s t) := by
  simp only [eG]
  split <;> simp_all [guardG]
@[simp] theorem guardG_bool (o : AOp) (t : Nat) (b v : Bool) (s : Slots) : guardG C ok o t b s (.bool v) = if v = b then eOp C ok o ((t, .bool b) :: s) else some (putD o.dst (.tup []) ((t, .bool (!b)) :: s)) := rfl
@[simp] theorem guardG_un (o : AOp) (t : Nat) (b : Bool) (s : Slots) : guardG C ok o t b s (.tup []) = some (putD o.dst (.tup []) s) := rfl
@[simp] theorem nrm_some (s : Slots) : nrm (some s) = some (.normal, s) := rfl
@[simp] theorem nrm_none : nrm none = none := rfl
@[simp] theorem nrm_ite (c : Prop) [Decidable c] (a b : Option Slots) : nrm (if c then a else b) = if c then nrm a else nrm b := by split <;> rfl
@[simp] theorem thenA_normal (k : Slots → Res) (s : Slots) : thenA k (some (.normal, s)) = k s := rfl
@[simp] theorem thenA_exit (k : Slots → Res) (i : Nat) (s : Slots) : thenA k (some (.exit i, s)) = some (.exit i, s) := rfl
@[simp] theorem thenA_ret (k : Slots → Res) (s : Slots) : thenA k (some (.ret, s)) = some (.ret, s) := rfl
@[simp] theorem thenA_none (k : Slots → Res) : thenA k none = none := rfl
@[simp] theorem thenA_ite (k : Slots → Res) (c : Prop) [Decidable c] (a b : Res) : thenA k (if c then a else b) = if c then thenA k a else thenA k b := by split <;> rfl
@[simp] theorem blkA_normal (i : Nat) (s : Slots) : blkA i (some (.normal, s)) = some (.normal, s) := rfl
@[simp] theorem blkA_exit (i j : Nat) (s : Slots) : blkA i (some (.exit j, s)) = if j = i then some (.normal, s) else some (.exit j, s) := rfl
@[simp] theorem blkA_ret (i : Nat) (s : Slots) : blkA i (some (.ret, s)) = some (.ret, s) := rfl
@[simp] theorem blkA_none (i : Nat) : blkA i none = none := rfl
@[simp] theorem blkA_ite (i : Nat) (c : Prop) [Decidable c] (a b : Res) : blkA i (if c then a else b) = if c then blkA i a else blkA i b := by split <;> rfl
@[simp] theorem pkA_normal (ks : List Nat) (s : Slots) : pkA ks (some (.normal, s)) = some (.normal, keep ks s) := rfl
@[simp] theorem pkA_exit (ks : List Nat) (i : Nat) (s : Slots) : pkA ks (some (.exit i, s)) = some (.exit i, s) := rfl
@[simp] theorem pkA_ret (ks : List Nat) (s : Slots) : pkA ks (some (.ret, s)) = some (.ret, s) := rfl
@[simp] theorem pkA_none (ks : List Nat) : pkA ks none = none := rfl
@[simp] theorem pkA_ite (ks : List Nat) (c : Prop) [Decidable c] (a b : Res) : pkA ks (if c then a else b) = if c then pkA ks a else pkA ks b := by split <;> rfl
def finR (rs : List RV) (n : Nat) : Res → Option Out
  | some (.exit _, _) => none
  | some (_, s) => if X.clean.cleanL (takesR rs s).1 = true ∧ (takesR rs s).1.any X.isTup = false then some (resultX (takesR rs s).1, posts 0 n (takesR rs s).2) else none
  | none => none
def finS (rs : List RV) (n : Nat) (s : Slots) : Option Out := if X.clean.cleanL (takesR rs s).1 = true ∧ (takesR rs s).1.any X.isTup = false then some (resultX (takesR rs s).1, posts 0 n (takesR rs s).2) else none
theorem ev_run {L : Ora} {T : Tab} {f : FuncId} {b : A} {rs : List RV} {n : Nat} (h : T f = some ⟨b, rs, n⟩) {xs : List X} (hl : xs.length = n) : ev L T f xs = finR rs n (evA (ev L T) (okT T) b (begins xs)) := by
  rw [ev_eq h]
  unfold evF
  rw [if_pos hl]
  rfl
@[simp] theorem finR_ret (rs : List RV) (n : Nat) (s : Slots) : finR rs n (some (.ret, s)) = finS rs n s := rfl
@[simp] theorem finR_normal (rs : List RV) (n : Nat) (s : Slots) : finR rs n (some (.normal, s)) = finS rs n s := rfl
@[simp] theorem finR_none (rs : List RV) (n : Nat) : finR rs n none = none := rfl
@[simp] theorem finR_ite (rs : List RV) (n : Nat) (c : Prop) [Decidable c] (a b : Res) : finR rs n (if c then a else b) = if c then finR rs n a else finR rs n b := by split <;> rfl
@[simp] theorem putR_some (d : Option Nat) (s : Slots) (r : X) (ps : List X) : putR d s (some (r, ps)) = some (putD d r s) := rfl
@[simp] theorem putR_none (d : Option Nat) (s : Slots) : putR d s none = none := rfl
@[simp] theorem putR_ite (d : Option Nat) (s : Slots) (c : Prop) [Decidable c] (a b : Option Out) : putR d s (if c then a else b) = if c then putR d s a else putR d s b := by split <;> rfl
end
attribute [simp] finS eOp begins startA startB takesR posts post resultX X.isTup X.clean X.clean.cleanL X.clean.cleanLL keep unB binB callE capsB
end M
set_option linter.unusedVariables false
set_option linter.unusedSimpArgs false
namespace M
open Go
/-! slices.Clone, whatever the elements, as long as they hold no rows. -/
def cloneA (z bytes : Nat) : A := (.seq (.pk [0] (.ops [⟨none, .asg 2 .as_ (.k (.row .own z []))⟩])) (.seq (.seq (.pk [0, 4] (.ops [⟨none, .mv 3 (.t 0)⟩, ⟨none, .nilq 4 false (.t 3)⟩])) (.pk [0] (.cond (.t 4) (.seq (.pk [2, 7] (.ops [⟨none, .asg 2 .as_ (.k (.row .own z []))⟩])) .ret) .skip))) (.seq (.pk [2, 7] (.ops [⟨none, .lit 5 .mv z []⟩, ⟨none, .mv 6 (.t 0)⟩, ⟨none, .app 7 .al z bytes (.t 5) (.t 6)⟩, ⟨none, .asg 2 .as_ (.t 7)⟩])) .ret)))
theorem clean_scalars : ∀ {rows : List (List X)}, scalarsB rows = true → X.clean.cleanLL rows = true
  | [], _ => rfl
  | e :: l, h => by
    simp only [scalarsB, Bool.and_eq_true, List.all_eq_true] at h
    have h1 : X.clean.cleanL e = true := by
      have h2 := h.1
      clear h
      induction e with
      | nil => rfl
      | cons x e ih =>
        have hx := h2 x (List.mem_cons_self ..)
        have he := ih fun y hy => h2 y (List.mem_cons_of_mem _ hy)
        cases x <;> simp_all [scalar, X.clean.cleanL, X.clean]
    simp only [X.clean.cleanLL, h1, clean_scalars h.2, Bool.and_self]
theorem clone_ac [Bs] {P : Program} {f : FuncId} {z bytes : Nat} (hT : Told P f (cloneA z bytes) [.t 2] 1) {rows : List (List X)} (h1 : rows.length * bytes ≤ 140737488355328) (h2 : scalarsB rows = true) (h4 : rowCells rows = true ∨ rows = []) :
    AC P f [.row .bor z rows] fun r ps => r = .row .own z rows ∧ ps = [.dead] := by
  refine hT.ac rfl ?_
  have h3 := scalarsB_ok h2
  have h5 := clean_scalars h2
  simp [cloneA, awp, awpOps, awpG, awpOp, base, Ends, h1, h3, h5]
  intro h6
  rcases h4 with h4 | h4
  · rw [h4] at h6; cases h6
  · subst h4; simp
def cloneO (f0 z bytes : Nat) : Ora := fun f xs => if f = f0 then (match xs with
  | [.row .bor z' rows] => if z' = z ∧ rows.length * bytes ≤ 140737488355328 ∧ scalarsB rows = true ∧ (rowCells rows = true ∨ rows = []) then some (.row .own z rows, [.dead]) else none
  | _ => none) else none
theorem cloneO_sound [Bs] {P : Program} {f0 z bytes : Nat} (hT : Told P f0 (cloneA z bytes) [.t 2] 1) : (cloneO f0 z bytes).Sound P := fun f xs o h => by
  unfold cloneO at h
  split at h
  · rename_i hf
    subst hf
    split at h
    · split at h
      · rename_i hc
        obtain ⟨rfl, c1, c2, c3⟩ := hc
        cases h
        exact clone_ac hT c1 c2 c3
      · cases h
    · cases h
  · cases h
/-- Two libraries in one. -/
def orO (L L' : Ora) : Ora := fun f xs => match L f xs with
  | some o => some o
  | none => L' f xs
theorem orO_sound [Bs] {P : Program} {L L' : Ora} (h : L.Sound P) (h' : L'.Sound P) : (orO L L').Sound P := fun f xs o e => by
  unfold orO at e
  split at e
  · rename_i o' e'
    cases e
    exact h f xs _ e'
  · exact h' f xs _ e
end M
set_option linter.unusedVariables false
set_option linter.unusedSimpArgs false
namespace M
open Go
/-! A function of the library that takes numbers, Bools and strings, gives one of these, and leaves the world as it was. -/
def sv : X → Value
  | .int k n => .int k n
  | .bool b => .bool b
  | .str s => .string s
  | _ => undef
theorem sv_val {c : C} (h : scalar c.er = true) : c.val = sv c.er := by
  cases c <;> first | rfl | (simp [C.er, scalar] at h)
def svC : X → C
  | .int k n => .int k n
  | .bool b => .bool b
  | .str s => .str s
  | _ => .dead undef
def svOk : X → Bool
  | .str s => decide (s.size ≤ 9223372036854775807)
  | x => scalar x
theorem ac_pure [Bs] {P : Program} {f : FuncId} {xs : List X} {r : X} (hx : ∀ x ∈ xs, scalar x = true) (hr : svOk r = true)
    (h : ∀ w, Calls P f (xs.map sv).toArray w fun e w' => e = .returned (sv r) ∧ w' = w) : AC P f xs fun r' ps => r' = r ∧ ps = xs.map fun _ => .dead := by
  intro w zl zb cs e hA hgl
  have hv : cs.map C.val = xs.map sv := by
    rw [← e, List.map_map]
    exact List.map_congr_left fun c hc => sv_val (hx _ (e ▸ List.mem_map_of_mem hc))
  rw [hv]
  refine (h w).mono fun e' w' ⟨he, hw⟩ => ?_
  subst hw
  have hs : ∃ c : C, c.er = r ∧ c.val = sv r ∧ c.ok w' (Zf zl fun _ _ => False) ∧ c.bare ∧ ∀ b k, ¬ c.fp b k := by
    cases r with
    | int k n => exact ⟨.int k n, rfl, rfl, trivial, trivial, fun _ _ h => h⟩
    | bool b => exact ⟨.bool b, rfl, rfl, trivial, trivial, fun _ _ h => h⟩
    | str s => exact ⟨.str s, rfl, rfl, by simp [svOk] at hr; exact hr, trivial, fun _ _ h => h⟩
    | _ => simp [svOk, scalar] at hr
  obtain ⟨c, c1, c2, c3, c4, c5⟩ := hs
  refine ⟨c, cs.map fun x => .dead x.val, zl, ⟨by rw [he, c2], by rw [List.map_map]; rfl, Ext.refl _ _, ⟨fun x hx' => ?_, fun x hx' => ?_, fun x hx' b k hf => ?_, fun b k hz => hA.zin b k (hz.imp id fun h => h.elim), ?_⟩, fun x hx' b k hf => ?_, fun _ _ h => h, fun _ _ h => .inl h⟩, c1, ?_⟩
  · rcases List.mem_cons.1 hx' with rfl | hx'
    · exact c3
    · obtain ⟨y, _, rfl⟩ := List.mem_map.1 hx'; trivial
  · rcases List.mem_cons.1 hx' with rfl | hx'
    · exact c4
    · obtain ⟨y, _, rfl⟩ := List.mem_map.1 hx'; trivial
  · rcases List.mem_cons.1 hx' with rfl | hx'
    · exact (c5 b k hf).elim
    · obtain ⟨y, _, rfl⟩ := List.mem_map.1 hx'; exact hf.elim
  · refine List.pairwise_cons.2 ⟨fun x _ b k hf => (c5 b k hf).elim, ?_⟩
    refine List.pairwise_iff_getElem.2 fun i j hi hj _ b k hf => ?_
    obtain ⟨y, _, hy⟩ := List.mem_map.1 (List.getElem_mem hi)
    rw [← hy] at hf
    exact hf.elim
  · rcases List.mem_cons.1 hx' with rfl | hx'
    · exact (c5 b k hf).elim
    · obtain ⟨y, _, rfl⟩ := List.mem_map.1 hx'; exact hf.elim
  · rw [← e]
    simp [List.map_map, Function.comp_def, C.er]
/-- A library function given by a function on the values. -/
def pureO (f0 : FuncId) (g : List X → Option X) : Ora := fun f xs => if f = f0 then (match g xs with
  | some r => if xs.all scalar = true ∧ svOk r = true then some (r, xs.map fun _ => .dead) else none
  | none => none) else none
theorem pureO_sound [Bs] {P : Program} {f0 : FuncId} {g : List X → Option X} (h : ∀ xs r, g xs = some r → ∀ w, Calls P f0 (xs.map sv).toArray w fun e w' => e = .returned (sv r) ∧ w' = w) : (pureO f0 g).Sound P := fun f xs o e => by
  unfold pureO at e
  split at e
  · rename_i hf
    subst hf
    split at e
    · rename_i r hr
      split at e
      · rename_i hc
        cases e
        exact ac_pure (List.all_eq_true.1 hc.1) hc.2 (h xs r hr)
      · cases e
    · cases e
  · cases e
end M
set_option linter.unusedVariables false
set_option linter.unusedSimpArgs false
namespace M
open Go Go.Sort
/-! A function of the library that takes numbers, Bools and strings, gives one of these, and leaves new blocks and draws in the world. -/
/-- What lay in the first world lies here as it lay there. -/
def Same0 [B : Bs] (w : World) : Prop := ∀ b, b < B.W0.heap.size → w.heap[b]? = B.W0.heap[b]?
theorem ac_grow [Bs] {P : Program} {f : FuncId} {xs : List X} {r : X} (hx : ∀ x ∈ xs, scalar x = true) (hr : svOk r = true)
    (h : ∀ w, Same0 w → Calls P f (xs.map sv).toArray w fun e w' => e = .returned (sv r) ∧ ∃ k os, w' = grow (w.drewN k) os) : AC P f xs fun r' ps => r' = r ∧ ps = xs.map fun _ => .dead := by
  intro w zl zb cs e hA hgl
  have hv : cs.map C.val = xs.map sv := by
    rw [← e, List.map_map]
    exact List.map_congr_left fun c hc => sv_val (hx _ (e ▸ List.mem_map_of_mem hc))
  rw [hv]
  refine (h w fun b hb => (hgl b hb).1).mono fun e' w' ⟨he, k, os, hw⟩ => ?_
  subst hw
  have hsz : w.heap.size ≤ (grow (w.drewN k) os).heap.size := by simp [grow, World.drewN]
  have hs : ∃ c : C, c.er = r ∧ c.val = sv r ∧ c.ok (grow (w.drewN k) os) (Zf zl fun _ _ => False) ∧ c.bare ∧ ∀ b k, ¬ c.fp b k := by
    cases r with
    | int k n => exact ⟨.int k n, rfl, rfl, trivial, trivial, fun _ _ h => h⟩
    | bool b => exact ⟨.bool b, rfl, rfl, trivial, trivial, fun _ _ h => h⟩
    | str s => exact ⟨.str s, rfl, rfl, by simp [svOk] at hr; exact hr, trivial, fun _ _ h => h⟩
    | _ => simp [svOk, scalar] at hr
  obtain ⟨c, c1, c2, c3, c4, c5⟩ := hs
  have hext : Ext (fun b k => ∃ x ∈ cs, x.fp b k) w (grow (w.drewN k) os) := ⟨rfl, rfl, rfl, hsz, fun b hb => .inl (by
    show (w.heap ++ os)[b]? = w.heap[b]?
    exact Array.getElem?_append_left hb)⟩
  refine ⟨c, cs.map fun x => .dead x.val, zl, ⟨by rw [he, c2], by rw [List.map_map]; rfl, hext, ⟨fun x hx' => ?_, fun x hx' => ?_, fun x hx' b k hf => ?_, fun b k hz => Nat.lt_of_lt_of_le (hA.zin b k (hz.imp id fun h => h.elim)) hsz, ?_⟩, fun x hx' b k hf => ?_, fun _ _ h => h, fun _ _ h => .inl h⟩, c1, ?_⟩
  · rcases List.mem_cons.1 hx' with rfl | hx'
    · exact c3
    · obtain ⟨y, _, rfl⟩ := List.mem_map.1 hx'; trivial
  · rcases List.mem_cons.1 hx' with rfl | hx'
    · exact c4
    · obtain ⟨y, _, rfl⟩ := List.mem_map.1 hx'; trivial
  · rcases List.mem_cons.1 hx' with rfl | hx'
    · exact (c5 b k hf).elim
    · obtain ⟨y, _, rfl⟩ := List.mem_map.1 hx'; exact hf.elim
  · refine List.pairwise_cons.2 ⟨fun x _ b k hf => (c5 b k hf).elim, ?_⟩
    refine List.pairwise_iff_getElem.2 fun i j hi hj _ b k hf => ?_
    obtain ⟨y, _, hy⟩ := List.mem_map.1 (List.getElem_mem hi)
    rw [← hy] at hf
    exact hf.elim
  · rcases List.mem_cons.1 hx' with rfl | hx'
    · exact (c5 b k hf).elim
    · obtain ⟨y, _, rfl⟩ := List.mem_map.1 hx'; exact hf.elim
  · rw [← e]
    simp [List.map_map, Function.comp_def, C.er]
theorem growO_sound [Bs] {P : Program} {f0 : FuncId} {g : List X → Option X} (h : ∀ xs r, g xs = some r → ∀ w, Same0 w → Calls P f0 (xs.map sv).toArray w fun e w' => e = .returned (sv r) ∧ ∃ k os, w' = grow (w.drewN k) os) : (pureO f0 g).Sound P := fun f xs o e => by
  unfold pureO at e
  split at e
  · rename_i hf
    subst hf
    split at e
    · rename_i r hr
      split at e
      · rename_i hc
        cases e
        exact ac_grow (List.all_eq_true.1 hc.1) hc.2 (h xs r hr)
      · cases e
    · cases e
  · cases e
theorem TabIs.same [B : Bs] {P : Program} {w : World} {n : String} {k : IntKind} {zs : List Int} (h : Lib.TabIs P B.W0 n k zs) (hw : Same0 w) : Lib.TabIs P w n k zs := by
  unfold Lib.TabIs World.var? at h ⊢
  cases hg : P.globalNamed n with
  | none => rw [hg] at h; cases h
  | some g =>
    rw [hg] at h
    simp only [Option.bind_some] at h ⊢
    have hlt : g < B.W0.heap.size := by
      rcases Nat.lt_or_ge g B.W0.heap.size with h' | h'
      · exact h'
      · rw [Array.getElem?_eq_none h'] at h; cases h
    rw [hw g hlt]
    exact h
theorem tabIs_of_mem {P : Program} {W : World} {name : String} {k : IntKind} {zs : List Int} {g : Nat} {t e : TypeId} {n : Nat}
    (hg : P.globalNamed name = some g) (hty : (P.globals[g]?).map (·.type) = some t) (ht : P.underlying t = some (.array n e)) (he : P.underlying e = some (.int k)) (hce : P.cellsOf e = 1) (hct : P.cellsOf t = n) :
    ∀ {l : List (String × DataW Unit)} {ps : List MemPlace}, DataW.LaidVars P W l ps → (name, Lib.tabData k zs) ∈ l → Lib.TabIs P W name k zs
  | [], _, _, h => by cases h
  | (nm, d) :: l, ps, h, hm => by
    obtain ⟨g', t', cs, fuel, p, q, hg', ht', hvar, hd, hr, _⟩ := h
    rcases List.mem_cons.1 hm with hm | hm
    · obtain ⟨rfl, rfl⟩ := Prod.mk.inj hm
      obtain rfl := Option.some.inj (hg.symm.trans hg')
      obtain rfl := Option.some.inj (hty.symm.trans ht')
      unfold Lib.TabIs
      rw [hvar, ← Lib.cells_of_tab ht he hce hct hd]
    · exact tabIs_of_mem hg hty ht he hce hct hr hm
end M
set_option linter.unusedVariables false
set_option linter.unusedSimpArgs false
namespace M
open Go
/-! Loops over a list, and the values of the program's types. -/
def lv : Ex × Slots → Res
  | (.normal, _) => none
  | (.ret, s) => some (.ret, s)
  | (.exit i, s) => some (.exit i, s)
def runL {β γ : Type} (go : β → γ → γ ⊕ (Ex × Slots)) : List β → γ → γ ⊕ (Ex × Slots)
  | [], g => .inl g
  | b :: l, g => match go b g with
    | .inl g' => runL go l g'
    | .inr o => .inr o
/-- A loop over a list: at the head, behind i rounds, the slots are st i g. -/
theorem loop_list {xt : Nat} {β γ : Type} {f : Slots → Res} (l : List β) (st : Nat → γ → Slots) (go : β → γ → γ ⊕ (Ex × Slots)) (E : γ → Slots) (Inv : Nat → γ → Prop) (g : γ) (h0 : Inv 0 g)
    (h : ∀ i b g, l[i]? = some b → i < l.length → Inv i g → f (st i g) = (match go b g with | .inl g' => some (.normal, st (i + 1) g') | .inr o => lv o))
    (hI : ∀ i b g g', l[i]? = some b → Inv i g → go b g = .inl g' → Inv (i + 1) g')
    (hend : ∀ g, Inv l.length g → f (st l.length g) = some (.exit xt, E g)) :
    loopW f (st 0 g) = match runL go l g with | .inl g' => some (.exit xt, E g') | .inr o => lv o := by
  suffices H : ∀ (r : List β) (i : Nat) (g : γ), Inv i g → l.drop i = r → i ≤ l.length → loopW f (st i g) = match runL go r g with | .inl g' => some (.exit xt, E g') | .inr o => lv o from H l 0 g h0 rfl (Nat.zero_le _)
  intro r
  induction r with
  | nil =>
    intro i g hi hr hl
    have : i = l.length := by
      have := congrArg List.length hr
      simp at this
      omega
    subst this
    rw [loopW_eq, hend g hi]
    rfl
  | cons b r ih =>
    intro i g hi hr hl
    have hlt : i < l.length := by
      rcases Nat.lt_or_ge i l.length with h | h
      · exact h
      · rw [List.drop_eq_nil_of_le h] at hr; cases hr
    have hb : l[i]? = some b := by
      have := List.drop_eq_getElem_cons hlt
      rw [hr] at this
      rw [List.getElem?_eq_getElem hlt]
      cases this; rfl
    have hr' : l.drop (i + 1) = r := by
      have := List.drop_eq_getElem_cons hlt
      rw [hr] at this
      cases this; rfl
    rw [loopW_eq, h i b g hb hlt hi]
    unfold runL
    cases hg : go b g with
    | inl g' => exact ih (i + 1) g' (hI i b g g' hb hi hg) hr' hlt
    | inr o =>
      obtain ⟨e, s⟩ := o
      cases e <;> simp [thenA, lv]
/-- The same as List.all; simp leaves it alone. -/
def allB {α : Type} (p : α → Bool) (l : List α) : Bool := l.all p
theorem allB_iff {α : Type} {p : α → Bool} {l : List α} : allB p l = true ↔ ∀ x ∈ l, p x = true := List.all_eq_true
/-- A loop that goes on as long as p holds, and else returns. -/
theorem loop_all {xt : Nat} {β : Type} {f : Slots → Res} (l : List β) (st : Nat → Slots) (p : β → Bool) (R E : Slots)
    (h : ∀ i b, l[i]? = some b → i < l.length → f (st i) = if p b = true then some (.normal, st (i + 1)) else some (.ret, R))
    (hend : f (st l.length) = some (.exit xt, E)) :
    loopW f (st 0) = if allB p l = true then some (.exit xt, E) else some (.ret, R) := by
  show _ = if l.all p = true then _ else _
  have H := loop_list (f := f) l (fun i (_ : Unit) => st i) (fun b _ => if p b = true then .inl () else .inr (.ret, R)) (fun _ => E) (fun _ _ => True) () trivial
    (fun i b g hb hl _ => by rw [h i b hb hl]; by_cases hp : p b = true <;> simp [hp, lv]) (fun _ _ _ _ _ _ _ => trivial) fun _ _ => hend
  refine H.trans ?_
  have : ∀ r : List β, runL (fun b (_ : Unit) => if p b = true then .inl () else .inr (Ex.ret, R)) r () = if r.all p = true then .inl () else .inr (.ret, R) := by
    intro r
    induction r with
    | nil => rfl
    | cons b r ih =>
      simp only [runL]
      by_cases hp : p b = true
      · simp [hp, ih]
      · simp [hp]
  rw [this]
  by_cases hp : l.all p = true <;> simp [hp, lv]
/-- A loop without a way out but its end. -/
theorem loop_fold {xt : Nat} {β γ : Type} {f : Slots → Res} (l : List β) (st : Nat → γ → Slots) (go : γ → β → γ) (E : γ → Slots) (Inv : Nat → γ → Prop) (g : γ) (h0 : Inv 0 g)
    (h : ∀ i b g, l[i]? = some b → i < l.length → Inv i g → f (st i g) = some (.normal, st (i + 1) (go g b)))
    (hI : ∀ i b g, l[i]? = some b → Inv i g → Inv (i + 1) (go g b))
    (hend : ∀ g, Inv l.length g → f (st l.length g) = some (.exit xt, E g)) :
    loopW f (st 0 g) = some (.exit xt, E (l.foldl go g)) := by
  refine (loop_list (f := f) l st (fun b g => .inl (go g b)) E Inv g h0 h (fun i b g g' hb hi e => by cases e; exact hI i b g hb hi) hend).trans ?_
  have : ∀ (r : List β) (g : γ), runL (fun b g => .inl (go g b)) r g = (.inl (r.foldl go g) : γ ⊕ (Ex × Slots)) := by
    intro r
    induction r with
    | nil => intro g; rfl
    | cons b r ih => intro g; simp only [runL, List.foldl_cons]; exact ih _
  rw [this]
/-- The same without anything but the index. -/
theorem loop_count {xt : Nat} {β : Type} {f : Slots → Res} (l : List β) (st : Nat → Slots) (E : Slots)
    (h : ∀ i b, l[i]? = some b → i < l.length → f (st i) = some (.normal, st (i + 1)))
    (hend : f (st l.length) = some (.exit xt, E)) : loopW f (st 0) = some (.exit xt, E) :=
  loop_fold l (fun i (_ : Unit) => st i) (fun _ _ => ()) (fun _ => E) (fun _ _ => True) () trivial (fun i b _ hb hl _ => h i b hb hl) (fun _ _ _ _ _ => trivial) fun _ _ => hend
theorem wrap_id {n : Int} (h1 : -9223372036854775808 ≤ n) (h2 : n ≤ 9223372036854775807) : IntKind.i64.wrap n = n := by
  simp only [IntKind.wrap, IntKind.signed, IntKind.bits, Bool.true_and, decide_eq_true_eq]
  split <;> rename_i h <;> simp at h <;> omega
theorem wrap_succ (n : Nat) (h : n < 9223372036854775807) : IntKind.i64.wrap (↑n + 1) = ↑n + 1 := wrap_id (by omega) (by omega)
attribute [simp] base storeB solidL look solidsB sizesB litB callM mutE putM mutPost setB
/-- Strings are lists of bytes here. -/
abbrev Str := List UInt8
@[simp] theorem size_str (s : Str) : ByteArray.size ⟨s.toArray⟩ = s.length := by simp [ByteArray.size]
@[simp] theorem str_inj (s t : Str) : ((⟨s.toArray⟩ : ByteArray) = ⟨t.toArray⟩) ↔ s = t := by
  constructor
  · intro h
    injection h with h
    simpa using congrArg Array.toList h
  · rintro rfl; rfl
theorem str_append (s t : Str) : (⟨s.toArray⟩ : ByteArray) ++ ⟨t.toArray⟩ = ⟨(s ++ t).toArray⟩ := by
  apply ByteArray.ext
  rw [ByteArray.data_append]
  simp
@[simp] def eS (s : Str) : List X := [.str ⟨s.toArray⟩]
structure Wr where
  at_ : Int
  text : Str
  deriving DecidableEq
structure Dsk where
  cells : List Str
  pending : List Wr
  deriving DecidableEq
@[simp] def eW (w : Wr) : List X := [.int .i64 w.at_, .str ⟨w.text.toArray⟩]
@[simp] def eDsk (m : Md) (d : Dsk) : List X := [.row m 1 (d.cells.map eS), .row m 2 (d.pending.map eW)]
@[simp] theorem mdLL_eS (m : Md) (l : List Str) : X.mdLL m (l.map eS) = l.map eS := by induction l <;> simp_all [X.mdLL, X.mdL, X.md]
@[simp] theorem mdLL_eW (m : Md) (l : List Wr) : X.mdLL m (l.map eW) = l.map eW := by induction l <;> simp_all [X.mdLL, X.mdL, X.md]
@[simp] theorem clean_eS (l : List Str) : X.clean.cleanLL (l.map eS) = true := by induction l <;> simp_all [X.clean.cleanLL, X.clean.cleanL, X.clean]
@[simp] theorem clean_eW (l : List Wr) : X.clean.cleanLL (l.map eW) = true := by induction l <;> simp_all [X.clean.cleanLL, X.clean.cleanL, X.clean]
/-- What is left behind these lengths; below nothing: -1. -/
def szL {α : Type} (f : α → Int → Int) : List α → Int → Int
  | [], n => n
  | a :: l, n => if f a n < 0 then -1 else szL f l (f a n)
def szS (s : Str) (n : Int) : Int := n - s.length
def szR {α : Type} (f : α → Int → Int) (l : List α) (n : Int) : Int := if n - l.length < 0 then -1 else szL f l (n - l.length)
def szW (w : Wr) (n : Int) : Int := if szS w.text n < 0 then -1 else szS w.text n
def szDsk (d : Dsk) (n : Int) : Int := if szR szS d.cells n < 0 then -1 else if szR szW d.pending (szR szS d.cells n) < 0 then -1 else szR szW d.pending (szR szS d.cells n)
theorem szL_le {α : Type} {f : α → Int → Int} (hf : ∀ a n, f a n ≤ n ∨ f a n < 0) : ∀ (l : List α) (n : Int), 0 ≤ n → szL f l n ≤ n
  | [], n, _ => Int.le_refl _
  | a :: l, n, hn => by
    unfold szL
    split
    · omega
    · rename_i h
      have := szL_le hf l (f a n) (by omega)
      rcases hf a n with h' | h' <;> omega
theorem szL_neg {α : Type} {f : α → Int → Int} : ∀ {l : List α} {n : Int}, szL f l n < 0 → 0 ≤ n → szL f l n = -1
  | [], n, h, hn => by simp [szL] at h; omega
  | a :: l, n, h, hn => by
    unfold szL at h ⊢
    split
    · rfl
    · rename_i h'
      rw [if_neg h'] at h
      exact szL_neg h (by omega)
theorem szR_le {α : Type} {f : α → Int → Int} (hf : ∀ a n, f a n ≤ n ∨ f a n < 0) (l : List α) (n : Int) (hn : 0 ≤ n) (h : 0 ≤ szR f l n) : szR f l n ≤ n ∧ (l.length : Int) ≤ n := by
  unfold szR at h ⊢
  split at h
  · omega
  · rename_i h1
    rw [if_neg h1]
    have := szL_le hf l (n - l.length) (by omega)
    omega
theorem szS_le (s : Str) (n : Int) : szS s n ≤ n ∨ szS s n < 0 := .inl (by unfold szS; omega)
theorem szW_le (w : Wr) (n : Int) : szW w n ≤ n ∨ szW w n < 0 := by
  unfold szW
  split
  · exact .inr (by omega)
  · exact szS_le _ _
theorem szDsk_le (d : Dsk) (n : Int) (hn : 0 ≤ n) (h : 0 ≤ szDsk d n) : szDsk d n ≤ n ∧ (d.cells.length : Int) ≤ n ∧ (d.pending.length : Int) ≤ n := by
  unfold szDsk at h ⊢
  split at h
  · omega
  · rename_i h1
    rw [if_neg h1]
    split at h
    · omega
    · rename_i h2
      rw [if_neg h2]
      have a1 := szR_le szS_le d.cells n hn (by omega)
      have a2 := szR_le szW_le d.pending _ (by omega) (by omega : 0 ≤ szR szW d.pending (szR szS d.cells n))
      omega
theorem loop_sz {xt : Nat} {β : Type} {f : Slots → Res} (l : List β) (st : Nat → Int → Slots) (z : β → Int → Int) (R : Slots) (E : Int → Slots) (n : Int) (hn : 0 ≤ n) (hm : n ≤ 9223372036854775807)
    (hz : ∀ a n, z a n ≤ n ∨ z a n < 0)
    (h : ∀ i b n, l[i]? = some b → i < l.length → 0 ≤ n → n ≤ 9223372036854775807 → f (st i n) = if z b n < 0 then some (.ret, R) else some (.normal, st (i + 1) (z b n)))
    (hend : ∀ n, f (st l.length n) = some (.exit xt, E n)) :
    loopW f (st 0 n) = if szL z l n < 0 then some (.ret, R) else some (.exit xt, E (szL z l n)) := by
  have H := loop_list (f := f) l st (fun b n => if z b n < 0 then .inr (.ret, R) else .inl (z b n)) E (fun _ n => 0 ≤ n ∧ n ≤ 9223372036854775807) n ⟨hn, hm⟩
    (fun i b n hb hl hi => by rw [h i b n hb hl hi.1 hi.2]; by_cases hp : z b n < 0 <;> simp [hp, lv]) (fun i b g g' hb hi hg => by
      by_cases hp : z b g < 0
      · simp [hp] at hg
      · simp [hp] at hg
        have := hz b g
        omega) fun g _ => hend g
  refine H.trans ?_
  have : ∀ (r : List β) (n : Int), 0 ≤ n → runL (fun b n => if z b n < 0 then .inr (Ex.ret, R) else .inl (z b n)) r n = if szL z r n < 0 then .inr (.ret, R) else .inl (szL z r n) := by
    intro r
    induction r with
    | nil => intro n hn; rw [if_neg (by simp [szL]; omega)]; rfl
    | cons b r ih =>
      intro n hn
      simp only [runL, szL]
      by_cases hp : z b n < 0
      · simp [hp]
      · simp only [hp, if_false]
        exact ih _ (by omega)
  rw [this l n hn]
  by_cases hp : szL z l n < 0 <;> simp [hp, lv]
/-- A new row, filled from the left. -/
theorem modify_fill {α β : Type} (l : List α) (e : α → β) (z : β) (g : β → β) {i : Nat} (hi : i < l.length) (hg : g z = e l[i]) :
    ((l.take i).map e ++ List.replicate (l.length - i) z).modify i g = (l.take (i + 1)).map e ++ List.replicate (l.length - (i + 1)) z := by
  apply List.ext_getElem?
  intro j
  rw [List.getElem?_modify]
  rcases Nat.lt_trichotomy j i with h | h | h
  · rw [List.getElem?_append_left (by simp; omega), List.getElem?_append_left (by simp; omega)]
    simp only [List.getElem?_map, List.getElem?_take, if_pos h, if_pos (Nat.lt_succ_of_lt h), if_neg (Nat.ne_of_gt h)]
    cases l[j]? <;> rfl
  · subst h
    rw [List.getElem?_append_right (by simp; omega), List.getElem?_append_left (by simp; omega)]
    have : j - ((l.take j).map e).length = 0 := by simp; omega
    rw [this, List.getElem?_replicate_of_lt (by omega)]
    simp only [List.getElem?_map, List.getElem?_take, if_pos (Nat.lt_succ_self j), List.getElem?_eq_getElem hi, if_true, Option.map_some, ← hg]
    rfl
  · rw [List.getElem?_append_right (by simp; omega), List.getElem?_append_right (by simp; omega)]
    have h1 : j - ((l.take i).map e).length = j - i := by simp; omega
    have h2 : j - ((l.take (i + 1)).map e).length = j - (i + 1) := by simp; omega
    rw [h1, h2, List.getElem?_replicate, List.getElem?_replicate]
    by_cases h3 : j < l.length
    · rw [if_pos (by omega), if_pos (by omega)]
      simp only [Nat.ne_of_lt h, if_false]
      rfl
    · rw [if_neg (by omega), if_neg (by omega)]
      rfl
/-- The rows up to i, and new ones behind. -/
def fillN (rows : List (List X)) (i : Nat) (z : List X) : List (List X) := rows.take i ++ List.replicate (rows.length - i) z
@[simp] theorem fillN_len (rows : List (List X)) (i : Nat) (z : List X) : (fillN rows i z).length = rows.length := by simp [fillN]; omega
@[simp] theorem fillN_get (rows : List (List X)) (i : Nat) (z : List X) (h : i < rows.length) : (fillN rows i z)[i]? = some z := by
  unfold fillN
  rw [List.getElem?_append_right (by simp; omega), List.getElem?_replicate_of_lt (by simp; omega)]
@[simp] theorem fillN_getElem (rows : List (List X)) (i : Nat) (z : List X) (h : i < (fillN rows i z).length) : (fillN rows i z)[i] = z := by
  have h' : i < rows.length := by simpa using h
  have := fillN_get rows i z h'
  rw [List.getElem?_eq_getElem h] at this
  exact Option.some.inj this
@[simp] theorem fillN_zero (rows : List (List X)) (z : List X) : fillN rows 0 z = List.replicate rows.length z := by simp [fillN]
@[simp] theorem fillN_end (rows : List (List X)) (i : Nat) (z : List X) (h : i = rows.length) : fillN rows i z = rows := by subst h; simp [fillN]
@[simp] theorem fillN_set (rows : List (List X)) (i : Nat) (z : List X) (g : List X → List X) (h : i < rows.length) (hg : g z = rows[i]) : (fillN rows i z).modify i g = fillN rows (i + 1) z := by
  have := modify_fill rows id z g h (by simpa using hg)
  simpa [fillN] using this
theorem modify_two {α : Type} (l : List α) (i : Nat) (f g : α → α) : (l.modify i f).modify i g = l.modify i fun x => g (f x) := by
  apply List.ext_getElem?
  intro j
  simp only [List.getElem?_modify]
  by_cases h : i = j
  · simp only [h, if_true]; cases l[j]? <;> rfl
  · simp only [h, if_false]; cases l[j]? <;> rfl
theorem zip_ex {α β : Type} : ∀ {a : List α} {b : List β}, a.length = b.length → ∃ ps : List (α × β), a = ps.map Prod.fst ∧ b = ps.map Prod.snd
  | [], [], _ => ⟨[], rfl, rfl⟩
  | x :: a, y :: b, h => by
    obtain ⟨ps, h1, h2⟩ := zip_ex (a := a) (b := b) (by simpa using h)
    exact ⟨(x, y) :: ps, by simp [← h1], by simp [← h2]⟩
  | [], _ :: _, h => by cases h
  | _ :: _, [], h => by cases h
def eqB {α : Type} [DecidableEq α] (x : α × α) : Bool := decide (x.1 = x.2)
theorem allB_eq {α : Type} [DecidableEq α] : ∀ ps : List (α × α), allB eqB ps = decide (ps.map Prod.fst = ps.map Prod.snd)
  | [] => rfl
  | x :: ps => by
    have := allB_eq ps
    unfold allB at this ⊢
    simp only [List.all_cons, this, eqB, List.map_cons, List.cons.injEq]
    exact (Bool.decide_and ..).symm
/-- A loop down a list, to the first of which p holds. -/
theorem loop_down {xt : Nat} {β : Type} {f : Slots → Res} (l : List β) (st : Int → Slots) (p : β → Bool) (R : β → Slots) (E : Slots)
    (h : ∀ (i : Nat) b, l[i]? = some b → i < l.length → f (st i) = if p b = true then some (.ret, R b) else some (.normal, st (i - 1)))
    (hend : f (st (-1)) = some (.exit xt, E)) :
    loopW f (st (l.length - 1)) = (l.reverse.find? p).elim (some (.exit xt, E)) (fun b => some (.ret, R b)) := by
  suffices H : ∀ k, k ≤ l.length → loopW f (st ((k : Int) - 1)) = ((l.take k).reverse.find? p).elim (some (.exit xt, E)) (fun b => some (.ret, R b)) by
    have := H l.length (Nat.le_refl _)
    rwa [List.take_length] at this
  intro k
  induction k with
  | zero => intro _; rw [loopW_eq]; simp [hend]
  | succ k ih =>
    intro hk
    have hb : l[k]? = some l[k] := List.getElem?_eq_getElem hk
    have e : ((k + 1 : Nat) : Int) - 1 = (k : Int) := by omega
    rw [e, loopW_eq, h k _ hb hk, List.take_add_one, hb]
    simp only [Option.toList_some, List.reverse_append, List.reverse_cons, List.reverse_nil, List.nil_append, List.singleton_append, List.find?_cons]
    by_cases hp : p l[k] = true
    · simp [hp]
    · simp only [hp, Bool.false_eq_true, if_false, thenA_normal]
      exact ih (by omega)
def getF (d : Dsk) (a : Int) : Str := d.pending.foldl (fun out w => if w.at_ = a then w.text else out) (d.cells.getD a.toNat [])
theorem foldl_find (a : Int) : ∀ (l : List Wr) (x : Str), l.foldl (fun out w => if w.at_ = a then w.text else out) x = (l.reverse.find? (fun w => decide (w.at_ = a))).elim x Wr.text
  | [], x => rfl
  | w :: l, x => by
    rw [List.foldl_cons, foldl_find a l, List.reverse_cons, List.find?_append]
    cases l.reverse.find? (fun w => decide (w.at_ = a)) with
    | some v => rfl
    | none => by_cases h : w.at_ = a <;> simp [h]
/-- New rows up to i, old ones behind. -/
def fillM (new old : List (List X)) (i : Nat) : List (List X) := new.take i ++ old.drop i
@[simp] theorem fillM_len (new old : List (List X)) (i : Nat) (h : new.length = old.length) : (fillM new old i).length = old.length := by simp [fillM]; omega
@[simp] theorem fillM_get (new old : List (List X)) (i : Nat) (h : new.length = old.length) (hi : i < old.length) : (fillM new old i)[i]? = old[i]? := by
  unfold fillM
  rw [List.getElem?_append_right (by simp; omega), List.getElem?_drop]
  congr 1
  simp; omega
@[simp] theorem fillM_getElem (new old : List (List X)) (i : Nat) (hl : i < (fillM new old i).length) (h : new.length = old.length) : (fillM new old i)[i] = old[i]'(by rw [fillM_len _ _ _ h] at hl; exact hl) := by
  have hi : i < old.length := by rw [fillM_len _ _ _ h] at hl; exact hl
  have := fillM_get new old i h hi
  rw [List.getElem?_eq_getElem hl, List.getElem?_eq_getElem hi] at this
  exact Option.some.inj this
@[simp] theorem fillM_zero (new old : List (List X)) : fillM new old 0 = old := by simp [fillM]
@[simp] theorem fillM_end (new old : List (List X)) (i : Nat) (h : new.length = old.length) (hi : i = old.length) : fillM new old i = new := by subst hi; rw [← h]; simp [fillM]; omega
theorem fillM_set (new old : List (List X)) (i : Nat) (g : List X → List X) (h : new.length = old.length) (hi : i < old.length) (hg : g (old[i]) = new[i]) : (fillM new old i).modify i g = fillM new old (i + 1) := by
  apply List.ext_getElem?
  intro j
  unfold fillM
  rw [List.getElem?_modify]
  rcases Nat.lt_trichotomy j i with hj | hj | hj
  · rw [List.getElem?_append_left (by simp; omega), List.getElem?_append_left (by simp; omega)]
    simp only [List.getElem?_take, if_pos hj, if_pos (Nat.lt_succ_of_lt hj), if_neg (Nat.ne_of_gt hj)]
    cases new[j]? <;> rfl
  · subst hj
    rw [List.getElem?_append_right (by simp; omega), List.getElem?_append_left (by simp; omega)]
    have : j - (new.take j).length = 0 := by simp; omega
    rw [this, List.getElem?_drop, Nat.add_zero, List.getElem?_take, if_pos (Nat.lt_succ_self j), List.getElem?_eq_getElem hi, List.getElem?_eq_getElem (by omega)]
    simp only [if_true, ← hg]
    rfl
  · rw [List.getElem?_append_right (by simp; omega), List.getElem?_append_right (by simp; omega), List.getElem?_drop, List.getElem?_drop]
    have h1 : i + (j - (new.take i).length) = j := by simp; omega
    have h2 : i + 1 + (j - (new.take (i + 1)).length) = j := by simp; omega
    rw [h1, h2]
    simp only [Nat.ne_of_lt hj, if_false]
    cases old[j]? <;> rfl
def markD (n : Nat) (out : Str) : Str := if h : n = 0 then out else markD (n / 10) (UInt8.ofNat (48 + n % 10) :: out)
termination_by n
decreasing_by omega
def markT (k : Int) : Str := if k ≤ 0 then [109, 48] else 109 :: markD k.toNat []
def marksS (n : Nat) (k : Int) : List Str := (List.range n).map fun (i : Nat) => markT (k + i)
def marksW (n : Nat) (k : Int) : List Wr := (List.range n).map fun (i : Nat) => ⟨k + 2 * i, markT (k + 2 * i + 1)⟩
@[simp] theorem marksS_len (n : Nat) (k : Int) : (marksS n k).length = n := by simp [marksS]
@[simp] theorem marksW_len (n : Nat) (k : Int) : (marksW n k).length = n := by simp [marksW]
@[simp] theorem marksS_get (n : Nat) (k : Int) (i : Nat) (h : i < (marksS n k).length) : (marksS n k)[i] = markT (k + i) := by simp [marksS]
@[simp] theorem marksW_get (n : Nat) (k : Int) (i : Nat) (h : i < (marksW n k).length) : (marksW n k)[i] = ⟨k + 2 * i, markT (k + 2 * i + 1)⟩ := by simp [marksW]
def marksD (d : Dsk) (k : Int) : Dsk := ⟨marksS d.cells.length k, marksW d.pending.length (k + d.cells.length)⟩
def foldI {β γ : Type} (go : Nat → γ → β → γ) : Nat → List β → γ → γ
  | _, [], g => g
  | i, b :: l, g => foldI go (i + 1) l (go i g b)
/-- A loop without a way out but its end; what is done hangs on the index, too. -/
theorem loop_foldI {xt : Nat} {β γ : Type} {f : Slots → Res} (l : List β) (st : Nat → γ → Slots) (go : Nat → γ → β → γ) (E : γ → Slots) (Inv : Nat → γ → Prop) (g : γ) (h0 : Inv 0 g)
    (h : ∀ i b g, l[i]? = some b → i < l.length → Inv i g → f (st i g) = some (.normal, st (i + 1) (go i g b)))
    (hI : ∀ i b g, l[i]? = some b → Inv i g → Inv (i + 1) (go i g b))
    (hend : ∀ g, Inv l.length g → f (st l.length g) = some (.exit xt, E g)) :
    loopW f (st 0 g) = some (.exit xt, E (foldI go 0 l g)) := by
  suffices H : ∀ (r : List β) (i : Nat) (g : γ), Inv i g → l.drop i = r → i ≤ l.length → loopW f (st i g) = some (.exit xt, E (foldI go i r g)) from H l 0 g h0 rfl (Nat.zero_le _)
  intro r
  induction r with
  | nil =>
    intro i g hi hr hl
    have : i = l.length := by
      have := congrArg List.length hr
      simp at this
      omega
    subst this
    rw [loopW_eq, hend g hi]
    rfl
  | cons b r ih =>
    intro i g hi hr hl
    have hlt : i < l.length := by
      rcases Nat.lt_or_ge i l.length with h | h
      · exact h
      · rw [List.drop_eq_nil_of_le h] at hr; cases hr
    have hd := List.drop_eq_getElem_cons hlt
    rw [hr] at hd
    have hb : l[i]? = some b := by
      rw [List.getElem?_eq_getElem hlt]
      cases hd; rfl
    have hr' : l.drop (i + 1) = r := by cases hd; rfl
    rw [loopW_eq, h i b g hb hlt hi]
    exact ih (i + 1) _ (hI i b g hb hi) hr' hlt
def landF (k : Nat → Bool) (i : Nat) (cs : List Str) (w : Wr) : List Str := if k i = true then cs.set w.at_.toNat w.text else cs
def landC (k : Nat → Bool) (cs : List Str) (ws : List Wr) : List Str := foldI (landF k) 0 ws cs
theorem landF_len (k : Nat → Bool) (i : Nat) (cs : List Str) (w : Wr) : (landF k i cs w).length = cs.length := by unfold landF; split <;> simp
theorem foldI_len (k : Nat → Bool) : ∀ (ws : List Wr) (i : Nat) (cs : List Str), (foldI (landF k) i ws cs).length = cs.length
  | [], _, _ => rfl
  | w :: ws, i, cs => by rw [foldI, foldI_len k ws, landF_len]
theorem landC_len (k : Nat → Bool) (cs : List Str) (ws : List Wr) : (landC k cs ws).length = cs.length := foldI_len k ws 0 cs
@[simp] theorem modify_str (cs : List Str) (n : Nat) (t : Str) : (cs.map eS).modify n (fun x => x.set 0 (X.str ⟨t.toArray⟩)) = (cs.set n t).map eS := by
  apply List.ext_getElem?
  intro j
  rw [List.getElem?_modify, List.getElem?_map, List.getElem?_map, List.getElem?_set]
  by_cases h : n = j
  · subst h
    simp only [if_true]
    by_cases h2 : n < cs.length
    · simp [h2]
    · simp [h2, List.getElem?_eq_none (Nat.le_of_not_lt h2)]
  · simp only [h, if_false]
    cases cs[j]? <;> rfl
def keepOf (keep : List Bool) (all : Bool) (i : Nat) : Bool := all || keep.getD i false
@[simp] def eB (b : Bool) : List X := [.bool b]
@[simp] theorem mdLL_eB (m : Md) (l : List Bool) : X.mdLL m (l.map eB) = l.map eB := by induction l <;> simp_all [X.mdLL, X.mdL, X.md]
@[simp] theorem clean_eB (l : List Bool) : X.clean.cleanLL (l.map eB) = true := by induction l <;> simp_all [X.clean.cleanLL, X.clean.cleanL, X.clean]
theorem scalars_eS (l : List Str) : scalarsB (l.map eS) = true := by induction l <;> simp_all [scalarsB, scalar]
theorem scalars_eW (l : List Wr) : scalarsB (l.map eW) = true := by induction l <;> simp_all [scalarsB, scalar]
theorem cells_eS (l : List Str) : rowCells (l.map eS) = true ∨ l.map eS = [] := by cases l <;> simp [rowCells]
theorem cells_eW (l : List Wr) : rowCells (l.map eW) = true ∨ l.map eW = [] := by cases l <;> simp [rowCells]
attribute [simp] scalars_eS scalars_eW
@[simp] theorem clean_app (a b : List (List X)) : X.clean.cleanLL (a ++ b) = (X.clean.cleanLL a && X.clean.cleanLL b) := by
  induction a with
  | nil => simp [X.clean.cleanLL]
  | cons e a ih => simp [X.clean.cleanLL, ih, Bool.and_assoc]
@[simp] theorem mdLL_app (m : Md) (a b : List (List X)) : X.mdLL m (a ++ b) = X.mdLL m a ++ X.mdLL m b := by
  induction a with
  | nil => simp [X.mdLL]
  | cons e a ih => simp [X.mdLL, ih]
/-- The cursor of a draw. -/
structure Cur where
  code : List UInt8
  i : Nat
  h : Int
  hi : i ≤ code.length
  hl : code.length ≤ 9223372036854775807
@[simp] def eU (b : UInt8) : List X := [.int .u8 (b.toNat : Int)]
@[simp] theorem mdLL_eU (m : Md) (l : List UInt8) : X.mdLL m (l.map eU) = l.map eU := by induction l <;> simp_all [X.mdLL, X.mdL, X.md]
@[simp] theorem clean_eU (l : List UInt8) : X.clean.cleanLL (l.map eU) = true := by induction l <;> simp_all [X.clean.cleanLL, X.clean.cleanL, X.clean]
def eCur (c : Cur) : List X := [.row .sl 1 (c.code.map eU), .int .i64 c.i, .int .i64 c.h]
@[simp] theorem eCur_len (c : Cur) : (eCur c).length = 3 := rfl
@[simp] theorem eCur_take (c : Cur) : (eCur c).take 3 = eCur c := rfl
@[simp] theorem eCur_drop (c : Cur) : (eCur c).drop 3 = [] := rfl
@[simp] theorem eCur_only (ks : List Nat) (c : Cur) : X.onlyL ks (eCur c) = eCur c := rfl
@[simp] theorem eCur_kill (r : Nat) (p : Path) (c : Cur) : X.killL r p (eCur c) = eCur c := rfl
@[simp] theorem eCur_killB (r : Nat) (p : Path) (c : Cur) : X.killBL r p (eCur c) = eCur c := rfl
@[simp] theorem eCur_clean (c : Cur) : X.clean.cleanL (eCur c) = true := by simp [eCur, X.clean.cleanL, X.clean]
@[simp] theorem eCur_bare (c : Cur) : X.bare.bareL (eCur c) = true := by simp [eCur, X.bare.bareL, X.bare]
theorem and_255 (n : Int) : Go.bits .and .i64 n 255 = n % 256 := by
  have h127 : (BitVec.ofInt 64 255).toNat = 2 ^ 8 - 1 := by decide
  have key : (BitVec.ofInt 64 n &&& BitVec.ofInt 64 255).toNat = (n % ((2 ^ 64 : Nat) : Int)).toNat % 2 ^ 8 := by
    rw [BitVec.toNat_and, BitVec.toNat_ofInt, h127, Nat.and_two_pow_sub_one_eq_mod]
  show IntKind.i64.wrap ((BitVec.ofInt 64 n &&& BitVec.ofInt 64 255).toNat : Nat) = n % 256
  rw [key, IntKind.wrap_i64]
  omega
theorem and_255' (n : Int) : IntKind.i64.wrap (((n % 2 ^ IntKind.i64.bits).toNat &&& 255 % 2 ^ IntKind.i64.bits : Nat) : Int) = n % 256 := by
  have e : 255 % 2 ^ IntKind.i64.bits = 2 ^ 8 - 1 := by decide
  have e2 : (2 : Int) ^ IntKind.i64.bits = 18446744073709551616 := by decide
  rw [e, Nat.and_two_pow_sub_one_eq_mod, IntKind.wrap_i64, e2]
  omega
/-- A loop of n rounds; what it carries is some value or other. -/
theorem loop_ex {xt : Nat} {γ : Type} {f : Slots → Res} (n : Nat) (st : Nat → γ → Slots) (Inv : Nat → γ → Prop) (E : γ → Slots) (g : γ) (h0 : Inv 0 g)
    (h : ∀ i g, i < n → Inv i g → ∃ g', f (st i g) = some (.normal, st (i + 1) g') ∧ Inv (i + 1) g')
    (hend : ∀ g, Inv n g → f (st n g) = some (.exit xt, E g)) : ∃ g', Inv n g' ∧ loopW f (st 0 g) = some (.exit xt, E g') := by
  suffices H : ∀ k i g, i + k = n → Inv i g → ∃ g', Inv n g' ∧ loopW f (st i g) = some (.exit xt, E g') from H n 0 g (by omega) h0
  intro k
  induction k with
  | zero =>
    intro i g hi hI
    obtain rfl : i = n := by omega
    exact ⟨g, hI, by rw [loopW_eq, hend g hI]; rfl⟩
  | succ k ih =>
    intro i g hi hI
    obtain ⟨g1, e1, hI1⟩ := h i g (by omega) hI
    obtain ⟨g2, hI2, e2⟩ := ih (i + 1) g1 (by omega) hI1
    exact ⟨g2, hI2, by rw [loopW_eq, e1]; exact e2⟩
end M
set_option linter.unusedVariables false
set_option linter.unusedSimpArgs false
namespace M
open Go Go.RowKit
/-- What a cell of an argument may be. -/
inductive Ty where
  | int (k : IntKind)
  | bool
  | str
  | row (ts : List Ty)
inductive Conf : Ty → X → Prop
  | int {k n} : (Lit.int k n).wf = true → Conf (.int k) (.int k n)
  | bool {b} : Conf .bool (.bool b)
  | str {s : ByteArray} : s.size ≤ maxLen → Conf .str (.str s)
  | row {ts xs} : xs.length ≤ maxLen → (∀ r : List X, r ∈ xs → r.length = ts.length) → (∀ (r : List X), r ∈ xs → ∀ (j : Nat) ty x, ts[j]? = some ty → r[j]? = some x → Conf ty x) → Conf (.row ts) (.row .sl ts.length xs)
structure Fine (w : World) (ty : Ty) (c : C) : Prop where
  cell : c.cell
  solid : c.solid
  fits : c.fits .sl
  ok : c.ok w (Zf (fun b _ => b < w.heap.size) fun _ _ => False)
  fp : ∀ b k, ¬ c.fp b k
  conf : Conf ty c.er
def goodL (w : World) : List Ty → List Value → List C → Prop
  | [], [], [] => True
  | ty :: ts, v :: vs, c :: cs => c.val = v ∧ Fine w ty c ∧ goodL w ts vs cs
  | _, _, _ => False
theorem goodL_append {w : World} : ∀ {ts : List Ty} {vs : List Value} {cs : List C} {ts' : List Ty} {vs' : List Value} {cs' : List C}, goodL w ts vs cs → goodL w ts' vs' cs' → goodL w (ts ++ ts') (vs ++ vs') (cs ++ cs')
  | [], [], [], _, _, _, _, h => h
  | _ :: _, _ :: _, _ :: _, _, _, _, ⟨h1, h2, h3⟩, h => ⟨h1, h2, goodL_append h3 h⟩
theorem goodL_len {w : World} : ∀ {ts : List Ty} {vs : List Value} {cs : List C}, goodL w ts vs cs → vs.length = ts.length ∧ cs.length = ts.length ∧ vs = cs.map C.val
  | [], [], [], _ => ⟨rfl, rfl, rfl⟩
  | _ :: _, _ :: _, _ :: _, ⟨h1, h2, h3⟩ => by
    obtain ⟨e1, e2, e3⟩ := goodL_len h3
    exact ⟨by simp [e1], by simp [e2], by simp [h1, ← e3]⟩
theorem goodL_at {w : World} : ∀ {ts : List Ty} {vs : List Value} {cs : List C}, goodL w ts vs cs → ∀ {j : Nat}, j < ts.length → ∃ ty c, ts[j]? = some ty ∧ cs[j]? = some c ∧ vs[j]? = some c.val ∧ Fine w ty c
  | ty :: ts, v :: vs, c :: cs, ⟨h1, h2, h3⟩, 0, _ => ⟨ty, c, rfl, rfl, by simp [h1], h2⟩
  | ty :: ts, v :: vs, c :: cs, ⟨h1, h2, h3⟩, j + 1, h => by
    obtain ⟨ty, c, a1, a2, a3, a4⟩ := goodL_at h3 (j := j) (by simpa using h)
    exact ⟨ty, c, by simpa using a1, by simpa using a2, by simpa using a3, a4⟩
def tyFs (P : Program) (r : TypeId → Option (List Ty)) : Nat → List Field → Option (List Ty)
  | _, [] => some []
  | o, f :: fs => if f.offset = o then (r f.type).bind fun ts => if ts.length = P.cellsOf f.type then (tyFs P r (o + ts.length) fs).map (ts ++ ·) else none else none
/-- The cells of a type. -/
def tyOf (P : Program) : Nat → Bool → TypeId → Option (List Ty)
  | 0, _, _ => none
  | n + 1, deep, t => match P.underlying t with
    | some .bool => some [.bool]
    | some (.int k) => some [.int k]
    | some .string => some [.str]
    | some (.slice e) => if deep then (tyOf P n true e).bind fun ts => if ts.length = P.cellsOf e ∧ 0 < P.cellsOf e then some [.row ts] else none else none
    | some (.struct fs) => (tyFs P (tyOf P n deep) 0 fs.toList).bind fun ts => if ts.length = P.cellsOf t then some ts else none
    | _ => none
section
variable {H : Type} {enc : TypeId × Value → H} {P : Program} {w : World} {sp : Nat → Bool} {held : Bool}
theorem trod_fields {r : TypeId → Option (List Ty)} {cs : List Value}
    (hr : ∀ t ts fuel cs' x, r t = some ts → DataW.trod enc P w 0 sp held fuel t cs' = some x → (∀ v ∈ cs', v ∈ cs) → ∃ Cs, goodL w ts cs' Cs) :
    ∀ (fs : List Field) (o : Nat) (ts : List Ty), tyFs P r o fs = some ts → (∀ f ∈ fs, ∃ fuel x, DataW.trod enc P w 0 sp held fuel f.type ((cs.drop f.offset).take (P.cellsOf f.type)) = some x) →
      ∃ Cs, goodL w ts ((cs.drop o).take ts.length) Cs
  | [], o, ts, h, _ => by
    cases h
    exact ⟨[], by simp [goodL]⟩
  | f :: fs, o, ts, h, hx => by
    simp only [tyFs] at h
    split at h
    · rename_i ho
      simp only [Option.bind_eq_some_iff] at h
      obtain ⟨t1, h1, h⟩ := h
      split at h
      · rename_i hl
        simp only [Option.map_eq_some_iff] at h
        obtain ⟨t2, h2, rfl⟩ := h
        obtain ⟨fuel, x, hf⟩ := hx f (List.mem_cons_self ..)
        obtain ⟨C1, g1⟩ := hr _ _ _ _ _ h1 hf fun v hv => List.mem_of_mem_drop (List.mem_of_mem_take hv)
        obtain ⟨C2, g2⟩ := trod_fields hr fs _ _ h2 fun f hf => hx f (List.mem_cons_of_mem _ hf)
        refine ⟨C1 ++ C2, ?_⟩
        rw [List.length_append, List.take_add, List.drop_drop]
        rw [ho, ← hl] at g1
        exact goodL_append g1 g2
      · cases h
    · cases h
theorem spot_none {w : World} {g o n m : Nat} {spot : Option Nat} {vs : List Value} (hn : 0 < n) (h : w.cells? 0 ((⟨g, o, spot⟩ : Addr).add (0 * m)) n = some vs) : spot = none := by
  obtain ⟨_, hl, e3⟩ := World.cells?_some h
  have e4 := e3 0 hn
  have : ∃ v, vs[0]? = some v := ⟨vs[0], List.getElem?_eq_getElem (by omega)⟩
  obtain ⟨v, hv⟩ := this
  rw [hv] at e4
  have ha : ((⟨g, o, spot⟩ : Addr).add (0 * m)).add 0 = ⟨g, o, spot⟩ := by simp [Addr.add]
  rw [ha] at e4
  unfold World.cell? at e4
  cases spot with
  | none => rfl
  | some k =>
    split at e4
    · simp at e4
    · cases e4
theorem trod_good : ∀ (n : Nat) (deep : Bool) (t : TypeId) (ts : List Ty), tyOf P n deep t = some ts → ∀ (fuel : Nat) (cs : List Value) (x : DataW H × List MemPlace), DataW.trod enc P w 0 sp held fuel t cs = some x → ∃ Cs, goodL w ts cs Cs
  | 0, _, _, _, h, _, _, _, _ => by cases h
  | n + 1, deep, t, ts, h, fuel, cs, x, hx => by
    simp only [tyOf] at h
    split at h
    · rename_i hu
      cases h
      obtain ⟨b, rfl, rfl⟩ := DataW.trod_bool hu hx
      exact ⟨[.bool b], rfl, ⟨trivial, trivial, trivial, trivial, fun _ _ h => h, .bool⟩, trivial⟩
    · rename_i k hu
      cases h
      obtain ⟨m, rfl, rfl, hw⟩ := DataW.trod_int hu hx
      exact ⟨[.int k m], rfl, ⟨trivial, trivial, trivial, trivial, fun _ _ h => h, .int hw⟩, trivial⟩
    · rename_i hu
      cases h
      obtain ⟨s, rfl, rfl, hw⟩ := DataW.trod_string hu hx
      exact ⟨[.str s], rfl, ⟨trivial, trivial, trivial, hw, fun _ _ h => h, .str hw⟩, trivial⟩
    · rename_i e hu
      split at h
      · rename_i hd
        simp only [Option.bind_eq_some_iff] at h
        obtain ⟨te, h1, h⟩ := h
        split at h
        · rename_i hl
          obtain ⟨hl, hpos⟩ := hl
          cases h
          rcases DataW.trod_slice hu hx with ⟨rfl, rfl⟩ | ⟨a, len, cap, elems, rest, m, rfl, rfl, rfl, _, hlc, hcm, hel, hat, _, _⟩
          · refine ⟨[.row .sl te.length none 0 0 fun _ _ => .dead undef], rfl, ⟨trivial, trivial, .inr (.inl rfl), ⟨Nat.le_refl _, fun i j hi => by omega, fun i j hi => by omega, fun h => (by cases h), fun i j hi => by omega⟩, fun b k h => (by cases h.1), ?_⟩, trivial⟩
            exact Conf.row (xs := []) (by simp) (fun r hr => by cases hr) (fun r hr => by cases hr)
          · obtain ⟨g, o, spot⟩ := a
            by_cases hl0 : len = 0
            · subst hl0
              refine ⟨[.row .sl te.length (some (g, o, spot)) 0 cap fun _ _ => .dead undef], rfl, ⟨trivial, trivial, .inr (.inl rfl), ⟨hlc, fun i j hi => by omega, fun i j hi => by omega, fun h => (by cases h), fun i j hi => by omega⟩, fun b k h => (by cases h.1), ?_⟩, trivial⟩
              exact Conf.row (xs := []) (by simp) (fun r hr => by cases hr) (fun r hr => by cases hr)
            have hspot : spot = none := by
              have := hat 0 (by omega)
              rw [List.getElem?_eq_getElem (by omega), Option.bind_eq_some_iff] at this
              obtain ⟨vs, e1, e2⟩ := this
              exact spot_none hpos e1
            subst hspot
            have hex : ∀ i, ∃ (vs : List Value) (l : List C), i < len → w.cells? 0 ((⟨g, o, none⟩ : Addr).add (i * P.cellsOf e)) (P.cellsOf e) = some vs ∧ goodL w te vs l := fun i => by
              by_cases hi : i < len
              · have := hat i hi
                rw [List.getElem?_eq_getElem (by omega), Option.bind_eq_some_iff] at this
                obtain ⟨vs, e1, e2⟩ := this
                obtain ⟨l, hl⟩ := trod_good n true _ _ h1 _ _ _ e2
                exact ⟨vs, l, fun _ => ⟨e1, hl⟩⟩
              · exact ⟨[], [], fun h => (hi h).elim⟩
            let vs := fun i => (hex i).choose
            let l := fun i => (hex i).choose_spec.choose
            have hvl : ∀ i, i < len → w.cells? 0 ((⟨g, o, none⟩ : Addr).add (i * P.cellsOf e)) (P.cellsOf e) = some (vs i) ∧ goodL w te (vs i) (l i) := fun i => (hex i).choose_spec.choose_spec
            have hij : ∀ i j, i < len → j < te.length → ∃ ty, te[j]? = some ty ∧ (l i)[j]? = some ((l i).getD j (.dead undef)) ∧ w.cell? ⟨g, o + i * te.length + j, none⟩ = some ((l i).getD j (.dead undef)).val ∧ Fine w ty ((l i).getD j (.dead undef)) := fun i j hi hj => by
              obtain ⟨e1, e2⟩ := hvl i hi
              obtain ⟨ty, c, a1, a2, a3, a4⟩ := goodL_at e2 hj
              have hc : (l i).getD j (.dead undef) = c := by rw [List.getD_eq_getElem?_getD, a2]; rfl
              rw [hc]
              obtain ⟨_, _, e3⟩ := World.cells?_some e1
              have e4 := e3 j (by omega)
              rw [a3] at e4
              refine ⟨ty, a1, a2, ?_, a4⟩
              rw [← e4]
              congr 1
              rw [hl]
              unfold Addr.add
              split <;> split <;> simp_all
            have hb : ∀ i j, i < len → j < te.length → g < w.heap.size := fun i j hi hj => by
              obtain ⟨_, _, _, h3, _⟩ := hij i j hi hj
              exact World.block_lt_of_cell? w _ h3
            refine ⟨[.row .sl te.length (some (g, o, none)) len cap fun i j => (l i).getD j (.dead undef)], rfl, ⟨trivial, trivial, .inr (.inl rfl), ⟨hlc, fun i j hi hj => ⟨g, o, rfl, ?_, fun _ => hb i j hi hj⟩, fun i j hi hj => ?_, fun h => (by cases h), fun i j hi hj b k hf => ?_⟩, fun b k h => (by cases h.1), ?_⟩, trivial⟩
            · obtain ⟨ty, _, _, h3, h4⟩ := hij i j hi hj
              exact h3
            · obtain ⟨ty, _, _, h3, h4⟩ := hij i j hi hj
              exact ⟨h4.cell, h4.solid, h4.fits, h4.ok⟩
            · obtain ⟨ty, _, _, h3, h4⟩ := hij i j hi hj
              exact (h4.fp b k hf).elim
            · refine Conf.row (by simpa using Nat.le_trans hlc hcm) (fun r hr => ?_) fun r hr j ty x hty hrx => ?_
              · simp only [List.mem_map, List.mem_range] at hr
                obtain ⟨i, _, rfl⟩ := hr
                simp
              · simp only [List.mem_map, List.mem_range] at hr
                obtain ⟨i, hi, rfl⟩ := hr
                have hj : j < te.length := by
                  rcases Nat.lt_or_ge j te.length with h | h
                  · exact h
                  · rw [List.getElem?_eq_none h] at hty; cases hty
                obtain ⟨ty', e1, _, _, h4⟩ := hij i j hi hj
                rw [e1] at hty
                cases hty
                rw [List.getElem?_map, List.getElem?_range hj] at hrx
                simp only [Option.map_some, Option.some.injEq] at hrx
                subst hrx
                exact h4.conf
        · cases h
      · cases h
    · rename_i fs hu
      simp only [Option.bind_eq_some_iff] at h
      obtain ⟨te, h1, h⟩ := h
      split at h
      · rename_i hl
        cases h
        obtain ⟨xs, m, rfl, rfl, hcs, hxl, hat⟩ := DataW.trod_struct hu hx
        obtain ⟨Cs, hC⟩ := trod_fields (cs := cs) (fun t ts' fuel cs' x hr ht hm => trod_good n deep t ts' hr fuel cs' x ht) fs.toList 0 ts h1 fun f hf => by
          obtain ⟨i, hi, rfl⟩ := List.getElem_of_mem hf
          have hi' : i < fs.size := by simpa using hi
          have := hat i (fs[i]) (by simp [hi'])
          rw [List.getElem?_eq_getElem (by omega)] at this
          exact ⟨_, _, by simpa using this⟩
        refine ⟨Cs, ?_⟩
        rw [List.drop_zero, hl, ← hcs, List.take_length] at hC
        exact hC
      · cases h
    · cases h
/-- What was read with all that is spare is read so again, where only the old blocks count as spare. -/
theorem trod_spare : ∀ (n : Nat) (deep : Bool) (t : TypeId) (ts : List Ty), tyOf P n deep t = some ts → ∀ (fuel : Nat) (cs : List Value) (x : DataW H × List MemPlace), DataW.trod enc P w 0 (fun _ => true) held fuel t cs = some x → DataW.trod enc P w 0 (fun b => decide (b < w.heap.size)) held fuel t cs = some x
  | 0, _, _, _, h, _, _, _, _ => by cases h
  | n + 1, deep, t, ts, h, 0, cs, x, hx => by simp [DataW.trod] at hx
  | n + 1, deep, t, ts, h, fuel + 1, cs, x, hx => by
    simp only [tyOf] at h
    split at h
    · rename_i hu
      obtain ⟨b, rfl, rfl⟩ := DataW.trod_bool hu hx
      simp [DataW.trod, hu]
    · rename_i k hu
      obtain ⟨m, rfl, rfl, hw⟩ := DataW.trod_int hu hx
      simp [DataW.trod, hu, hw]
    · rename_i hu
      obtain ⟨s, rfl, rfl, hw⟩ := DataW.trod_string hu hx
      simp [DataW.trod, hu, hw]
    · rename_i e hu
      split at h
      · simp only [Option.bind_eq_some_iff] at h
        obtain ⟨te, h1, h⟩ := h
        split at h
        · rename_i hl
          obtain ⟨hl, hpos⟩ := hl
          rcases DataW.trod_slice hu hx with ⟨rfl, rfl⟩ | ⟨a, len, cap, elems', rest', m, _, rfl, _⟩
          · simp [DataW.trod, hu]
          · unfold DataW.trod at hx ⊢
            simp only [hu] at hx ⊢
            split at hx
            · rename_i hc
              rw [if_pos hc]
              simp only [Option.map_eq_some_iff, Option.bind_eq_some_iff, if_true] at hx ⊢
              obtain ⟨elems, he, rest, hrest, rfl⟩ := hx
              have one : ∀ (i : Nat) (y : DataW H × List MemPlace), (w.cells? 0 (a.add (i * P.cellsOf e)) (P.cellsOf e)).bind (DataW.trod enc P w 0 (fun _ => true) held fuel e) = some y → (w.cells? 0 (a.add (i * P.cellsOf e)) (P.cellsOf e)).bind (DataW.trod enc P w 0 (fun b => decide (b < w.heap.size)) held fuel e) = some y := fun i y hv => by
                simp only [Option.bind_eq_some_iff] at hv ⊢
                obtain ⟨cs', hc', hy'⟩ := hv
                exact ⟨cs', hc', trod_spare n true _ _ h1 _ _ _ hy'⟩
              refine ⟨elems, mapM_carry he fun i y _ _ hv => one i y hv, rest, ?_, rfl⟩
              by_cases hb : a.block < w.heap.size
              · rw [if_pos (by simpa using hb)]
                exact mapM_carry hrest fun i y _ _ hv => one (len + i) y hv
              · rw [if_neg (by simpa using hb)]
                have : cap - len = 0 := by
                  rcases Nat.eq_zero_or_pos (cap - len) with h | h
                  · exact h
                  · have h0 := mapM_some_get hrest 0 0 (by simp [h])
                    have hl' : 0 < rest.length := by have := mapM_some_length hrest; simp at this; omega
                    rw [List.getElem?_eq_getElem hl', Option.bind_eq_some_iff] at h0
                    obtain ⟨vs, e1, _⟩ := h0
                    have := World.cells?_block e1 hpos
                    refine (hb ?_).elim
                    unfold Addr.add at this
                    split at this <;> exact this
                rw [this] at hrest
                exact hrest
            · cases hx
        · cases h
      · cases h
    · rename_i fs hu
      simp only [Option.bind_eq_some_iff] at h
      obtain ⟨te, h1, h⟩ := h
      unfold DataW.trod at hx ⊢
      simp only [hu] at hx ⊢
      have each : ∀ (o : Nat) (l : List Field) (ts : List Ty), tyFs P (tyOf P n deep) o l = some ts → ∀ f ∈ l, ∃ t1, tyOf P n deep f.type = some t1 := by
        intro o l
        induction l generalizing o with
        | nil => intro _ _ f hf; cases hf
        | cons f l ih =>
          intro ts h f' hf'
          simp only [tyFs] at h
          split at h
          · simp only [Option.bind_eq_some_iff] at h
            obtain ⟨t1, e1, h⟩ := h
            split at h
            · simp only [Option.map_eq_some_iff] at h
              obtain ⟨t2, e2, _⟩ := h
              rcases List.mem_cons.1 hf' with rfl | hf'
              · exact ⟨t1, e1⟩
              · exact ih _ _ e2 f' hf'
            · cases h
          · cases h
      split at hx
      · rename_i hc
        rw [if_pos hc]
        simp only [Option.map_eq_some_iff] at hx ⊢
        obtain ⟨xs, hx, rfl⟩ := hx
        refine ⟨xs, mapM_carry hx fun f y hf _ hv => ?_, rfl⟩
        obtain ⟨t1, e1⟩ := each _ _ _ h1 f hf
        exact trod_spare n deep _ _ e1 _ _ _ hv
      · cases hx
    · cases h
inductive ArgT where
  | one (ty : Ty)
  | agg (tys : List Ty)
inductive ConfA : ArgT → X → Prop
  | one {ty x} : Conf ty x → ConfA (.one ty) x
  | agg {tys : List Ty} {l : List X} : l.length = tys.length → (∀ (j : Nat) ty x, tys[j]? = some ty → l[j]? = some x → Conf ty x) → ConfA (.agg tys) (.agg l)
def argT (P : Program) (t : TypeId) : Option ArgT := match P.underlying t with
  | some (.struct _) => (tyOf P 20 true t).map .agg
  | some .bool => some (.one .bool)
  | some (.int k) => some (.one (.int k))
  | some .string => some (.one .str)
  | some (.slice _) => (tyOf P 20 true t).bind fun
    | [ty] => some (.one ty)
    | _ => none
  | _ => none
theorem bare_of_solid {c : C} (h1 : c.cell) (h2 : c.solid) : c.bare := by
  cases c <;> first | trivial | exact h2.elim
/-- A value of an argument, told. -/
structure ArgGood (w : World) (a : ArgT) (v : Value) (c : C) : Prop where
  val : c.val = v
  ok : c.ok w (Zf (fun b _ => b < w.heap.size) fun _ _ => False)
  bare : c.bare
  fp : ∀ b k, ¬ c.fp b k
  conf : ConfA a c.er
theorem goodL_one {ty : Ty} {cs : List Value} {Cs : List C} {v : Value} (h : goodL w [ty] cs Cs) (e : cs = [v]) : ∃ c, ArgGood w (.one ty) v c := by
  subst e
  match Cs, h with
  | [c], ⟨h1, h2, _⟩ => exact ⟨c, h1, h2.ok, bare_of_solid h2.cell h2.solid, h2.fp, .one h2.conf⟩
theorem arg_good {r : Reach} {base : Nat} {t : TypeId} {v : Value} {d : DataW H} {p : List MemPlace} {a : ArgT} (ha : argT P t = some a) (hv : Value.okWide P w r base t v) (hd : DataW.Trod enc P w 0 sp held t v d p) : ∃ c, ArgGood w a v c := by
  obtain ⟨fuel, hf⟩ := hd
  unfold argT at ha
  split at ha
  · rename_i fs hu
    simp only [Option.map_eq_some_iff] at ha
    obtain ⟨ts, ht, rfl⟩ := ha
    unfold Value.okWide at hv
    rw [hu] at hv
    obtain ⟨cs, rfl, _, ts', _, _, hcell⟩ := hv
    obtain ⟨Cs, hC⟩ := trod_good _ _ _ _ ht _ _ _ hf
    obtain ⟨l1, l2, l3⟩ := goodL_len hC
    have hat : ∀ j, j < Cs.length → ∃ ty, ts[j]? = some ty ∧ Fine w ty (Cs.getD j (.dead undef)) := fun j hj => by
      obtain ⟨ty, c, a1, a2, a3, a4⟩ := goodL_at hC (j := j) (by omega)
      exact ⟨ty, a1, by rw [List.getD_eq_getElem?_getD, a2]; exact a4⟩
    refine ⟨.agg Cs.length fun j => Cs.getD j (.dead undef), ?_, ⟨fun j hj => ?_, fun j hj b k hf => ?_⟩, fun j hj => ?_, fun b k ⟨j, hj, hf⟩ => ?_, ?_⟩
    · show Value.agg _ = _
      congr 1
      apply Array.ext'
      show (List.range Cs.length).map (fun j => (Cs.getD j (.dead undef)).val) = cs.toList
      have : (Value.agg cs).cells.toList = cs.toList := rfl
      rw [← this, l3]
      letI : Bs := ⟨w⟩
      exact range_getD Cs _ C.val
    · obtain ⟨_, _, h⟩ := hat j hj; exact ⟨h.cell, h.ok⟩
    · obtain ⟨_, _, h⟩ := hat j hj; exact (h.fp b k hf).elim
    · obtain ⟨_, _, h⟩ := hat j hj; exact bare_of_solid h.cell h.solid
    · obtain ⟨_, _, h⟩ := hat j hj; exact h.fp b k hf
    · refine ConfA.agg (by simpa using l2) fun j ty x hty hx => ?_
      have hj : j < Cs.length := by
        rcases Nat.lt_or_ge j Cs.length with h | h
        · exact h
        · rw [List.getElem?_eq_none (by simpa using h)] at hx; cases hx
      obtain ⟨ty', e1, h⟩ := hat j hj
      rw [e1] at hty
      cases hty
      rw [List.getElem?_map, List.getElem?_range hj] at hx
      simp only [Option.map_some, Option.some.injEq] at hx
      subst hx
      exact h.conf
  · rename_i hu
    cases ha
    obtain ⟨Cs, hC⟩ := trod_good 1 true t [.bool] (by simp [tyOf, hu]) _ _ _ hf
    obtain ⟨b, hb, _⟩ := DataW.trod_bool hu hf
    exact goodL_one hC (v := v) (by
      unfold Value.okWide at hv; rw [hu] at hv
      unfold Cell.okWide at hv; rw [hu] at hv; unfold Cell.ok at hv; rw [hu] at hv
      cases v <;> first | rfl | (simp at hv; done))
  · rename_i k hu
    cases ha
    obtain ⟨m, hb, _⟩ := DataW.trod_int hu hf
    obtain ⟨Cs, hC⟩ := trod_good 1 true t [.int k] (by simp [tyOf, hu]) _ _ _ hf
    exact goodL_one hC (v := v) (by
      unfold Value.okWide at hv; rw [hu] at hv
      unfold Cell.okWide at hv; rw [hu] at hv; unfold Cell.ok at hv; rw [hu] at hv
      cases v <;> first | rfl | (simp at hv; done))
  · rename_i hu
    cases ha
    obtain ⟨m, hb, _⟩ := DataW.trod_string hu hf
    obtain ⟨Cs, hC⟩ := trod_good 1 true t [.str] (by simp [tyOf, hu]) _ _ _ hf
    exact goodL_one hC (v := v) (by
      unfold Value.okWide at hv; rw [hu] at hv
      unfold Cell.okWide at hv; rw [hu] at hv; unfold Cell.ok at hv; rw [hu] at hv
      cases v <;> first | rfl | (simp at hv; done))
  · rename_i e hu
    simp only [Option.bind_eq_some_iff] at ha
    obtain ⟨ts, ht, ha⟩ := ha
    split at ha
    · rename_i ty
      cases ha
      have hc : Cell.okWide P w r base t v := by unfold Value.okWide at hv; rw [hu] at hv; exact hv
      have hv1 : v.cells.toList = [v] := by
        unfold Cell.okWide at hc; rw [hu] at hc; unfold Cell.ok at hc; rw [hu] at hc
        cases v <;> first | rfl | (simp at hc; done)
      obtain ⟨Cs, hC⟩ := trod_good _ _ _ _ ht _ _ _ hf
      exact goodL_one hC hv1
    · cases ha
  · cases ha
def ConfAs : List ArgT → List X → Prop
  | [], [] => True
  | a :: as, x :: xs => ConfA a x ∧ ConfAs as xs
  | _, _ => False
theorem args_good {r : Reach} {base : Nat} : ∀ {ts : List TypeId} {as : List ArgT} {vs : List Value} {ds : List (DataW H)} {p : List MemPlace}, ts.map (argT P) = as.map some →
    (∀ (j : Nat) t v, ts[j]? = some t → vs[j]? = some v → Value.okWide P w r base t v) → DataW.TrodAll enc P w 0 sp held ts vs ds p →
    ∃ cs : List C, cs.map C.val = vs ∧ (∀ c ∈ cs, c.ok w (Zf (fun b _ => b < w.heap.size) fun _ _ => False) ∧ c.bare ∧ ∀ b k, ¬ c.fp b k) ∧ ConfAs as (cs.map C.er)
  | [], [], [], [], _, _, _, _ => ⟨[], rfl, fun _ h => (by cases h), trivial⟩
  | t :: ts, a :: as, v :: vs, d :: ds, _, ha, hv, ⟨p, q, h1, h2, _⟩ => by
    simp only [List.map_cons, List.cons.injEq] at ha
    obtain ⟨c, hc⟩ := arg_good ha.1 (hv 0 t v rfl rfl) h1
    obtain ⟨cs, e1, e2, e3⟩ := args_good ha.2 (fun j t' v' ht hv' => hv (j + 1) t' v' (by simpa using ht) (by simpa using hv')) h2
    refine ⟨c :: cs, by simp [hc.val, e1], fun x hx => ?_, ⟨hc.conf, e3⟩⟩
    rcases List.mem_cons.1 hx with rfl | hx
    · exact ⟨hc.ok, hc.bare, hc.fp⟩
    · exact e2 x hx
theorem calls_of_ac {r : Reach} {base : Nat} {ts : List TypeId} {as : List ArgT} {vs : List Value} {ds : List (DataW H)} {p : List MemPlace} {f : FuncId} (ha : ts.map (argT P) = as.map some)
    (hv : ∀ (j : Nat) t v, ts[j]? = some t → vs[j]? = some v → Value.okWide P w r base t v) (hd : DataW.TrodAll enc P w 0 sp held ts vs ds p)
    (hAC : ∀ xs, ConfAs as xs → @AC ⟨w⟩ P f xs fun r _ => r = .bool true) : Calls P f vs.toArray w fun e w' => e = .returned (.bool true) ∧ Below w.heap.size w w' := by
  obtain ⟨cs, rfl, hcs, hc⟩ := args_good ha hv hd
  refine (hAC _ hc w (fun b _ => b < w.heap.size) (fun _ _ => False) cs rfl ⟨fun x hx => (hcs x hx).1, fun x hx => (hcs x hx).2.1, fun x hx b k hf => ((hcs x hx).2.2 b k hf).elim, fun b k h => h.elim id False.elim, ?_⟩ fun b hb => ⟨rfl, fun k => .inl hb⟩).mono fun e w' ⟨r, ps, zl', hD, hr⟩ => ?_
  · refine List.pairwise_iff_getElem.2 fun i j hi hj _ b k hf => ((hcs _ (List.getElem_mem hi)).2.2 b k hf).elim
  · letI : Bs := ⟨w⟩
    have hr' := er_bool hr
    subst hr'
    exact ⟨hD.ends, (hD.ext.mono (S' := fun _ _ => False) fun b k ⟨x, hx, hf⟩ _ => (hcs x hx).2.2 b k hf).below⟩
theorem argT_ty {t : TypeId} {a : ArgT} (h : argT P t = some a) : ∃ n deep ts, tyOf P n deep t = some ts := by
  unfold argT at h
  split at h
  · simp only [Option.map_eq_some_iff] at h
    obtain ⟨ts, ht, _⟩ := h
    exact ⟨_, _, ts, ht⟩
  · rename_i hu; exact ⟨1, true, [.bool], by simp [tyOf, hu]⟩
  · rename_i k hu; exact ⟨1, true, [.int k], by simp [tyOf, hu]⟩
  · rename_i hu; exact ⟨1, true, [.str], by simp [tyOf, hu]⟩
  · simp only [Option.bind_eq_some_iff] at h
    obtain ⟨ts, ht, _⟩ := h
    exact ⟨_, _, ts, ht⟩
  · cases h
theorem trodAll_after {w' : World} (hb : Below w.heap.size w w') : ∀ {ts : List TypeId} {as : List ArgT} {vs : List Value} {ds : List (DataW H)} {p : List MemPlace}, ts.map (argT P) = as.map some →
    DataW.TrodAll enc P w 0 (fun _ => true) held ts vs ds p → DataW.TrodAll enc P w' 0 (fun b => decide (b < w.heap.size)) held ts vs ds p
  | [], [], [], [], _, _, h => h
  | t :: ts, a :: as, v :: vs, d :: ds, _, ha, ⟨p, q, ⟨fuel, h1⟩, h2, e⟩ => by
    simp only [List.map_cons, List.cons.injEq] at ha
    obtain ⟨n, deep, tt, ht⟩ := argT_ty ha.1
    have h3 := trod_spare n deep t tt ht _ _ _ h1
    exact ⟨p, q, ⟨fuel, DataW.trod_carry _ _ _ _ h3 fun m hm => hb.same (DataW.trod_lt _ _ _ _ h3 m hm)⟩, trodAll_after hb ha.2 h2, e⟩
end
end M
set_option linter.unusedVariables false
set_option linter.unusedSimpArgs false
namespace M
open Go
/-! What the cells of an argument are, drawn out of Conf. -/
def ConfL (ts : List Ty) (r : List X) : Prop := r.length = ts.length ∧ ∀ (j : Nat) ty x, ts[j]? = some ty → r[j]? = some x → Conf ty x
theorem ConfL.nil {r : List X} (h : ConfL [] r) : r = [] := List.length_eq_zero_iff.1 h.1
theorem ConfL.cons {ty : Ty} {ts : List Ty} {r : List X} (h : ConfL (ty :: ts) r) : ∃ x r', r = x :: r' ∧ Conf ty x ∧ ConfL ts r' := by
  obtain ⟨h1, h2⟩ := h
  cases r with
  | nil => cases h1
  | cons x r => exact ⟨x, r, rfl, h2 0 ty x rfl rfl, by simpa using h1, fun j ty x ht hx => h2 (j + 1) ty x (by simpa using ht) (by simpa using hx)⟩
theorem conf_str {x : X} (h : Conf .str x) : ∃ s : Str, x = .str ⟨s.toArray⟩ ∧ s.length ≤ 9223372036854775807 := by
  cases h with
  | str h => rename_i s; exact ⟨s.data.toList, by simp, by rw [Array.length_toList]; exact h⟩
theorem conf_bool {x : X} (h : Conf .bool x) : ∃ b, x = .bool b := by cases h; exact ⟨_, rfl⟩
theorem bounds64 {n : Int} (h : (Lit.int .i64 n).wf = true) : -9223372036854775808 ≤ n ∧ n ≤ 9223372036854775807 := by
  have h' : (decide (IntKind.i64.min ≤ n) && decide (n ≤ IntKind.i64.max)) = true := h
  rw [Bool.and_eq_true, decide_eq_true_eq, decide_eq_true_eq] at h'
  exact h'
theorem conf_int {x : X} (h : Conf (.int .i64) x) : ∃ n : Int, x = .int .i64 n ∧ -9223372036854775808 ≤ n ∧ n ≤ 9223372036854775807 := by
  cases h with
  | int h =>
    rename_i n
    refine ⟨n, rfl, ?_⟩
    exact bounds64 h
theorem list_ex {α : Type} {e : α → List X} {ok : α → Prop} : ∀ {xs : List (List X)}, (∀ r ∈ xs, ∃ a, r = e a ∧ ok a) → ∃ l : List α, xs = l.map e ∧ ∀ a ∈ l, ok a
  | [], _ => ⟨[], rfl, fun _ h => by cases h⟩
  | r :: xs, h => by
    obtain ⟨a, e1, e2⟩ := h r (List.mem_cons_self ..)
    obtain ⟨l, e3, e4⟩ := list_ex (fun r hr => h r (List.mem_cons_of_mem _ hr))
    refine ⟨a :: l, by simp [e1, e3], fun b hb => ?_⟩
    rcases List.mem_cons.1 hb with rfl | hb
    · exact e2
    · exact e4 b hb
theorem conf_row {α : Type} (e : α → List X) (ok : α → Prop) {ts : List Ty} {x : X} (h : Conf (.row ts) x) (hr : ∀ r, ConfL ts r → ∃ a, r = e a ∧ ok a) : ∃ l : List α, x = .row .sl ts.length (l.map e) ∧ l.length ≤ 9223372036854775807 ∧ ∀ a ∈ l, ok a := by
  cases h with
  | row h1 h2 h3 =>
    rename_i xs
    obtain ⟨l, rfl, hl⟩ := list_ex (e := e) (ok := ok) (xs := xs) fun r hr' => hr r ⟨h2 r hr', h3 r hr'⟩
    rw [List.length_map] at h1
    exact ⟨l, rfl, h1, hl⟩
theorem confA_agg {tys : List Ty} {x : X} (h : ConfA (.agg tys) x) : ∃ l, x = .agg l ∧ ConfL tys l := by
  cases h with
  | agg h1 h2 => exact ⟨_, rfl, h1, h2⟩
theorem confA_one {ty : Ty} {x : X} (h : ConfA (.one ty) x) : Conf ty x := by
  cases h with
  | one h => exact h
theorem confAs_cons {a : ArgT} {as : List ArgT} {xs : List X} (h : ConfAs (a :: as) xs) : ∃ x xs', xs = x :: xs' ∧ ConfA a x ∧ ConfAs as xs' := by
  match xs, h with
  | x :: xs', ⟨h1, h2⟩ => exact ⟨x, xs', rfl, h1, h2⟩
theorem confAs_nil {xs : List X} (h : ConfAs [] xs) : xs = [] := by
  match xs, h with
  | [], _ => rfl
theorem conf_strs {x : X} (h : Conf (.row [.str]) x) : ∃ l : List Str, x = .row .sl 1 (l.map eS) ∧ l.length ≤ 9223372036854775807 ∧ ∀ s ∈ l, s.length ≤ 9223372036854775807 :=
  conf_row eS (fun s => s.length ≤ 9223372036854775807) h fun r hr => by
    obtain ⟨x, r', rfl, h1, h2⟩ := hr.cons
    obtain rfl := h2.nil
    obtain ⟨s, rfl, hs⟩ := conf_str h1
    exact ⟨s, rfl, hs⟩
structure DskOk (d : Dsk) : Prop where
  hb : d.cells.length ≤ 9223372036854775807
  hs : ∀ s ∈ d.cells, s.length ≤ 9223372036854775807
  hb' : d.pending.length ≤ 9223372036854775807
  hs' : ∀ s ∈ d.pending, s.text.length ≤ 9223372036854775807
  hi : ∀ s ∈ d.pending, -9223372036854775808 ≤ s.at_ ∧ s.at_ ≤ 9223372036854775807
theorem confL_dsk {ts : List Ty} {l : List X} (h : ConfL (.row [.str] :: .row [.int .i64, .str] :: ts) l) : ∃ d l', l = eDsk .sl d ++ l' ∧ DskOk d ∧ ConfL ts l' := by
  obtain ⟨x, r1, rfl, h1, h2⟩ := h.cons
  obtain ⟨y, r2, rfl, h3, h4⟩ := h2.cons
  obtain ⟨cs, rfl, c1, c2⟩ := conf_strs h1
  obtain ⟨ps, rfl, p1, p2⟩ := conf_row eW (fun w => w.text.length ≤ 9223372036854775807 ∧ -9223372036854775808 ≤ w.at_ ∧ w.at_ ≤ 9223372036854775807) h3 fun r hr => by
    obtain ⟨x, r', rfl, h1, h2⟩ := hr.cons
    obtain ⟨y, r'', rfl, h3, h4⟩ := h2.cons
    obtain rfl := h4.nil
    obtain ⟨n, rfl, hn⟩ := conf_int h1
    obtain ⟨s, rfl, hs⟩ := conf_str h3
    exact ⟨⟨n, s⟩, rfl, hs, hn⟩
  exact ⟨⟨cs, ps⟩, r2, rfl, ⟨c1, c2, p1, fun s hs => (p2 s hs).1, fun s hs => (p2 s hs).2⟩, h4⟩
theorem conf_dsk {x : X} (h : ConfA (.agg [.row [.str], .row [.int .i64, .str]]) x) : ∃ d, x = .agg (eDsk .sl d) ∧ DskOk d := by
  obtain ⟨l, rfl, hl⟩ := confA_agg h
  obtain ⟨d, l', rfl, h1, h2⟩ := confL_dsk hl
  obtain rfl := h2.nil
  exact ⟨d, by simp, h1⟩
/-- A library of nothing. -/
def L0 : Ora := fun _ _ => none
theorem L0_sound [Bs] {P : Program} : L0.Sound P := fun _ _ _ h => by cases h
theorem conf_bools {x : X} (h : Conf (.row [.bool]) x) : ∃ l : List Bool, x = .row .sl 1 (l.map eB) ∧ l.length ≤ 9223372036854775807 ∧ ∀ b ∈ l, True :=
  conf_row eB (fun _ => True) h fun r hr => by
    obtain ⟨x, r', rfl, h1, h2⟩ := hr.cons
    obtain rfl := h2.nil
    obtain ⟨b, rfl⟩ := conf_bool h1
    exact ⟨b, rfl, trivial⟩
theorem conf_byte {x : X} (h : Conf (.int .u8) x) : ∃ b : UInt8, x = .int .u8 (b.toNat : Int) := by
  cases h with
  | int h =>
    rename_i n
    have h' : (decide (IntKind.u8.min ≤ n) && decide (n ≤ IntKind.u8.max)) = true := h
    rw [Bool.and_eq_true, decide_eq_true_eq, decide_eq_true_eq] at h'
    have h1 : 0 ≤ n := h'.1
    have h2 : n ≤ 255 := h'.2
    refine ⟨UInt8.ofNat n.toNat, ?_⟩
    rw [UInt8.toNat_ofNat']
    congr 1
    omega
theorem conf_bytes {x : X} (h : Conf (.row [.int .u8]) x) : ∃ l : List UInt8, x = .row .sl 1 (l.map eU) ∧ l.length ≤ 9223372036854775807 ∧ ∀ b ∈ l, True :=
  conf_row eU (fun _ => True) h fun r hr => by
    obtain ⟨x, r', rfl, h1, h2⟩ := hr.cons
    obtain rfl := h2.nil
    obtain ⟨b, rfl⟩ := conf_byte h1
    exact ⟨b, rfl, trivial⟩
end M
set_option linter.unusedVariables false
set_option linter.unusedSimpArgs false
namespace M
open Go
/-- A loop whose end is drawn. -/
theorem loop_ms {γ : Type} {f : Slots → Res} (st : γ → Slots) (μ : γ → Nat) (Inv : γ → Prop) (E : γ → Slots)
    (h : ∀ g, Inv g → (∃ g', Inv g' ∧ f (st g) = some (.exit 0, E g')) ∨ ∃ g', Inv g' ∧ μ g' < μ g ∧ f (st g) = some (.normal, st g')) (g : γ) (hg : Inv g) : ∃ g', Inv g' ∧ loopW f (st g) = some (.exit 0, E g') := by
  suffices H : ∀ n g, μ g = n → Inv g → ∃ g', Inv g' ∧ loopW f (st g) = some (.exit 0, E g') from H _ g rfl hg
  intro n
  induction n using Nat.strongRecOn with
  | ind n ih =>
    intro g hn hI
    rcases h g hI with ⟨g', h1, h2⟩ | ⟨g', h1, h2, h3⟩
    · exact ⟨g', h1, by rw [loopW_eq, h2]; rfl⟩
    · obtain ⟨g2, h4, h5⟩ := ih _ (hn ▸ h2) g' rfl h1
      exact ⟨g2, h4, by rw [loopW_eq, h3]; exact h5⟩
theorem loop_ex2 {γ : Type} {f : Slots → Res} (x : Nat) (n : Nat) (st : Nat → γ → Slots) (Inv : Nat → γ → Prop) (E : γ → Slots) (g : γ) (h0 : Inv 0 g)
    (h : ∀ i g, i < n → Inv i g → ∃ g', f (st i g) = some (.normal, st (i + 1) g') ∧ Inv (i + 1) g')
    (hend : ∀ g, Inv n g → f (st n g) = some (.exit x, E g)) : ∃ g', Inv n g' ∧ loopW f (st 0 g) = some (.exit x, E g') := by
  suffices H : ∀ k i g, i + k = n → Inv i g → ∃ g', Inv n g' ∧ loopW f (st i g) = some (.exit x, E g') from H n 0 g (by omega) h0
  intro k
  induction k with
  | zero =>
    intro i g hi hI
    obtain rfl : i = n := by omega
    exact ⟨g, hI, by rw [loopW_eq, hend g hI]; rfl⟩
  | succ k ih =>
    intro i g hi hI
    obtain ⟨g1, e1, hI1⟩ := h i g (by omega) hI
    obtain ⟨g2, hI2, e2⟩ := ih (i + 1) g1 (by omega) hI1
    exact ⟨g2, hI2, by rw [loopW_eq, e1]; exact e2⟩
end M
set_option linter.unusedVariables false
set_option linter.unusedSimpArgs false
namespace M
open Go
/-! Numerals. -/
theorem u8s_one' (m : Nat) (h : m < 256) : u8s [[.int .u8 (m : Int)]] = some [UInt8.ofNat m] := by
  have := u8s_map [UInt8.ofNat m]
  have e : ((UInt8.ofNat m).toNat : Int) = m := by
    rw [UInt8.toNat_ofNat']
    omega
  simp only [List.map_cons, List.map_nil, e] at this
  exact this
theorem wrap8_id' {n : Int} (h1 : 0 ≤ n) (h2 : n < 256) : IntKind.u8.wrap n = n := by
  simp only [IntKind.wrap, IntKind.signed, IntKind.bits, Bool.false_and, Bool.false_eq_true, if_false]
  omega
def digS (n : Nat) : Str := Lib.decDigits n
theorem markD_dig : ∀ (n : Nat) (out : Str), n ≠ 0 → markD n out = digS n ++ out := by
  intro n
  induction n using Nat.strongRecOn with
  | ind n ih =>
    intro out h
    unfold markD digS
    rw [dif_neg h, Lib.decDigits]
    by_cases h1 : n < 10
    · have e : n / 10 = 0 := by omega
      have e2 : n % 10 = n := by omega
      rw [dif_pos h1, e, e2]
      unfold markD
      rw [dif_pos rfl]
      rfl
    · rw [dif_neg h1, ih (n / 10) (by omega) _ (by omega)]
      unfold digS
      rw [List.append_assoc]
      rfl
theorem digS_zero : digS 0 = [48] := by unfold digS; rw [Lib.decDigits]; rfl
theorem digS_le : ∀ (n : Nat), (digS n).length ≤ n + 1 := by
  intro n
  induction n using Nat.strongRecOn with
  | ind n ih =>
    unfold digS
    rw [Lib.decDigits]
    by_cases h1 : n < 10
    · rw [dif_pos h1]; simp
    · rw [dif_neg h1, List.length_append]
      have := ih (n / 10) (by omega)
      unfold digS at this
      simp only [List.length_cons, List.length_nil]
      omega
theorem digS_len (k : Nat) : ∀ (n : Nat), n < 10 ^ (k + 1) → (digS n).length ≤ k + 1 := by
  induction k with
  | zero =>
    intro n h
    unfold digS
    rw [Lib.decDigits, dif_pos (by simpa using h)]
    simp
  | succ k ih =>
    intro n h
    unfold digS
    rw [Lib.decDigits]
    by_cases h1 : n < 10
    · rw [dif_pos h1]; simp
    · rw [dif_neg h1, List.length_append]
      have := ih (n / 10) (by rw [Nat.pow_succ] at h; omega)
      unfold digS at this
      simp only [List.length_cons, List.length_nil]
      omega
theorem itoa_nat (n : Nat) : Lib.itoa (n : Int) = digS n := by
  unfold Lib.itoa digS
  rw [if_neg (by omega)]
  rfl
/-- strconv.Itoa, as an oracle. -/
def itoaG : List X → Option X
  | [.int .i64 n] => if -9223372036854775808 ≤ n ∧ n ≤ 9223372036854775807 then some (.str ⟨(Go.Lib.itoa n).toArray⟩) else none
  | _ => none
theorem itoaO_nat (f : FuncId) (n : Nat) (h : n < 10 ^ 18) : pureO f itoaG f [.int .i64 (n : Int)] = some (.str ⟨(digS n).toArray⟩, [.dead]) := by
  have h1 : (n : Int) ≤ 9223372036854775807 := by omega
  have h2 := digS_len 17 n (by omega)
  simp [pureO, itoaG, itoa_nat, scalar, svOk, h1]
  omega
end M
