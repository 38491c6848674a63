/- A machine of values for loaded Go functions, sound for the calculus of calls; part 1; no conditions. -/
import Derived.Calls
import Derived.Orders
import Derived.Laws.Sem
import Derived.Below
import Derived.Laws.Cells
import Derived.Laws.Strings
import Derived.Laws.StructEq
set_option linter.unusedSectionVars false
set_option linter.unusedVariables false
namespace M
open Go

/-- Who owns a row: this call alone; nobody, it never changes again; somebody else, who leaves it alone as long as we run. -/
inductive Md where | own | sl | bor
  deriving DecidableEq, Repr

abbrev Path := List (Nat × Nat)

/-- What a slot or a cell of memory holds. -/
inductive X where
  | dead
  | int (k : IntKind) (n : Int)
  | bool (b : Bool)
  | str (s : ByteArray)
  | row (m : Md) (sz : Nat) (xs : List (List X))
  | ptr (m : Md) (cs : List X)
  | agg (cs : List X)
  | tup (cs : List X)
  | fn (f : FuncId) (caps : List X)
  | ref (s : Nat) (p : Path)
  | adr (s : Nat) (p : Path) (i c : Nat)
  | cut (s : Nat) (p : Path) (lo hi : Nat)

namespace X
def step : X → Nat × Nat → Option X
  | .row _ _ xs, q => (xs[q.1]?).bind (·[q.2]?)
  | .ptr _ cs, q => bif q.1 == 0 then cs[q.2]? else none
  | .agg cs, q => bif q.1 == 0 then cs[q.2]? else none
  | .tup cs, q => bif q.1 == 0 then cs[q.2]? else none
  | _, _ => none
def sub (x : X) : Path → Option X
  | [] => some x
  | q :: p => (x.step q).bind (·.sub p)
def put1 : X → Nat × Nat → X → X
  | .row m sz xs, q, y => .row m sz (xs.modify q.1 (·.set q.2 y))
  | .ptr m cs, q, y => .ptr m (cs.set q.2 y)
  | .agg cs, q, y => .agg (cs.set q.2 y)
  | .tup cs, q, y => .tup (cs.set q.2 y)
  | x, _, _ => x
def putAt : Path → X → X → X
  | [], _, y => y
  | q :: p, x, y => match x.step q with
    | some z => x.put1 q (putAt p z y)
    | none => x

mutual
def md (m : Md) : X → X
  | .row _ sz xs => .row m sz (mdLL m xs)
  | .ptr _ cs => .ptr m (mdL m cs)
  | .agg cs => .agg (mdL m cs)
  | .tup cs => .tup (mdL m cs)
  | .fn f cs => .fn f (mdL m cs)
  | .ref _ _ => .dead
  | .adr _ _ _ _ => .dead
  | .cut _ _ _ _ => .dead
  | .dead => .dead
  | .int k n => .int k n
  | .bool b => .bool b
  | .str s => .str s
def mdL (m : Md) : List X → List X
  | [] => []
  | x :: l => x.md m :: mdL m l
def mdLL (m : Md) : List (List X) → List (List X)
  | [] => []
  | x :: l => mdL m x :: mdLL m l
end

/-- Is it something that others may point into? -/
def rooted : X → Bool
  | .row _ _ _ => true
  | .ptr _ _ => true
  | .agg _ => true
  | .tup _ => true
  | _ => false
def pfx : Path → Path → Bool
  | [], _ => true
  | _ :: _, [] => false
  | q :: p, r :: t => q.1 == r.1 && q.2 == r.2 && pfx p t
mutual
def kill (r : Nat) (p : Path) : X → X
  | .ref s q => bif s == r && pfx p q then .dead else .ref s q
  | .adr s q i c => bif s == r && pfx p q then .dead else .adr s q i c
  | .cut s q i c => bif s == r && pfx p q then .dead else .cut s q i c
  | .ptr m cs => .ptr m (killL r p cs)
  | .agg cs => .agg (killL r p cs)
  | .tup cs => .tup (killL r p cs)
  | .fn f cs => .fn f (killL r p cs)
  | .dead => .dead
  | .int k n => .int k n
  | .bool b => .bool b
  | .str s => .str s
  | .row m sz xs => .row m sz xs
def killL (r : Nat) (p : Path) : List X → List X
  | [] => []
  | x :: l => x.kill r p :: killL r p l
end
theorem killL_length (r : Nat) (p : Path) : ∀ l : List X, (killL r p l).length = l.length
  | [] => rfl
  | x :: l => by simp only [killL, List.length_cons, killL_length r p l]
mutual
/-- What points to other slots than these is dead. -/
def only (ks : List Nat) : X → X
  | .ref s q => bif ks.contains s then .ref s q else .dead
  | .adr s q i c => bif ks.contains s then .adr s q i c else .dead
  | .cut s q i c => bif ks.contains s then .cut s q i c else .dead
  | .ptr m cs => .ptr m (onlyL ks cs)
  | .agg cs => .agg (onlyL ks cs)
  | .tup cs => .tup (onlyL ks cs)
  | .fn f cs => .fn f (onlyL ks cs)
  | .dead => .dead
  | .int k n => .int k n
  | .bool b => .bool b
  | .str s => .str s
  | .row m sz xs => .row m sz xs
def onlyL (ks : List Nat) : List X → List X
  | [] => []
  | x :: l => x.only ks :: onlyL ks l
end
end X

abbrev Slots := List (Nat × X)
def get : Slots → Nat → X
  | [], _ => .dead
  | (k', v) :: s, k => bif k' == k then v else get s k
def killS (r : Nat) (p : Path) : Slots → Slots
  | [] => []
  | (k, v) :: s => (k, v.kill r p) :: killS r p s
def put (d : Nat) (v : X) (s : Slots) : Slots := bif (get s d).rooted then (d, v.kill d []) :: killS d [] s else (d, v) :: s
def putD : Option Nat → X → Slots → Slots
  | some d, v, s => put d v s
  | none, _, s => s

inductive AV where
  | t (n : Nat)
  | k (x : X)

/-- Nothing in it is borrowed, and it points to no slot. -/
def X.clean : X → Bool
  | .ref _ _ => false
  | .adr _ _ _ _ => false
  | .cut _ _ _ _ => false
  | .row m _ xs => (match m with | .bor => false | _ => true) && cleanLL xs
  | .ptr m cs => (match m with | .bor => false | _ => true) && cleanL cs
  | .agg cs => cleanL cs
  | .tup cs => cleanL cs
  | .fn _ cs => cleanL cs
  | _ => true
where
  cleanL : List X → Bool
  | [] => true
  | x :: l => X.clean x && cleanL l
  cleanLL : List (List X) → Bool
  | [] => true
  | x :: l => cleanL x && cleanLL l
/-- A value seen from elsewhere. -/
def alias1 (n : Nat) (p : Path) : X → X
  | .row .own _ _ => .ref n p
  | .ptr .own _ => .adr n p 0 0
  | x => x
/-- The cells of a struct, from cell c of element i on. -/
def aliasL (n : Nat) (p : Path) (i : Nat) : Nat → List X → List X
  | _, [] => []
  | c, x :: l => alias1 n (p ++ [(i, c)]) x :: aliasL n p i (c + 1) l
def alias2 (n : Nat) (p : Path) : X → X
  | .agg cs => .agg (aliasL n p 0 0 cs)
  | x => alias1 n p x
def aliasT (n : Nat) (p : Path) : Nat → List X → List X
  | _, [] => []
  | j, x :: l => alias2 n (p ++ [(0, j)]) x :: aliasT n p (j + 1) l
def alias (n : Nat) (p : Path) : X → X
  | .tup cs => .tup (aliasT n p 0 cs)
  | x => alias2 n p x
def opv (s : Slots) : AV → X
  | .t n => alias n [] (get s n)
  | .k x => x

def look (s : Slots) (r : Nat) (p : Path) : Option X := (get s r).sub p
/-- Other content at a place; what pointed below it is dead. -/
def setLoc (r : Nat) (p : Path) (y : X) (s : Slots) : Slots := (r, X.putAt p (get (killS r p s) r) (y.kill r p)) :: killS r p s
/-- Other content at a place that nobody points into. -/
def setVal (r : Nat) (p : Path) (y : X) (s : Slots) : Slots := (r, X.putAt p (get s r) y) :: s

/-- How a value that is owned is handed on: moved, seen from there, or as the place is: a variable's moved, a field's seen. -/
inductive Tk where | mv | al | as_
/-- Moved out of its place. -/
def move (r : Nat) (p : Path) (s : Slots) : X × Slots := match look s r p with
  | some y => (y.kill r p, setLoc r p .dead s)
  | none => (.dead, s)
/-- A part of a row, the whole row moved out of its place. -/
def moveC (r : Nat) (p : Path) (lo hi : Nat) (s : Slots) : X × Slots := match look s r p with
  | some (.row .own z xs) => (.row .own z ((xs.take hi).drop lo), setLoc r p .dead s)
  | _ => (.cut r p lo hi, s)
/-- A pointer to the beginning of a block that lies in its own place: the block is handed on. -/
def movP (r : Nat) (p : Path) (i c : Nat) (s : Slots) : X × Slots := match look s r p with
  | some (.ptr .own cs) => bif i == 0 && c == 0 then (.ptr .own (X.killL r p cs), setLoc r p .dead s) else (.adr r p i c, s)
  | _ => (.adr r p i c, s)
def take1 (h : Tk) : X → Slots → X × Slots
  | .ref r p, s => match h with
    | .al => (.ref r p, s)
    | .as_ => match p with
      | [] => move r [] s
      | q :: t => (.ref r (q :: t), s)
    | .mv => move r p s
  | .cut r p lo hi, s => match h with
    | .al => (.cut r p lo hi, s)
    | .as_ => match p with
      | [] => moveC r [] lo hi s
      | q :: t => (.cut r (q :: t) lo hi, s)
    | .mv => moveC r p lo hi s
  | .adr r p i c, s => match h with
    | .al => (.adr r p i c, s)
    | .as_ => (.adr r p i c, s)
    | .mv => movP r p i c s
  | x, s => (x, s)
def takeL : List X → Slots → List X × Slots
  | [], s => ([], s)
  | x :: l, s => match x with
    | .ref r p => ((move r p s).1 :: (takeL l (move r p s).2).1, (takeL l (move r p s).2).2)
    | .adr _ _ _ _ => (.dead :: (takeL l s).1, (takeL l s).2)
    | .cut _ _ _ _ => (.dead :: (takeL l s).1, (takeL l s).2)
    | .fn _ _ => (.dead :: (takeL l s).1, (takeL l s).2)
    | .ptr _ _ => (.dead :: (takeL l s).1, (takeL l s).2)
    | .agg _ => (.dead :: (takeL l s).1, (takeL l s).2)
    | .tup _ => (.dead :: (takeL l s).1, (takeL l s).2)
    | y => (y :: (takeL l s).1, (takeL l s).2)
def take (h : Tk) : X → Slots → X × Slots
  | .agg cs, s => match h with
    | .mv => (.agg (takeL cs s).1, (takeL cs s).2)
    | _ => (.agg cs, s)
  | x, s => take1 h x s

/-- May something plain be put there, where nothing is? -/
def giveOk (s : Slots) (r : Nat) (p : Path) : Bool := match look s r p with
  | some .dead => (match p.getLast? with
    | some _ => (match look s r p.dropLast with
      | some (.row .own _ _) => true
      | some (.ptr .own _) => true
      | some (.agg _) => true
      | some (.tup _) => true
      | _ => false)
    | none => false)
  | _ => false
def otherR (r : Nat) (p : Path) : List X → Bool
  | [] => true
  | .ref r' p' :: l => !(r' == r && X.pfx p p') && otherR r p l
  | _ :: l => otherR r p l
/-- What was taken out of the places that these cells point to is put back. -/
def backL : List X → List X → Slots → Option Slots
  | [], _, s => some s
  | x :: l, ys, s => match x, ys with
    | .ref r p, y :: ys => bif giveOk s r p && otherR r p l then backL l ys ((r, X.putAt p (get s r) y) :: s) else none
    | _, _ :: ys => backL l ys s
    | _, [] => none
def cellsOf : X → List X
  | .agg cs => cs
  | .tup _ => []
  | .dead => []
  | x => [x]
def mkv (agg : Bool) (cs : List X) : Option X :=
  bif agg then some (.agg cs) else cs.head?

/-- A parameter: borrowed; a borrowed pointer (how many cells); moved; written through (a pointer's cells: how many; 0 of a slice). -/
inductive PM where | bor | bptr (n : Nat) | mv | mut (n : Nat)

def scalar : X → Bool
  | .int _ _ => true
  | .bool _ => true
  | .str _ => true
  | _ => false

/-- The cells from an address on. -/
def cellsAt (s : Slots) : X → Option (List X)
  | .ptr _ cs => some cs
  | .adr r p i c => match look s r p with
    | some (.row _ _ xs) => (xs[i]?).map fun e => aliasL r p i c (e.drop c)
    | some (.ptr _ cs) => some (aliasL r p i c (cs.drop c))
    | _ => none
  | _ => none
/-- A slice's elements, as they are, and how many cells each has. -/
def rowAt (s : Slots) : X → Option (Nat × List (List X))
  | .row _ z xs => some (z, xs)
  | .ref r p => match look s r p with
    | some (.row _ z xs) => some (z, xs)
    | _ => none
  | .cut r p lo hi => match look s r p with
    | some (.row _ z xs) => some (z, (xs.take hi).drop lo)
    | _ => none
  | _ => none

/-- A borrowed view of a value. -/
def res1 (s : Slots) : X → X
  | .ref r p => match look s r p with
    | some y => y.md .bor
    | none => .dead
  | .cut r p lo hi => match look s r p with
    | some (.row _ sz xs) => X.md .bor (.row .bor sz ((xs.take hi).drop lo))
    | _ => .dead
  | x => x.md .bor
def resL (s : Slots) : List X → List X
  | [] => []
  | x :: l => res1 s x :: resL s l
/-- A borrowed pointer. -/
def resP (n : Nat) (s : Slots) (x : X) : X := match cellsAt s x with
  | some (c :: cs) => .ptr .bor (resL s ((c :: cs).take n))
  | _ => .dead
/-- What a function value has captured: pointers to variables, told through. -/
def resA (s : Slots) : X → X
  | .adr r p i c => (match cellsAt s (.adr r p i c) with | some (c :: cs) => X.ptr .bor (resL s (c :: cs)) | _ => .dead)
  | x => res1 s x
def resAL (s : Slots) : List X → List X
  | [] => []
  | x :: l => resA s x :: resAL s l
def resF (s : Slots) : List X → List X
  | [] => []
  | x :: l => (match x with
    | .adr r p i c => (match cellsAt s (.adr r p i c) with | some (c :: cs) => X.ptr .bor (resAL s (c :: cs)) | _ => .dead)
    | x => res1 s x) :: resF s l
def res (s : Slots) : X → X
  | .agg cs => .agg (resL s cs)
  | .fn f cs => .fn f (resF s cs)
  | x => res1 s x

/-- May something point into the cell at (r, p), element i, cell c? -/
def oldRooted (r : Nat) (p : Path) (i c : Nat) (s : Slots) : Bool := match look s r (p ++ [(i, c)]) with
  | some z => z.rooted
  | none => true
/-- That cell, written. -/
def setCell (r : Nat) (p : Path) (i c : Nat) (y : X) (s : Slots) : Slots :=
  bif oldRooted r p i c s then setLoc r (p ++ [(i, c)]) y s else setVal r (p ++ [(i, c)]) y s
def setCells (r : Nat) (p : Path) (i : Nat) : Nat → List X → Slots → Slots
  | _, [], s => s
  | c, y :: l, s => bif oldRooted r p i c s then setCells r p i (c + 1) (X.killL r (p ++ [(i, c)]) l) (setCell r p i c y s) else setCells r p i (c + 1) l (setCell r p i c y s)
termination_by _ l => l.length
decreasing_by all_goals simp [X.killL_length]

/-- What slot d points to is moved out of its place into it; or: frozen, and left there as well. -/
def frz (d : Nat) (cs : List X) (k : List X → X) (s : Slots) : Option Slots :=
  bif X.clean.cleanL (takeL cs s).1 then (backL cs (X.mdL .sl (takeL cs s).1) (takeL cs s).2).map (put d (k (X.mdL .sl (takeL cs s).1))) else none
def ghost (fz : Bool) (d : Nat) (s : Slots) : Option Slots :=
  bif fz then (match opv s (.t d) with
    | .agg cs => frz d cs .agg s
    | .ref r p => frz d [.ref r p] (·.headD .dead) s
    | _ => some s)
  else some (put d (take .mv (opv s (.t d)) s).1 (take .mv (opv s (.t d)) s).2)
inductive Ex where | normal | exit (id : Nat) | ret

inductive AOp where
  | mv (d : Nat) (x : AV)
  | asg (d : Nat) (h : Tk) (x : AV)
  | pick (d : Nat) (c a b : AV)
  | un (d : Nat) (op : UnOp) (x : AV)
  | bin (d : Nat) (op : BinOp) (x y : AV)
  | beq (d : Nat) (neg : Bool) (x y : AV)
  | aeq (d : Nat) (neg : Bool) (ks : List Nat) (x y : AV)
  | nilq (d : Nat) (neg : Bool) (x : AV)
  | conv (d : Nat) (k : IntKind) (x : AV)
  | bytes (d : Nat) (x : AV)
  | text (d : Nat) (x : AV)
  | box (d : Nat) (h : Tk) (x : AV)
  | new (d : Nat) (zero : List X)
  | build (d : Nat) (h : Tk) (zero : List X) (parts : List ((Nat × Nat) × AV))
  | lit (d : Nat) (h : Tk) (sz : Nat) (parts : List AV)
  | make (d : Nat) (sz bytes : Nat) (zero : List X) (n : AV)
  | load (d : Nat) (sz : Nat) (agg : Bool) (a : AV)
  | store (sz : Nat) (h : Tk) (a x : AV)
  | chk (d : Nat) (x : AV)
  | fadr (d : Nat) (x : AV) (off : Nat)
  | fld (d : Nat) (x : AV) (off sz : Nat) (agg : Bool)
  | iadr (d : Nat) (sz : Nat) (x i : AV)
  | sidx (d : Nat) (x i : AV)
  | aidx (d : Nat) (n sz : Nat) (agg : Bool) (x i : AV)
  | ext (d : Nat) (x : AV) (i : Nat)
  | sslice (d : Nat) (x : AV) (lo hi : Option AV)
  | rslice (d : Nat) (sz : Nat) (x : AV) (lo hi : Option AV)
  | mkfn (d : Nat) (f : FuncId) (caps : List AV)
  | len (d : Nat) (x : AV)
  | slen (d : Nat) (x : AV)
  | app (d : Nat) (h : Tk) (sz bytes : Nat) (x y : AV)
  | mn (d : Nat) (xs : List AV)
  | mx (d : Nat) (xs : List AV)
  | callA (d : Option Nat) (f : FuncId) (x : AV) (as : List (AV × PM))
  | clr (sz : Nat) (z : List X) (x : AV)
  | lmv (d : Nat) (fz : Bool) (sz : Nat) (agg : Bool) (a : AV)
  | call (d : Option Nat) (f : FuncId) (as : List (AV × PM))
  | callv (d : Option Nat) (f : AV) (as : List (AV × PM))

/-- An operation, and the slot and the answer that it hangs on. -/
structure G where
  g : Option (Nat × Bool) := none
  o : AOp

/-- A region of no fixed order: what is done next (its number among the operations), or one of several. -/
inductive DT where
  | nil (ks : List Nat)
  | step (i : Nat) (g : G) (t : DT)
  | alt (a b : DT)
  | kp (ks : List Nat) (t : DT)
inductive A where
  | skip | ret
  | ops (l : List G)
  | draw (t : DT)
  | seq (a b : A)
  | cond (c : AV) (a b : A)
  | block (id : Nat) (b : A)
  | loop (b : A)
  | exit (id : Nat)
  | pk (ks : List Nat) (b : A)
end M
set_option linter.unusedVariables false
set_option linter.unusedSimpArgs false
namespace M
open Go Go.RowKit

/-- Where a row lies. -/
abbrev Ad := Nat × Nat × Option Nat
/-- Further on. -/
def adv (n : Nat) (q : Ad) : Ad := if n = 0 then q else (q.1, q.2.1 + n, none)
theorem adv_none (n g o : Nat) : adv n (g, o, none) = (g, o + n, none) := by
  unfold adv
  split
  · rename_i h; subst h; rfl
  · rfl
theorem adv_adr (n : Nat) (q : Ad) : (⟨(adv n q).1, (adv n q).2.1, (adv n q).2.2⟩ : Addr) = (⟨q.1, q.2.1, q.2.2⟩ : Addr).add n := by
  unfold adv Addr.add
  split <;> rfl
theorem adv_fst (n : Nat) (q : Ad) : (adv n q).1 = q.1 := by
  unfold adv
  split <;> rfl
/-- What a slot or a cell holds, with the places where it lies. -/
inductive C where
  | dead (v : Value)
  | int (k : IntKind) (n : Int)
  | bool (b : Bool)
  | str (s : ByteArray)
  | row (m : Md) (sz : Nat) (A : Option Ad) (len cap : Nat) (e : Nat → Nat → C)
  | ptr (m : Md) (g o n : Nat) (c : Nat → C)
  | agg (n : Nat) (c : Nat → C)
  | tup (n : Nat) (c : Nat → C)
  | fn (f : FuncId) (n : Nat) (c : Nat → C)
  | ref (v : Value) (s : Nat) (p : Path)
  | adr (v : Value) (s : Nat) (p : Path) (i c : Nat)
  | cut (v : Value) (s : Nat) (p : Path) (lo hi : Nat)

namespace C
def val : C → Value
  | .dead v => v
  | .int k n => .int k n
  | .bool b => .bool b
  | .str s => .string s
  | .row _ _ A len cap _ => .slice (A.map fun q => ⟨q.1, q.2.1, q.2.2⟩) len cap
  | .ptr _ g o _ _ => .pointer (some ⟨g, o, none⟩)
  | .agg n c => .agg ((List.range n).map fun j => (c j).val).toArray
  | .tup n c => .tuple ((List.range n).map fun j => (c j).val).toArray
  | .fn f n c => .func (.func f) #[] ((List.range n).map fun j => (c j).val).toArray
  | .ref v _ _ => v
  | .adr v _ _ _ _ => v
  | .cut v _ _ _ _ => v
def er : C → X
  | .dead _ => .dead
  | .int k n => .int k n
  | .bool b => .bool b
  | .str s => .str s
  | .row m sz _ len _ e => .row m sz ((List.range len).map fun i => (List.range sz).map fun j => (e i j).er)
  | .ptr m _ _ n c => .ptr m ((List.range n).map fun j => (c j).er)
  | .agg n c => .agg ((List.range n).map fun j => (c j).er)
  | .tup n c => .tup ((List.range n).map fun j => (c j).er)
  | .fn f n c => .fn f ((List.range n).map fun j => (c j).er)
  | .ref _ s p => .ref s p
  | .adr _ s p i c => .adr s p i c
  | .cut _ s p lo hi => .cut s p lo hi
/-- The cells of memory that are owned. -/
def fp : C → Nat → Nat → Prop
  | .row m sz A len _ e => fun b k => m = .own ∧ ((∃ o, A = some (b, o, none)) ∨ ∃ i j, i < len ∧ j < sz ∧ (e i j).fp b k)
  | .ptr m g o n c => fun b k => m = .own ∧ ((b = g ∧ o ≤ k ∧ k < o + n) ∨ ∃ j, j < n ∧ (c j).fp b k)
  | .agg n c => fun b k => ∃ j, j < n ∧ (c j).fp b k
  | .tup n c => fun b k => ∃ j, j < n ∧ (c j).fp b k
  | _ => fun _ _ => False
/-- One cell's value. -/
def cell : C → Prop
  | .agg _ _ => False
  | .tup _ _ => False
  | .dead v => v.oneCell' = true
  | .ref v _ _ => v.oneCell' = true
  | .adr v _ _ _ _ => v.oneCell' = true
  | .cut v _ _ _ _ => v.oneCell' = true
  | _ => True
/-- No several values at once. -/
def notup : C → Prop
  | .tup _ _ => False
  | _ => True
/-- It may lie in a row. -/
def solid : C → Prop
  | .agg _ _ => False
  | .tup _ _ => False
  | .ref _ _ _ => False
  | .adr _ _ _ _ _ => False
  | .cut _ _ _ _ _ => False
  | .fn _ _ _ => False
  | .ptr _ _ _ _ _ => False
  | _ => True
/-- What is in a row that never changes doesn't change either. -/
def fits (m : Md) : C → Prop
  | .row m' _ _ _ _ _ => m = .own ∨ m' = m ∨ (m = .bor ∧ m' = .sl)
  | .ptr m' _ _ _ _ => m = .own ∨ m' = m ∨ (m = .bor ∧ m' = .sl)
  | _ => True
end C
/-- The cells that don't change: for ever, or as long as we run. -/
def Zf (zl zb : Nat → Nat → Prop) : Md → Nat → Nat → Prop
  | .own => fun _ _ => False
  | .sl => zl
  | .bor => fun b k => zl b k ∨ zb b k
namespace C
def ok (w : World) (Z : Md → Nat → Nat → Prop) : C → Prop
  | .row m sz A len cap e =>
    len ≤ cap ∧
    (∀ i j, i < len → j < sz → ∃ g o, A = some (g, o, none) ∧ w.cell? ⟨g, o + i * sz + j, none⟩ = some (e i j).val ∧ (m ≠ .own → Z m g (o + i * sz + j))) ∧
    (∀ i j, i < len → j < sz → (e i j).cell ∧ (e i j).solid ∧ (e i j).fits m ∧ (e i j).ok w Z) ∧
    (m = .own → (A = none ∧ cap = 0) ∨ ∃ g o arr t fz, A = some (g, o, none) ∧ w.heap[g]? = some (.cells arr t fz) ∧ o + cap * sz ≤ arr.size ∧ ∀ k, o ≤ k → k < o + cap * sz → w.frozen? ⟨g, k, none⟩ = false) ∧
    (∀ i j, i < len → j < sz → ∀ b k, (e i j).fp b k → (m = .own → ∀ o, A ≠ some (b, o, none)) ∧ ∀ i' j', i' < len → j' < sz → (i, j) ≠ (i', j') → ¬ (e i' j').fp b k)
  | .ptr m g o n c =>
    (∀ j, j < n → w.cell? ⟨g, o + j, none⟩ = some (c j).val ∧ (m ≠ .own → Z m g (o + j)) ∧ (m = .own → w.frozen? ⟨g, o + j, none⟩ = false)) ∧
    g < w.heap.size ∧
    (∀ j, j < n → (c j).cell ∧ (c j).fits m ∧ (c j).ok w Z) ∧
    (∀ j, j < n → ∀ b k, (c j).fp b k → (m = .own → ¬ (b = g ∧ o ≤ k ∧ k < o + n)) ∧ ∀ j', j' < n → j ≠ j' → ¬ (c j').fp b k)
  | .agg n c => (∀ j, j < n → (c j).cell ∧ (c j).ok w Z) ∧ (∀ j, j < n → ∀ b k, (c j).fp b k → ∀ j', j' < n → j ≠ j' → ¬ (c j').fp b k)
  | .tup n c => (∀ j, j < n → (c j).notup ∧ (c j).ok w Z) ∧ (∀ j, j < n → ∀ b k, (c j).fp b k → ∀ j', j' < n → j ≠ j' → ¬ (c j').fp b k)
  | .fn _ n c => ∀ j, j < n → (c j).ok w Z ∧ ∀ b k, ¬ (c j).fp b k
  | .str s => s.size ≤ 9223372036854775807
  | _ => True
end C

/-- The world in which all began: what lay there stays. -/
class Bs where
  W0 : World
/-- What lay there stays, and is frozen. -/
def Glob [B : Bs] (w : World) (zl zb : Nat → Nat → Prop) : Prop := ∀ b, b < B.W0.heap.size → w.heap[b]? = B.W0.heap[b]? ∧ ∀ k, zl b k ∨ zb b k
/-- The old world, but for what is in S, and for what is new. -/
structure Ext (S : Nat → Nat → Prop) (w w' : World) : Prop where
  os : w'.os = w.os
  tape : w'.tape = w.tape
  output : w'.output = w.output
  size : w.heap.size ≤ w'.heap.size
  block : ∀ b, b < w.heap.size → w'.heap[b]? = w.heap[b]? ∨ ∃ arr arr' t fz, w.heap[b]? = some (.cells arr t fz) ∧ w'.heap[b]? = some (.cells arr' t fz) ∧ arr'.size = arr.size ∧ ∀ k, ¬ S b k → arr'[k]? = arr[k]?

namespace Ext
variable {S S' : Nat → Nat → Prop} {w w1 w2 : World}
theorem refl (S : Nat → Nat → Prop) (w : World) : Ext S w w := ⟨rfl, rfl, rfl, Nat.le_refl _, fun _ _ => .inl rfl⟩
theorem trans (h : Ext S w w1) (h' : Ext S' w1 w2) (hs : ∀ b k, S' b k → b < w.heap.size → S b k) : Ext S w w2 := by
  refine ⟨h'.os.trans h.os, h'.tape.trans h.tape, h'.output.trans h.output, Nat.le_trans h.size h'.size, fun b hb => ?_⟩
  rcases h.block b hb with e | ⟨arr, arr', t, fz, e1, e2, e3, e4⟩
  · rcases h'.block b (Nat.lt_of_lt_of_le hb h.size) with e' | ⟨a1, a2, t', fz', f1, f2, f3, f4⟩
    · exact .inl (e'.trans e)
    · exact .inr ⟨a1, a2, t', fz', e ▸ f1, f2, f3, fun k hk => f4 k fun hS => hk (hs b k hS hb)⟩
  · rcases h'.block b (Nat.lt_of_lt_of_le hb h.size) with e' | ⟨a1, a2, t', fz', f1, f2, f3, f4⟩
    · exact .inr ⟨arr, arr', t, fz, e1, e'.trans e2, e3, e4⟩
    · rw [e2] at f1
      injection f1 with f1
      injection f1 with g1 g2 g3
      subst g1; subst g2; subst g3
      exact .inr ⟨arr, a2, t, fz, e1, f2, f3.trans e3, fun k hk => (f4 k fun hS => hk (hs b k hS hb)).trans (e4 k hk)⟩
theorem mono (h : Ext S w w1) (hs : ∀ b k, S b k → b < w.heap.size → S' b k) : Ext S' w w1 := by
  refine ⟨h.os, h.tape, h.output, h.size, fun b hb => ?_⟩
  rcases h.block b hb with e | ⟨arr, arr', t, fz, e1, e2, e3, e4⟩
  · exact .inl e
  · exact .inr ⟨arr, arr', t, fz, e1, e2, e3, fun k hk => e4 k fun hS => hk (hs b k hS hb)⟩
theorem cell (h : Ext S w w1) {b k : Nat} (hS : ¬ S b k) {v : Value} (hc : w.cell? ⟨b, k, none⟩ = some v) : w1.cell? ⟨b, k, none⟩ = some v := by
  have hb : b < w.heap.size := by
    rcases Nat.lt_or_ge b w.heap.size with h | h
    · exact h
    · simp [World.cell?, Array.getElem?_eq_none h] at hc
  rcases h.block b hb with e | ⟨arr, arr', t, fz, e1, e2, e3, e4⟩
  · simpa [World.cell?, e] using hc
  · simp only [World.cell?, e1, e2] at hc ⊢
    simpa [e4 k hS] using hc
theorem frozen (h : Ext S w w1) {b k : Nat} (hb : b < w.heap.size) : w1.frozen? ⟨b, k, none⟩ = w.frozen? ⟨b, k, none⟩ := by
  rcases h.block b hb with e | ⟨arr, arr', t, fz, e1, e2, e3, e4⟩
  · simp [World.frozen?, e]
  · simp [World.frozen?, e1, e2]
theorem below (h : Ext (fun _ _ => False) w w1) : Below w.heap.size w w1 := by
  refine ⟨h.os, h.tape, h.output, h.size, fun b hb => ?_⟩
  rcases h.block b hb with e | ⟨arr, arr', t, fz, e1, e2, e3, e4⟩
  · exact e
  · have : arr' = arr := by
      apply Array.ext_getElem?
      intro i
      exact e4 i (by simp)
    rw [e1, e2, this]
theorem drew (w : World) (S : Nat → Nat → Prop) : Ext S w w.drew := ⟨rfl, rfl, rfl, Nat.le_refl _, fun _ _ => .inl rfl⟩
theorem alloc (w : World) (S : Nat → Nat → Prop) (o : Obj) : Ext S w (w.alloc o) := by
  exact ⟨rfl, rfl, rfl, by show w.heap.size ≤ (w.heap.push o).size; simp, fun b hb => .inl (Below.heap_alloc w o b hb)⟩
end Ext
end M
set_option linter.unusedVariables false
namespace M
open Go

namespace C
/-- Nothing in it points to a slot. -/
def bare : C → Prop
  | .ref _ _ _ => False
  | .adr _ _ _ _ _ => False
  | .cut _ _ _ _ _ => False
  | .ptr _ _ _ n c => ∀ j, j < n → (c j).bare
  | .agg n c => ∀ j, j < n → (c j).bare
  | .tup n c => ∀ j, j < n → (c j).bare
  | .fn _ n c => ∀ j, j < n → (c j).bare
  | _ => True
end C
/-- Values handed over: each is what it is said to be, and no two own the same. -/
structure ArgsOk (w : World) (zl zb : Nat → Nat → Prop) (cs : List C) : Prop where
  ok : ∀ x ∈ cs, x.ok w (Zf zl zb)
  bare : ∀ x ∈ cs, x.bare
  fz : ∀ x ∈ cs, ∀ b k, x.fp b k → ¬ zl b k ∧ ¬ zb b k
  zin : ∀ b k, zl b k ∨ zb b k → b < w.heap.size
  apart : cs.Pairwise fun a b => ∀ x k, a.fp x k → ¬ b.fp x k
/-- What a call comes to. -/
structure Done (w : World) (zl : Nat → Nat → Prop) (cs : List C) (e : Ending) (w' : World) (r : C) (ps : List C) (zl' : Nat → Nat → Prop) : Prop where
  ends : e = .returned r.val
  vals : ps.map C.val = cs.map C.val
  ext : Ext (fun b k => ∃ x ∈ cs, x.fp b k) w w'
  all : ArgsOk w' zl' (fun _ _ => False) (r :: ps)
  dom : ∀ x ∈ r :: ps, ∀ b k, x.fp b k → (∃ y ∈ cs, y.fp b k) ∨ w.heap.size ≤ b
  zl1 : ∀ b k, zl b k → zl' b k
  zl2 : ∀ b k, zl' b k → zl b k ∨ (∃ y ∈ cs, y.fp b k) ∨ w.heap.size ≤ b
/-- A function, called with such values, comes to a result, and its parameters to what Q says. -/
def AC [Bs] (P : Program) (f : FuncId) (xs : List X) (Q : X → List X → Prop) : Prop :=
  ∀ w zl zb cs, cs.map C.er = xs → ArgsOk w zl zb cs → Glob w zl zb → Calls P f (cs.map C.val).toArray w fun e w' => ∃ r ps zl', Done w zl cs e w' r ps zl' ∧ Q r.er (ps.map C.er)

/-- Structs compared; of each cell it is told what it is: 0 a number, 1 a Bool, 2 a string. -/
def eqCells : List Nat → List X → List X → Option Bool
  | [], [], [] => some true
  | 0 :: ks, .int k a :: l, .int k' b :: r => if k = k' then (eqCells ks l r).map fun t => (a == b) && t else none
  | 1 :: ks, .bool a :: l, .bool b :: r => (eqCells ks l r).map fun t => (a == b) && t
  | 2 :: ks, .str a :: l, .str b :: r => (eqCells ks l r).map fun t => decide (a = b) && t
  | _, _, _ => none

def binOk (op : BinOp) : X → X → Prop
  | .int k a, .int k' b => match op with
    | .shl => 0 ≤ b
    | .shr => 0 ≤ b
    | .quo => k = k' ∧ b ≠ 0
    | .rem => k = k' ∧ b ≠ 0
    | .andNot => False
    | _ => k = k'
  | .str a, .str b => match op with
    | .add => a.size + b.size ≤ 9223372036854775807
    | .eql => True
    | .neq => True
    | _ => False
  | _, _ => False
def binX (op : BinOp) : X → X → X
  | .int k a, .int _ b => match op with
    | .add => .int k (k.wrap (a + b))
    | .sub => .int k (k.wrap (a - b))
    | .mul => .int k (k.wrap (a * b))
    | .quo => .int k (k.wrap (a.tdiv b))
    | .rem => .int k (a.tmod b)
    | .shl => .int k (k.wrap (a * 2 ^ (min b.toNat k.bits)))
    | .shr => .int k (a.fdiv (2 ^ (min b.toNat k.bits)))
    | .and => .int k (k.wrap (BitVec.ofInt k.bits a &&& BitVec.ofInt k.bits b).toNat)
    | .or => .int k (k.wrap (BitVec.ofInt k.bits a ||| BitVec.ofInt k.bits b).toNat)
    | .xor => .int k (k.wrap (BitVec.ofInt k.bits a ^^^ BitVec.ofInt k.bits b).toNat)
    | .eql => .bool (decide (a = b))
    | .neq => .bool (!decide (a = b))
    | .lss => .bool (decide (a < b))
    | .leq => .bool (decide (a ≤ b))
    | .gtr => .bool (decide (b < a))
    | .geq => .bool (decide (b ≤ a))
    | _ => .dead
  | .str a, .str b => match op with
    | .add => .str (a ++ b)
    | .eql => .bool (decide (a = b))
    | .neq => .bool (!decide (a = b))
    | _ => .dead
  | _, _ => .dead
def unOk (op : UnOp) : X → Prop
  | .int _ _ => match op with
    | .neg => True
    | _ => False
  | .bool _ => match op with
    | .not => True
    | _ => False
  | _ => False
def unX (op : UnOp) : X → X
  | .int k n => .int k (k.wrap (0 - n))
  | .bool b => .bool (!b)
  | _ => .dead
def pickX (t : Bool) : X → X → X
  | .bool a, .bool b => .bool (bif t then a else b)
  | x, y => bif t then x else y

def solid : X → Bool
  | .dead => true
  | .int _ _ => true
  | .bool _ => true
  | .str _ => true
  | .row _ _ _ => true
  | _ => false
def solidL : List X → Bool
  | [] => true
  | x :: l => solid x && solidL l

/-- Values taken one behind the other. -/
def takes (h : Tk) : List AV → Slots → List X × Slots
  | [], s => ([], s)
  | a :: l, s => ((take h (opv s a) s).1 :: (takes h l (take h (opv s a) s).2).1, (takes h l (take h (opv s a) s).2).2)
def fillX {α : Type} : List α → Nat → List α → List α
  | cs, _, [] => cs
  | cs, o, y :: l => fillX (cs.set o y) (o + 1) l
/-- A struct's cells, its parts each at its place. -/
def fills : List X → List Nat → List X → List X
  | cs, o :: os, y :: ys => fills (fillX cs o (cellsOf y)) os ys
  | cs, _, _ => cs
def sizesOk : List Nat → List X → Prop
  | [], [] => True
  | n :: ns, y :: ys => (cellsOf y).length = n ∧ sizesOk ns ys
  | _, _ => False
/-- May these cells be written there? -/
def storable (s : Slots) (r : Nat) (p : Path) (i c : Nat) (l : List X) : Prop := match look s r p with
  | some (.row .own _ xs) => (match xs[i]? with
    | some e => c + l.length ≤ e.length ∧ solidL l = true
    | none => False)
  | some (.ptr .own cs) => c + l.length ≤ cs.length
  | _ => False
def solids : Tk → List X → Prop
  | .al, _ => True
  | _, l => ∀ x ∈ l, solidL (cellsOf x) = true
def asNat (s : Slots) : Option AV → Nat → Int
  | none, n => n
  | some a, _ => match opv s a with
    | .int _ i => i
    | _ => -1
def scalars : List (List X) → Prop := fun xs => ∀ e ∈ xs, ∀ c ∈ e, scalar c = true

/-- What is handed over whole: out of its place. -/
def movs : List (AV × PM) → Slots → List X × Slots
  | [], s => ([], s)
  | (x, .mv) :: l, s => ((take .mv (opv s x) s).1 :: (movs l (take .mv (opv s x) s).2).1, (movs l (take .mv (opv s x) s).2).2)
  | (_, .bor) :: l, s => (.dead :: (movs l s).1, (movs l s).2)
  | (_, .bptr _) :: l, s => (.dead :: (movs l s).1, (movs l s).2)
  | (_, .mut _) :: l, s => (.dead :: (movs l s).1, (movs l s).2)
/-- The arguments: s1 is what is left; ms what was moved; y what is written through. -/
def argsOf (s1 : Slots) (y : X) : List (AV × PM) → List X → List X
  | (x, .bor) :: l, _ :: ms => res s1 (opv s1 x) :: argsOf s1 y l ms
  | (x, .bptr n) :: l, _ :: ms => resP n s1 (opv s1 x) :: argsOf s1 y l ms
  | (_, .mv) :: l, m :: ms => m :: argsOf s1 y l ms
  | (_, .mut _) :: l, _ :: ms => y :: argsOf s1 y l ms
  | _, _ => []
/-- What is written through, and how many cells of it. -/
def mutOf : List (AV × PM) → Option (AV × Nat)
  | [] => none
  | (x, .mut n) :: _ => some (x, n)
  | (_, .mv) :: l => mutOf l
  | (_, .bor) :: l => mutOf l
  | (_, .bptr _) :: l => mutOf l
/-- And what it has become. -/
def mutPost : List (AV × PM) → List X → X
  | (_, .mut _) :: _, y :: _ => y
  | (_, .mv) :: l, _ :: r => mutPost l r
  | (_, .bor) :: l, _ :: r => mutPost l r
  | (_, .bptr _) :: l, _ :: r => mutPost l r
  | _, _ => .dead
/-- Strictly below a place. -/
def belowB (p q : Path) : Bool := X.pfx p q && decide (p.length < q.length)
mutual
def X.killB (r : Nat) (p : Path) : X → X
  | .ref s q => bif s == r && belowB p q then .dead else .ref s q
  | .adr s q i c => bif s == r && belowB p q then .dead else .adr s q i c
  | .cut s q i c => bif s == r && belowB p q then .dead else .cut s q i c
  | .ptr m cs => .ptr m (X.killBL r p cs)
  | .agg cs => .agg (X.killBL r p cs)
  | .tup cs => .tup (X.killBL r p cs)
  | .fn f cs => .fn f (X.killBL r p cs)
  | .dead => .dead
  | .int k n => .int k n
  | .bool b => .bool b
  | .str s => .str s
  | .row m sz xs => .row m sz xs
def X.killBL (r : Nat) (p : Path) : List X → List X
  | [] => []
  | x :: l => x.killB r p :: X.killBL r p l
end
def killBS (r : Nat) (p : Path) : Slots → Slots
  | [] => []
  | (k, v) :: s => (k, v.killB r p) :: killBS r p s
/-- What was written through is back in its place. -/
def setB (r : Nat) (p : Path) (y : X) (s : Slots) : Slots := (r, X.putAt p (get (killBS r p s) r) (y.killB r p)) :: killBS r p s
/-- What is written through: what lies at the place (r, p), seen as the parameter sees it, and how it is put back. -/
def mutCall (r : Nat) (p : Path) (s : Slots) (n : Nat) (x : X) (go : X → (X → (Slots → Prop) → Prop) → Prop) : Prop :=
  match x with
  | .ref _ _ => (match look s r p with
    | some (.row .own z xs) => go (.row .own z xs) fun y K => match y with
      | .row .own z' ys => z' = z ∧ K (setB r p (.row .own z ys) s)
      | _ => False
    | _ => False)
  | .adr _ _ i c => (match look s r p with
    | some (.ptr .own cs) => c + n ≤ cs.length ∧ go (.ptr .own ((cs.drop c).take n)) fun y K => match y with
      | .ptr .own ys => ys.length = n ∧ K (setB r p (.ptr .own (cs.take c ++ ys ++ cs.drop (c + n))) s)
      | _ => False
    | some (.row .own z xs) => (match xs[i]? with
      | some e => c + n ≤ e.length ∧ go (.ptr .own ((e.drop c).take n)) fun y K => match y with
        | .ptr .own ys => ys.length = n ∧ solidL ys = true ∧ K (setB r p (.row .own z (xs.set i (e.take c ++ ys ++ e.drop (c + n)))) s)
        | _ => False
      | none => False)
    | _ => False)
  | _ => False
def placeOf : X → Nat × Path
  | .ref r p => (r, p)
  | .adr r p _ _ => (r, p)
  | _ => (0, [])
def X.bare : X → Bool
  | .ref _ _ => false
  | .adr _ _ _ _ => false
  | .cut _ _ _ _ => false
  | .ptr _ cs => bareL cs
  | .agg cs => bareL cs
  | .tup cs => bareL cs
  | .fn _ cs => bareL cs
  | _ => true
where
  bareL : List X → Bool
  | [] => true
  | x :: l => X.bare x && bareL l
def capsOf (s1 : Slots) : Option AV → List X
  | none => []
  | some x => match opv s1 x with
    | .fn _ cs => resF s1 cs
    | _ => []
/-- The function value is still what it was. -/
def capsIs (s1 : Slots) (fv : Option AV) (f : FuncId) : Prop := match fv with
  | none => True
  | some x => match opv s1 x with
    | .fn g _ => g = f
    | _ => False
def callX [Bs] (P : Program) (f : FuncId) (d : Option Nat) (as : List (AV × PM)) (fv : Option AV) (s : Slots) (K : Slots → Prop) : Prop :=
  X.bare.bareL (movs as s).1 = true ∧
  match mutOf as with
  | none => capsIs (movs as s).2 fv f ∧ AC P f (argsOf (movs as s).2 .dead as (movs as s).1 ++ capsOf (movs as s).2 fv) fun r _ => K (putD d r (movs as s).2)
  | some (x, n) => mutCall (placeOf (opv (movs as s).2 x)).1 (placeOf (opv (movs as s).2 x)).2 (movs as s).2 n (opv (movs as s).2 x) fun y back => X.bare y = true ∧ capsIs (setLoc (placeOf (opv (movs as s).2 x)).1 (placeOf (opv (movs as s).2 x)).2 .dead (movs as s).2) fv f ∧
      AC P f (argsOf (setLoc (placeOf (opv (movs as s).2 x)).1 (placeOf (opv (movs as s).2 x)).2 .dead (movs as s).2) y as (movs as s).1 ++ capsOf (setLoc (placeOf (opv (movs as s).2 x)).1 (placeOf (opv (movs as s).2 x)).2 .dead (movs as s).2) fv)
        fun q ps => back (mutPost as ps) fun s' => K (putD d q s')

def deadE (lo hi : Nat) (xs : List (List X)) : List (List X) := xs.mapIdx fun i e => if lo ≤ i ∧ i < hi then e.map (fun _ => .dead) else e
def fillE (lo hi : Nat) (z : List X) (xs : List (List X)) : List (List X) := xs.mapIdx fun i e => if lo ≤ i ∧ i < hi then z else e
/-- What is appended: all of it, out of its place; or the elements alone, where they are part of a row. -/
def takeE (x : X) (s : Slots) : X × Slots := match x with
  | .cut r p lo hi => (match look s r p with
    | some (.row .own z xs) => (.row .own z ((xs.take hi).drop lo), setB r p (.row .own z (deadE lo hi xs)) s)
    | _ => (.dead, s))
  | x => take .mv x s
def fnOk (P : Program) (f : FuncId) : Bool := match P.funcs[f]? with
  | some fn => !(fn.name == "runtime.NumGoroutine") && !fn.body.isNone
  | none => false
/-- There is a cell in it. -/
def rowCells : List (List X) → Bool
  | (_ :: _) :: _ => true
  | _ => false
def awpOp [Bs] (P : Program) (o : AOp) (s : Slots) (K : Slots → Prop) : Prop :=
  match o with
  | .mv d x => K (put d (opv s x) s)
  | .asg d h x => K (put d (take h (opv s x) s).1 (take h (opv s x) s).2)
  | .pick d c a b => match opv s c with
    | .bool t => K (put d (pickX t (opv s a) (opv s b)) s)
    | _ => False
  | .un d op x => unOk op (opv s x) ∧ K (put d (unX op (opv s x)) s)
  | .bin d op x y => binOk op (opv s x) (opv s y) ∧ K (put d (binX op (opv s x) (opv s y)) s)
  | .beq d neg x y => match opv s x, opv s y with
    | .bool p, .bool q => K (put d (.bool (xor neg (p == q))) s)
    | _, _ => False
  | .nilq d neg x => match opv s x with
    | .row _ _ xs => ∀ b : Bool, (rowCells xs = true → b = false) → K (put d (.bool (xor neg b)) s)
    | _ => False
  | .aeq d neg ks x y => match opv s x, opv s y with
    | .agg p, .agg q => ∃ t, eqCells ks p q = some t ∧ K (put d (.bool (xor neg t)) s)
    | _, _ => False
  | .conv d k x => match opv s x with
    | .int _ n => K (put d (.int k (k.wrap n)) s)
    | _ => False
  | .bytes d x => match opv s x with
    | .str t => K (put d (.row .own 1 (t.data.toList.map fun b => [.int .u8 b.toNat])) s)
    | _ => False
  | .text d x => ∃ xs, rowAt s (opv s x) = some (1, xs) ∧ xs.length ≤ 9223372036854775807 ∧ ∃ l : List UInt8, xs = l.map (fun b => [.int .u8 b.toNat]) ∧ K (put d (.str ⟨l.toArray⟩) s)
  | .box d h x => 0 < (cellsOf (take h (opv s x) s).1).length ∧ K (put d (.ptr .own (cellsOf (take h (opv s x) s).1)) (take h (opv s x) s).2)
  | .new d z => K (put d (.ptr .own z) s)
  | .build d h z ps => solids h (takes h (ps.map (·.2)) s).1 ∧ sizesOk (ps.map (·.1.2)) (takes h (ps.map (·.2)) s).1 ∧ K (put d (.agg (fills z (ps.map (·.1.1)) (takes h (ps.map (·.2)) s).1)) (takes h (ps.map (·.2)) s).2)
  | .lit d h sz ps => (∀ x ∈ (takes h ps s).1, (cellsOf x).length = sz ∧ solidL (cellsOf x) = true) ∧ K (put d (.row .own sz ((takes h ps s).1.map cellsOf)) (takes h ps s).2)
  | .make d sz bytes z n => match opv s n with
    | .int _ i => 0 ≤ i ∧ i * bytes ≤ 140737488355328 ∧ K (put d (.row .own sz (List.replicate i.toNat z)) s)
    | _ => False
  | .load d sz agg a => ∃ cs, cellsAt s (opv s a) = some cs ∧ sz ≤ cs.length ∧ K (put d (bif agg then .agg (cs.take sz) else cs.headD .dead) s)
  | .store sz h a x => (cellsOf (take h (opv s x) s).1).length = sz ∧ (match opv (take h (opv s x) s).2 a with
    | .adr r p i c => storable (take h (opv s x) s).2 r p i c (cellsOf (take h (opv s x) s).1) ∧ K (setCells r p i c (cellsOf (take h (opv s x) s).1) (take h (opv s x) s).2)
    | _ => False)
  | .chk d x => match opv s x with
    | .adr r p i c => K (put d (.adr r p i c) s)
    | .ptr m cs => K (put d (.ptr m cs) s)
    | .fn f cs => K (put d (.fn f cs) s)
    | _ => False
  | .fadr d x off => match opv s x with
    | .adr r p i c => K (put d (.adr r p i (c + off)) s)
    | .ptr m cs => K (put d (.ptr m (cs.drop off)) s)
    | _ => False
  | .fld d x off sz agg => match opv s x with
    | .agg cs => off + sz ≤ cs.length ∧ K (put d (bif agg then .agg ((cs.drop off).take sz) else (cs.drop off).headD .dead) s)
    | _ => False
  | .iadr d sz x i => match opv s i with
    | .int _ n => 0 ≤ n ∧ (match opv s x with
      | .row m z xs => z = sz ∧ ∃ e, xs[n.toNat]? = some e ∧ K (put d (.ptr m e) s)
      | .ref r p => (match look s r p with
        | some (.row _ z xs) => z = sz ∧ n.toNat < xs.length ∧ K (put d (.adr r p n.toNat 0) s)
        | _ => False)
      | .cut r p lo hi => (match look s r p with
        | some (.row _ z _) => z = sz ∧ lo + n.toNat < hi ∧ K (put d (.adr r p (lo + n.toNat) 0) s)
        | _ => False)
      | _ => False)
    | _ => False
  | .sidx d x i => match opv s x, opv s i with
    | .str t, .int _ n => 0 ≤ n ∧ ∃ b, t.data[n.toNat]? = some b ∧ K (put d (.int .u8 b.toNat) s)
    | _, _ => False
  | .aidx d n sz agg x i => match opv s x, opv s i with
    | .agg cs, .int _ j => 0 ≤ j ∧ j < n ∧ cs.length = n * sz ∧ K (put d (bif agg then .agg ((cs.drop (j.toNat * sz)).take sz) else (cs.drop (j.toNat * sz)).headD .dead) s)
    | _, _ => False
  | .ext d x i => match opv s x with
    | .tup cs => i < cs.length ∧ K (put d (cs.getD i .dead) s)
    | _ => False
  | .sslice d x lo hi => match opv s x with
    | .str t => 0 ≤ asNat s lo 0 ∧ asNat s lo 0 ≤ asNat s hi t.size ∧ asNat s hi t.size ≤ t.size ∧ K (put d (.str (t.extract (asNat s lo 0).toNat (asNat s hi t.size).toNat)) s)
    | _ => False
  | .rslice d sz x lo hi => ∃ xs, rowAt s (opv s x) = some (sz, xs) ∧ 0 ≤ asNat s lo 0 ∧ asNat s lo 0 ≤ asNat s hi xs.length ∧ asNat s hi xs.length ≤ xs.length ∧ (match opv s x with
    | .row m z _ => K (put d (.row m z ((xs.take (asNat s hi xs.length).toNat).drop (asNat s lo 0).toNat)) s)
    | .ref r p => K (put d (.cut r p (asNat s lo 0).toNat (asNat s hi xs.length).toNat) s)
    | _ => False)
  | .lmv d fz sz agg a => ∃ cs, cellsAt s (opv s a) = some cs ∧ sz ≤ cs.length ∧ ∃ s', ghost fz d (put d (bif agg then .agg (cs.take sz) else cs.headD .dead) s) = some s' ∧ K s'
  | .clr sz z x => match opv s x with
    | .cut r p lo hi => (match look s r p with
      | some (.row .own z' xs) => z' = sz ∧ K (setB r p (.row .own z' (fillE lo hi z xs)) s)
      | _ => False)
    | _ => False
  | .callA d f x as => match opv s x with
    | .agg cs => X.bare.bareL (takeL cs s).1 = true ∧ AC P f (.agg (takeL cs s).1 :: argsOf (takeL cs s).2 .dead as (as.map fun _ => .dead)) fun r ps => match ps with
      | .agg ys :: _ => solidL ys = true ∧ ∃ s', backL cs ys (takeL cs s).2 = some s' ∧ K (putD d r s')
      | _ => False
    | _ => False
  | .mkfn d f cs => K (put d (.fn f (cs.map (opv s))) s)
  | .len d x => ∃ z xs, rowAt s (opv s x) = some (z, xs) ∧ K (put d (.int .i64 xs.length) s)
  | .slen d x => match opv s x with
    | .str t => K (put d (.int .i64 t.size) s)
    | _ => False
  | .app d h sz bytes x y => match (take .mv (opv s x) s).1 with
    | .row .own z xs => z = sz ∧ (match h with
      | .mv => (match (takeE (opv (take .mv (opv s x) s).2 y) (take .mv (opv s x) s).2).1 with
        | .row .own z' ys => z' = sz ∧ (xs.length + ys.length) * bytes ≤ 140737488355328 ∧ K (put d (.row .own z (xs ++ ys)) (takeE (opv (take .mv (opv s x) s).2 y) (take .mv (opv s x) s).2).2)
        | _ => False)
      | _ => ∃ ys, rowAt (take .mv (opv s x) s).2 (opv (take .mv (opv s x) s).2 y) = some (sz, ys) ∧ (xs.length + ys.length) * bytes ≤ 140737488355328 ∧ scalars ys ∧ K (put d (.row .own z (xs ++ ys)) (take .mv (opv s x) s).2))
    | _ => False
  | .mn d xs => match xs.map (opv s) with
    | [.int k a, .int k' b] => k = k' ∧ K (put d (.int k (if b < a then b else a)) s)
    | _ => False
  | .mx d xs => match xs.map (opv s) with
    | [.int k a, .int k' b] => k = k' ∧ K (put d (.int k (if b > a then b else a)) s)
    | _ => False
  | .call d f as => callX P f d as none s K
  | .callv d x as => match opv s x with
    | .fn f _ => fnOk P f = true ∧ callX P f d as (some x) s K
    | _ => False

def AOp.dst : AOp → Option Nat
  | .mv d _ | .asg d _ _ | .pick d _ _ _ | .un d _ _ | .bin d _ _ _ | .beq d _ _ _ | .aeq d _ _ _ _ | .nilq d _ _ | .conv d _ _ | .bytes d _ | .text d _ | .box d _ _ | .new d _ | .build d _ _ _ | .lit d _ _ _
  | .make d _ _ _ _ | .load d _ _ _ | .chk d _ | .fadr d _ _ | .fld d _ _ _ _ | .iadr d _ _ _ | .sidx d _ _ | .aidx d _ _ _ _ _ | .ext d _ _ | .sslice d _ _ _
  | .rslice d _ _ _ _ | .mkfn d _ _ | .len d _ | .slen d _ | .app d _ _ _ _ _ | .mn d _ | .mx d _ | .lmv d _ _ _ _ => some d
  | .call d _ _ => d
  | .callv d _ _ => d
  | .callA d _ _ _ => d
  | .store _ _ _ _ => none
  | .clr _ _ _ => none

def awpG [Bs] (P : Program) (g : G) (s : Slots) (K : Slots → Prop) : Prop := match g with
  | ⟨none, o⟩ => awpOp P o s K
  | ⟨some (t, b), o⟩ => match get s t with
    | .bool v => (v = b → awpOp P o ((t, .bool b) :: s) K) ∧ (v = !b → K (putD o.dst (.tup []) ((t, .bool (!b)) :: s)))
    | .tup [] => K (putD o.dst (.tup []) s)
    | _ => False
def awpOps [Bs] (P : Program) : List G → Slots → (Ex → Slots → Prop) → Prop
  | [], s, Q => Q .normal s
  | g :: l, s, Q => awpG P g s fun s' => awpOps P l s' Q
def keep (ks : List Nat) (s : Slots) : Slots := ks.map fun k => (k, (get s k).only ks)
def awpD [Bs] (P : Program) : DT → Slots → (Ex → Slots → Prop) → Prop
  | .nil ks, s, Q => Q .normal (keep ks s)
  | .step _ g t, s, Q => awpG P g s fun s' => awpD P t s' Q
  | .alt a b, s, Q => awpD P a s Q ∧ awpD P b s Q
  | .kp ks t, s, Q => awpD P t (keep ks s) Q

def awp [Bs] (P : Program) : A → Slots → (Ex → Slots → Prop) → Prop
  | .skip, s, Q => Q .normal s
  | .ret, s, Q => Q .ret s
  | .exit id, s, Q => Q (.exit id) s
  | .ops l, s, Q => awpOps P l s Q
  | .draw t, s, Q => awpD P t s Q
  | .seq a b, s, Q => awp P a s fun e s' => match e with
    | .normal => awp P b s' Q
    | e => Q e s'
  | .cond c a b, s, Q => match opv s c with
    | .bool t => (t = true → awp P a s Q) ∧ (t = false → awp P b s Q)
    | _ => False
  | .block id b, s, Q => awp P b s fun e s' => match e with
    | .exit i => bif i == id then Q .normal s' else Q (.exit i) s'
    | e => Q e s'
  | .loop b, s, Q => ∃ I : Nat → Slots → Prop, (∃ n, I n s) ∧ ∀ n s', I n s' → awp P b s' fun e s'' => match e with
    | .normal => ∃ m, m < n ∧ I m s''
    | e => Q e s''
  | .pk ks b, s, Q => awp P b s fun e s' => match e with
    | .normal => Q .normal (keep ks s')
    | e => Q e s'

def DThen [Bs] (P : Program) (t : DT) (Q : Ex → Slots → Prop) : Slots → Prop := fun s => awpD P t s Q
def OpsThen [Bs] (P : Program) (l : List G) (Q : Ex → Slots → Prop) : Slots → Prop := fun s => awpOps P l s Q
def Then [Bs] (P : Program) (b : A) (Q : Ex → Slots → Prop) : Ex → Slots → Prop := fun e s' => match e with
    | .normal => awp P b s' Q
    | e => Q e s'
def Blk (id : Nat) (Q : Ex → Slots → Prop) : Ex → Slots → Prop := fun e s' => match e with
    | .exit i => bif i == id then Q .normal s' else Q (.exit i) s'
    | e => Q e s'
end M
namespace M
open Go
variable [Bs] {P : Program}

@[simp] theorem awp_skip (s : Slots) (Q : Ex → Slots → Prop) : awp P .skip s Q = Q .normal s := rfl
@[simp] theorem awp_ret (s : Slots) (Q : Ex → Slots → Prop) : awp P .ret s Q = Q .ret s := rfl
@[simp] theorem awp_exit (i : Nat) (s : Slots) (Q : Ex → Slots → Prop) : awp P (.exit i) s Q = Q (.exit i) s := rfl
@[simp] theorem awp_ops (l : List G) (s : Slots) (Q : Ex → Slots → Prop) : awp P (.ops l) s Q = awpOps P l s Q := rfl
@[simp] theorem awp_draw (t : DT) (s : Slots) (Q : Ex → Slots → Prop) : awp P (.draw t) s Q = awpD P t s Q := rfl
@[simp] theorem d_nil (ks : List Nat) (s : Slots) (Q : Ex → Slots → Prop) : awpD P (.nil ks) s Q = Q .normal (keep ks s) := rfl
@[simp] theorem d_step (i : Nat) (o : AOp) (t : DT) (s : Slots) (Q : Ex → Slots → Prop) : awpD P (.step i ⟨none, o⟩ t) s Q = awpOp P o s (DThen P t Q) := rfl
@[simp] theorem d_guard (i t : Nat) (b : Bool) (o : AOp) (l : DT) (s : Slots) (Q : Ex → Slots → Prop) : awpD P (.step i ⟨some (t, b), o⟩ l) s Q = (match get s t with
    | .bool v => (v = b → awpOp P o ((t, .bool b) :: s) (DThen P l Q)) ∧ (v = !b → DThen P l Q (putD o.dst (.tup []) ((t, .bool (!b)) :: s)))
    | .tup [] => DThen P l Q (putD o.dst (.tup []) s)
    | _ => False) := rfl
@[simp] theorem d_alt (a b : DT) (s : Slots) (Q : Ex → Slots → Prop) : awpD P (.alt a b) s Q = (awpD P a s Q ∧ awpD P b s Q) := rfl
@[simp] theorem d_kp (ks : List Nat) (t : DT) (s : Slots) (Q : Ex → Slots → Prop) : awpD P (.kp ks t) s Q = awpD P t (keep ks s) Q := rfl
@[simp] theorem dThen (t : DT) (Q : Ex → Slots → Prop) (s : Slots) : DThen P t Q s = awpD P t s Q := rfl
@[simp] theorem awp_seq (a b : A) (s : Slots) (Q : Ex → Slots → Prop) : awp P (.seq a b) s Q = awp P a s (Then P b Q) := rfl
@[simp] theorem awp_block (i : Nat) (b : A) (s : Slots) (Q : Ex → Slots → Prop) : awp P (.block i b) s Q = awp P b s (Blk i Q) := rfl
@[simp] theorem awp_cond (c : AV) (a b : A) (s : Slots) (Q : Ex → Slots → Prop) : awp P (.cond c a b) s Q = (match opv s c with | .bool t => (t = true → awp P a s Q) ∧ (t = false → awp P b s Q) | _ => False) := rfl
@[simp] theorem then_normal (b : A) (Q : Ex → Slots → Prop) (s : Slots) : Then P b Q .normal s = awp P b s Q := rfl
@[simp] theorem then_exit (b : A) (Q : Ex → Slots → Prop) (s : Slots) (i : Nat) : Then P b Q (.exit i) s = Q (.exit i) s := rfl
@[simp] theorem then_ret (b : A) (Q : Ex → Slots → Prop) (s : Slots) : Then P b Q .ret s = Q .ret s := rfl
@[simp] theorem blk_normal (i : Nat) (Q : Ex → Slots → Prop) (s : Slots) : Blk i Q .normal s = Q .normal s := rfl
@[simp] theorem blk_ret (i : Nat) (Q : Ex → Slots → Prop) (s : Slots) : Blk i Q .ret s = Q .ret s := rfl
@[simp] theorem blk_exit (i j : Nat) (Q : Ex → Slots → Prop) (s : Slots) : Blk i Q (.exit j) s = (bif j == i then Q .normal s else Q (.exit j) s) := rfl
@[simp] theorem ops_nil (s : Slots) (Q : Ex → Slots → Prop) : awpOps P [] s Q = Q .normal s := rfl
@[simp] theorem ops_cons (o : AOp) (l : List G) (s : Slots) (Q : Ex → Slots → Prop) : awpOps P (⟨none, o⟩ :: l) s Q = awpOp P o s (OpsThen P l Q) := rfl
@[simp] theorem ops_guard (t : Nat) (b : Bool) (o : AOp) (l : List G) (s : Slots) (Q : Ex → Slots → Prop) : awpOps P (⟨some (t, b), o⟩ :: l) s Q = (match get s t with
    | .bool v => (v = b → awpOp P o ((t, .bool b) :: s) (OpsThen P l Q)) ∧ (v = !b → awpOps P l (putD o.dst (.tup []) ((t, .bool (!b)) :: s)) Q)
    | .tup [] => awpOps P l (putD o.dst (.tup []) s) Q
    | _ => False) := rfl
@[simp] theorem opsThen (l : List G) (Q : Ex → Slots → Prop) (s : Slots) : OpsThen P l Q s = awpOps P l s Q := rfl
attribute [simp] awpOp get put putD killS X.rooted opv alias alias1 alias2 aliasT aliasL look X.sub X.step X.putAt X.put1 setLoc setVal move take take1 takeL cellsOf cellsAt rowAt res res1 resL resP resF oldRooted setCell setCells
  eqCells binOk binX unOk unX pickX solid solidL takes fillX fills solids sizesOk storable asNat movs argsOf mutOf mutPost belowB X.killB X.killBL killBS setB mutCall placeOf X.bare X.bare.bareL capsOf capsIs callX X.md X.mdL X.mdLL X.kill X.killL X.pfx AOp.dst scalar X.only X.onlyL keep
end M
set_option linter.unusedVariables false
set_option linter.unusedSimpArgs false
namespace M
open Go Go.RowKit
namespace C
variable {w w' : World} {Z Z' : Md → Nat → Nat → Prop} {S : Nat → Nat → Prop}

theorem fp_lt : ∀ (c : C), c.ok w Z → ∀ b k, c.fp b k → b < w.heap.size
  | .row m sz A len cap e, h, b, k, hf => by
    obtain ⟨h1, h2, h3, h4, h5⟩ := h
    rcases hf with ⟨hm, ⟨o, hA⟩ | ⟨i, j, hi, hj, hf⟩⟩
    · rcases h4 hm with ⟨hn, _⟩ | ⟨g, o', arr, t, fz, hA', hh, _⟩
      · rw [hn] at hA; cases hA
      · rw [hA'] at hA
        injection hA with hA
        injection hA with e1 e2
        subst e1
        exact (Array.getElem?_eq_some_iff.1 hh).1
    · exact fp_lt (e i j) (h3 i j hi hj).2.2.2 b k hf
  | .ptr m g o n c, h, b, k, hf => by
    obtain ⟨h1, h2, h3, h4⟩ := h
    rcases hf with ⟨_, ⟨rfl, _⟩ | ⟨j, hj, hf⟩⟩
    · exact h2
    · exact fp_lt (c j) (h3 j hj).2.2 b k hf
  | .agg n c, h, b, k, hf => by
    obtain ⟨j, hj, hf⟩ := hf
    exact fp_lt (c j) (h.1 j hj).2 b k hf
  | .tup n c, h, b, k, hf => by
    obtain ⟨j, hj, hf⟩ := hf
    exact fp_lt (c j) (h.1 j hj).2 b k hf
  | .fn _ _ _, _, _, _, hf => hf.elim
  | .dead _, _, _, _, hf => hf.elim
  | .int _ _, _, _, _, hf => hf.elim
  | .bool _, _, _, _, hf => hf.elim
  | .str _, _, _, _, hf => hf.elim
  | .ref _ _ _, _, _, _, hf => hf.elim
  | .adr _ _ _ _ _, _, _, _, hf => hf.elim
  | .cut _ _ _ _ _, _, _, _, hf => hf.elim

/-- What is owned lies in what is owned. -/
theorem fits_own {c : C} {m : Md} (hc : c.cell) (hf : c.fits m) {b k : Nat} (h : c.fp b k) : m = .own := by
  cases c with
  | row m' sz A len cap e =>
    obtain ⟨hm, _⟩ := h
    subst hm
    rcases hf with h | h | ⟨_, h⟩
    · exact h
    · exact h.symm
    · cases h
  | ptr m' g o n c =>
    obtain ⟨hm, _⟩ := h
    subst hm
    rcases hf with h | h | ⟨_, h⟩
    · exact h
    · exact h.symm
    · cases h
  | agg n c => exact hc.elim
  | tup n c => exact hc.elim
  | _ => exact h.elim
theorem solid_cell {c : C} (h : c.cell) : c.cell := h
theorem in_row {m : Md} {sz : Nat} {A : Option Ad} {len cap : Nat} {e : Nat → Nat → C} {i j : Nat} (h0 : (e i j).cell) (h1 : (e i j).fits m) (hi : i < len) (hj : j < sz) {b k : Nat} (hf : (e i j).fp b k) : (C.row m sz A len cap e).fp b k :=
  ⟨fits_own h0 h1 hf, .inr ⟨i, j, hi, hj, hf⟩⟩
theorem in_ptr {m : Md} {g o n : Nat} {c : Nat → C} {j : Nat} (h0 : (c j).cell) (h1 : (c j).fits m) (hj : j < n) {b k : Nat} (hf : (c j).fp b k) : (C.ptr m g o n c).fp b k :=
  ⟨fits_own h0 h1 hf, .inr ⟨j, hj, hf⟩⟩
/-- What is told of memory holds on, where neither what is owned nor what is frozen is touched. -/
theorem ok_ext (hE : Ext S w w') (hZ : ∀ m b k, Z m b k → ¬ S b k) : ∀ (c : C), (∀ b k, c.fp b k → ¬ S b k) → c.ok w Z → c.ok w' Z
  | .row m sz A len cap e, hS, h => by
    obtain ⟨h1, h2, h3, h4, h5⟩ := h
    refine ⟨h1, fun i j hi hj => ?_, fun i j hi hj => ?_, fun hm => ?_, h5⟩
    · obtain ⟨g, o, hA, hc, hz⟩ := h2 i j hi hj
      refine ⟨g, o, hA, hE.cell ?_ hc, hz⟩
      by_cases hm : m = .own
      · exact hS _ _ ⟨hm, .inl ⟨o, hA⟩⟩
      · exact hZ _ _ _ (hz hm)
    · obtain ⟨a1, a2, a3, a4⟩ := h3 i j hi hj
      exact ⟨a1, a2, a3, ok_ext hE hZ (e i j) (fun b k hf => hS b k (in_row a1 a3 hi hj hf)) a4⟩
    · rcases h4 hm with h | ⟨g, o, arr, t, fz, hA, hh, hsz, hfr⟩
      · exact .inl h
      · have hg : g < w.heap.size := (Array.getElem?_eq_some_iff.1 hh).1
        rcases hE.block g hg with e' | ⟨a1, a2, t', fz', e1, e2, e3, e4⟩
        · exact .inr ⟨g, o, arr, t, fz, hA, e'.trans hh, hsz, fun k hk hk' => (hE.frozen hg).trans (hfr k hk hk')⟩
        · rw [hh] at e1
          injection e1 with e1
          injection e1 with q1 q2 q3
          subst q1
          exact .inr ⟨g, o, a2, t', fz', hA, e2, by omega, fun k hk hk' => (hE.frozen hg).trans (hfr k hk hk')⟩
  | .ptr m g o n c, hS, h => by
    obtain ⟨h1, h2, h3, h4⟩ := h
    refine ⟨fun j hj => ?_, Nat.lt_of_lt_of_le h2 hE.size, fun j hj => ?_, h4⟩
    · obtain ⟨a1, a2, a3⟩ := h1 j hj
      refine ⟨hE.cell ?_ a1, a2, fun hm => (hE.frozen h2).trans (a3 hm)⟩
      by_cases hm : m = .own
      · exact hS _ _ ⟨hm, .inl ⟨rfl, by omega, by omega⟩⟩
      · exact hZ _ _ _ (a2 hm)
    · obtain ⟨a1, a3, a4⟩ := h3 j hj
      exact ⟨a1, a3, ok_ext hE hZ (c j) (fun b k hf => hS b k (in_ptr a1 a3 hj hf)) a4⟩
  | .agg n c, hS, h => ⟨fun j hj => ⟨(h.1 j hj).1, ok_ext hE hZ (c j) (fun b k hf => hS b k ⟨j, hj, hf⟩) (h.1 j hj).2⟩, h.2⟩
  | .tup n c, hS, h => ⟨fun j hj => ⟨(h.1 j hj).1, ok_ext hE hZ (c j) (fun b k hf => hS b k ⟨j, hj, hf⟩) (h.1 j hj).2⟩, h.2⟩
  | .fn f n c, hS, h => fun j hj => ⟨ok_ext hE hZ (c j) (fun b k hf => ((h j hj).2 b k hf).elim) (h j hj).1, (h j hj).2⟩
  | .dead _, _, h => h
  | .int _ _, _, h => h
  | .bool _, _, h => h
  | .str _, _, h => h
  | .ref _ _ _, _, h => h
  | .adr _ _ _ _ _, _, h => h
  | .cut _ _ _ _ _, _, h => h

theorem ok_mono (hZ : ∀ m b k, Z m b k → Z' m b k) : ∀ (c : C), c.ok w Z → c.ok w Z'
  | .row m sz A len cap e, h => by
    obtain ⟨h1, h2, h3, h4, h5⟩ := h
    refine ⟨h1, fun i j hi hj => ?_, fun i j hi hj => ?_, h4, h5⟩
    · obtain ⟨g, o, hA, hc, hz⟩ := h2 i j hi hj
      exact ⟨g, o, hA, hc, fun hm => hZ _ _ _ (hz hm)⟩
    · obtain ⟨a1, a2, a3, a4⟩ := h3 i j hi hj
      exact ⟨a1, a2, a3, ok_mono hZ (e i j) a4⟩
  | .ptr m g o n c, h => by
    obtain ⟨h1, h2, h3, h4⟩ := h
    refine ⟨fun j hj => ?_, h2, fun j hj => ?_, h4⟩
    · obtain ⟨a1, a2, a3⟩ := h1 j hj
      exact ⟨a1, fun hm => hZ _ _ _ (a2 hm), a3⟩
    · obtain ⟨a1, a3, a4⟩ := h3 j hj
      exact ⟨a1, a3, ok_mono hZ (c j) a4⟩
  | .agg n c, h => ⟨fun j hj => ⟨(h.1 j hj).1, ok_mono hZ (c j) (h.1 j hj).2⟩, h.2⟩
  | .tup n c, h => ⟨fun j hj => ⟨(h.1 j hj).1, ok_mono hZ (c j) (h.1 j hj).2⟩, h.2⟩
  | .fn f n c, h => fun j hj => ⟨ok_mono hZ (c j) (h j hj).1, (h j hj).2⟩
  | .dead _, h => h
  | .int _ _, h => h
  | .bool _, h => h
  | .str _, h => h
  | .ref _ _ _, h => h
  | .adr _ _ _ _ _, h => h
  | .cut _ _ _ _ _, h => h

/-- A part, as X.step. -/
def step : C → Nat × Nat → Option C
  | .row _ sz _ len _ e, q => if q.1 < len ∧ q.2 < sz then some (e q.1 q.2) else none
  | .ptr _ _ _ n c, q => if q.1 = 0 ∧ q.2 < n then some (c q.2) else none
  | .agg n c, q => if q.1 = 0 ∧ q.2 < n then some (c q.2) else none
  | .tup n c, q => if q.1 = 0 ∧ q.2 < n then some (c q.2) else none
  | _, _ => none
def sub (c : C) : Path → Option C
  | [] => some c
  | q :: p => (c.step q).bind (·.sub p)
def upd (f : Nat → C) (j : Nat) (y : C) : Nat → C := fun i => if i = j then y else f i
def put1 : C → Nat × Nat → C → C
  | .row m sz A len cap e, q, y => .row m sz A len cap (fun i j => if i = q.1 ∧ j = q.2 then y else e i j)
  | .ptr m g o n c, q, y => .ptr m g o n (upd c q.2 y)
  | .agg n c, q, y => .agg n (upd c q.2 y)
  | .tup n c, q, y => .tup n (upd c q.2 y)
  | c, _, _ => c
def putAt : Path → C → C → C
  | [], _, y => y
  | q :: p, c, y => match c.step q with
    | some z => c.put1 q (putAt p z y)
    | none => c

theorem map_range_get? {α : Type} (f : Nat → α) (n i : Nat) : ((List.range n).map f)[i]? = if i < n then some (f i) else none := by
  rw [List.getElem?_map]
  by_cases h : i < n
  · rw [List.getElem?_range h, if_pos h]; rfl
  · rw [List.getElem?_eq_none (by simpa using h), if_neg h]; rfl

theorem step_er (c : C) (q : Nat × Nat) : c.er.step q = (c.step q).map er := by
  cases c with
  | row m sz A len cap e =>
    simp only [er, X.step, step, map_range_get?]
    by_cases h1 : q.1 < len
    · by_cases h2 : q.2 < sz
      · simp [h1, h2, map_range_get?]
      · simp [h1, h2, map_range_get?]
    · simp [h1]
  | ptr m g o n c => simp only [er, X.step, step, map_range_get?]; cases h0 : q.1 == 0 <;> by_cases h1 : q.2 < n <;> simp_all
  | agg n c => simp only [er, X.step, step, map_range_get?]; cases h0 : q.1 == 0 <;> by_cases h1 : q.2 < n <;> simp_all
  | tup n c => simp only [er, X.step, step, map_range_get?]; cases h0 : q.1 == 0 <;> by_cases h1 : q.2 < n <;> simp_all
  | _ => rfl
theorem sub_er : ∀ (p : Path) (c : C), c.er.sub p = (c.sub p).map er
  | [], c => rfl
  | q :: p, c => by
    simp only [X.sub, sub, step_er]
    cases h : c.step q with
    | none => rfl
    | some d => simpa using sub_er p d

theorem map_range_set {α : Type} (f g : Nat → α) (n j : Nat) (y : α) (h : ∀ i, i < n → g i = if i = j then y else f i) : ((List.range n).map f).set j y = (List.range n).map g := by
  apply List.ext_getElem?
  intro i
  rw [List.getElem?_set, map_range_get?, map_range_get?]
  simp only [List.length_map, List.length_range]
  by_cases hi : i < n
  · by_cases hj : j = i
    · subst hj; simp [hi, h j hi]
    · have : i ≠ j := fun e => hj e.symm
      simp [hi, hj, h i hi, this]
  · by_cases hj : j = i
    · subst hj; simp [hi]
    · simp [hi, hj]

theorem put1_er (c : C) (q : Nat × Nat) (y : C) : (c.put1 q y).er = c.er.put1 q y.er := by
  cases c with
  | row m sz A len cap e =>
    simp only [put1, er, X.put1]
    congr 1
    apply List.ext_getElem?
    intro i
    rw [List.getElem?_modify, map_range_get?, map_range_get?]
    by_cases hi : i < len
    · rw [if_pos hi, if_pos hi]
      show some _ = some _
      congr 1
      by_cases hq : q.1 = i
      · subst hq
        simp only [if_true]
        symm
        apply map_range_set
        intro j hj
        by_cases hj' : j = q.2 <;> simp [hj']
      · have hq' : i ≠ q.1 := fun e => hq e.symm
        simp [hq, hq']
    · simp [hi]
  | ptr m g o n c =>
    simp only [put1, er, X.put1]
    congr 1
    symm
    apply map_range_set
    intro i hi
    unfold upd
    split <;> rfl
  | agg n c =>
    simp only [put1, er, X.put1]
    congr 1
    symm
    apply map_range_set
    intro i hi
    unfold upd
    split <;> rfl
  | tup n c =>
    simp only [put1, er, X.put1]
    congr 1
    symm
    apply map_range_set
    intro i hi
    unfold upd
    split <;> rfl
  | _ => rfl
theorem putAt_er : ∀ (p : Path) (c y : C), (putAt p c y).er = X.putAt p c.er y.er
  | [], c, y => rfl
  | q :: p, c, y => by
    simp only [putAt, X.putAt, step_er]
    cases h : c.step q with
    | none => rfl
    | some d => simp only [Option.map_some, put1_er, putAt_er p d y]
end C
end M
set_option linter.unusedVariables false
set_option linter.unusedSimpArgs false
namespace M
open Go Go.RowKit
namespace C
variable {w w' : World} {Z Z' : Md → Nat → Nat → Prop} {S : Nat → Nat → Prop}

theorem step_fp {c z : C} {q : Nat × Nat} (h : c.step q = some z) (ho : c.ok w Z) {b k : Nat} (hf : z.fp b k) : c.fp b k := by
  cases c with
  | row m sz A len cap e =>
    simp only [step] at h
    split at h
    · rename_i hq
      injection h with h
      subst h
      obtain ⟨a1, a2, a3, a4⟩ := ho.2.2.1 _ _ hq.1 hq.2
      exact in_row a1 a3 hq.1 hq.2 hf
    · cases h
  | ptr m g o n c =>
    simp only [step] at h
    split at h
    · rename_i hq
      injection h with h
      subst h
      obtain ⟨a1, a3, a4⟩ := ho.2.2.1 _ hq.2
      exact in_ptr a1 a3 hq.2 hf
    · cases h
  | agg n c =>
    simp only [step] at h
    split at h
    · rename_i hq
      injection h with h
      subst h
      exact ⟨q.2, hq.2, hf⟩
    · cases h
  | tup n c =>
    simp only [step] at h
    split at h
    · rename_i hq
      injection h with h
      subst h
      exact ⟨q.2, hq.2, hf⟩
    · cases h
  | _ => simp [step] at h
theorem step_ok {c z : C} {q : Nat × Nat} (h : c.step q = some z) (ho : c.ok w Z) : z.ok w Z := by
  cases c with
  | row m sz A len cap e =>
    simp only [step] at h
    split at h
    · rename_i hq
      injection h with h
      subst h
      exact (ho.2.2.1 _ _ hq.1 hq.2).2.2.2
    · cases h
  | ptr m g o n c =>
    simp only [step] at h
    split at h
    · rename_i hq
      injection h with h
      subst h
      exact (ho.2.2.1 _ hq.2).2.2
    · cases h
  | agg n c =>
    simp only [step] at h
    split at h
    · rename_i hq
      injection h with h
      subst h
      exact (ho.1 _ hq.2).2
    · cases h
  | tup n c =>
    simp only [step] at h
    split at h
    · rename_i hq
      injection h with h
      subst h
      exact (ho.1 _ hq.2).2
    · cases h
  | _ => simp [step] at h
theorem sub_ok : ∀ (p : Path) {c d : C}, c.sub p = some d → c.ok w Z → d.ok w Z
  | [], c, d, h, ho => by simp only [sub] at h; injection h with h; subst h; exact ho
  | q :: p, c, d, h, ho => by
    simp only [sub] at h
    cases hs : c.step q with
    | none => rw [hs] at h; cases h
    | some z => rw [hs] at h; exact sub_ok p h (step_ok hs ho)

theorem sub_fp : ∀ (p : Path) {c d : C}, c.sub p = some d → c.ok w Z → ∀ {b k : Nat}, d.fp b k → c.fp b k
  | [], c, d, h, _, b, k, hf => by simp only [sub] at h; injection h with h; subst h; exact hf
  | q :: p, c, d, h, ho, b, k, hf => by
    simp only [sub] at h
    cases hs : c.step q with
    | none => rw [hs] at h; cases h
    | some z => rw [hs] at h; exact step_fp hs ho (sub_fp p h (step_ok hs ho) hf)

/-- Of the same make to whoever holds it. -/
structure Like (c c' : C) : Prop where
  val : c'.val = c.val
  cell : c.cell → c'.cell
  notup : c.notup → c'.notup
  solid : c.solid → c'.solid
  fits : ∀ m, c.fits m → c'.fits m

theorem Like.put1 (c : C) (q : Nat × Nat) (z z' : C) (hs : c.step q = some z) (hv : z'.val = z.val) : Like c (c.put1 q z') := by
  have list : ∀ (n : Nat) (f : Nat → C), f q.2 = z → ((List.range n).map fun j => (upd f q.2 z' j).val) = ((List.range n).map fun j => (f j).val) := by
    intro n f hf
    apply List.map_congr_left
    intro j _
    unfold upd
    split
    · rename_i e; subst e; rw [hv, hf]
    · rfl
  cases c with
  | row m sz A len cap e => exact ⟨rfl, fun h => h, fun h => h, fun h => h, fun m h => h⟩
  | ptr m g o n c => exact ⟨rfl, fun h => h, fun h => h, fun h => h, fun m h => h⟩
  | agg n c =>
    simp only [step] at hs
    split at hs
    · injection hs with hs
      exact ⟨by simp only [C.put1, C.val]; rw [list n c hs], fun h => h, fun h => h, fun h => h, fun m h => h⟩
    · cases hs
  | tup n c =>
    simp only [step] at hs
    split at hs
    · injection hs with hs
      exact ⟨by simp only [C.put1, C.val]; rw [list n c hs], fun h => h, fun h => h, fun h => h, fun m h => h⟩
    · cases hs
  | _ => simp [step] at hs

/-- Another part at a place: what is told of the whole holds on. -/
theorem ok_put (hM : ∀ m b k, Z m b k → Z' m b k) (hE : Ext S w w') (hZ : ∀ m b k, Z m b k → ¬ S b k) : ∀ (p : Path) (c d d' : C), c.ok w Z → c.sub p = some d → d'.ok w' Z' → Like d d' →
    (∀ b k, S b k → d.fp b k ∨ ¬ c.fp b k) → (∀ b k, d'.fp b k → d.fp b k ∨ ¬ c.fp b k) →
    (putAt p c d').ok w' Z' ∧ (∀ b k, (putAt p c d').fp b k → d'.fp b k ∨ (c.fp b k ∧ ¬ d.fp b k)) ∧ Like c (putAt p c d')
  | [], c, d, d', hc, hs, hd, hl, hS, hF => by
    simp only [sub] at hs
    injection hs with hs
    subst hs
    exact ⟨hd, fun b k h => .inl h, hl⟩
  | q :: p, c, d, d', hc, hs, hd, hl, hS, hF => by
    simp only [sub] at hs
    cases hst : c.step q with
    | none => rw [hst] at hs; cases hs
    | some z =>
      rw [hst] at hs
      have hs' : z.sub p = some d := hs
      obtain ⟨i1, i2, i3⟩ := ok_put hM hE hZ p z d d' (step_ok hst hc) hs' hd hl (fun b k h => (hS b k h).imp id (fun hn hz => hn (step_fp hst hc hz))) (fun b k h => (hF b k h).imp id (fun hn hz => hn (step_fp hst hc hz)))
      simp only [putAt, hst]
      generalize hz' : putAt p z d' = z' at i1 i2 i3
      have hlike := Like.put1 c q z z' hst i3.val
      have hdz : ∀ {b k}, d.fp b k → z.fp b k := fun h => sub_fp p hs' (step_ok hst hc) h
      have hSo : ∀ (y : C), (∀ b k, y.fp b k → c.fp b k) → (∀ b k, y.fp b k → ¬ z.fp b k) → ∀ b k, y.fp b k → ¬ S b k := fun y hy hyz b k hyf hSb => by
        rcases hS b k hSb with h | h
        · exact hyz b k hyf (hdz h)
        · exact h (hy b k hyf)
      cases c with
      | row m sz A len cap e =>
        simp only [step] at hst
        split at hst
        · rename_i hq
          injection hst with hst
          obtain ⟨h1, h2, h3, h4, h5⟩ := hc
          have hzf : ∀ b k, z.fp b k → (m = .own → ∀ o, A ≠ some (b, o, none)) ∧ ∀ i' j', i' < len → j' < sz → (q.1, q.2) ≠ (i', j') → ¬ (e i' j').fp b k := fun b k h => h5 q.1 q.2 hq.1 hq.2 b k (by rw [hst]; exact h)
          have hval : ∀ i j, (if i = q.1 ∧ j = q.2 then z' else e i j).val = (e i j).val := by
            intro i j
            split
            · rename_i h; obtain ⟨rfl, rfl⟩ := h; rw [hst]; exact i3.val
            · rfl
          have hz'f : ∀ b k, z'.fp b k → (m = .own → ∀ o, A ≠ some (b, o, none)) ∧ ∀ i' j', i' < len → j' < sz → (q.1, q.2) ≠ (i', j') → ¬ (e i' j').fp b k := by
            intro b k h
            rcases i2 b k h with h | ⟨h, _⟩
            · rcases hF b k h with h | h
              · exact hzf b k (hdz h)
              · exact ⟨fun hm o hA => h ⟨hm, .inl ⟨o, hA⟩⟩, fun i' j' hi hj _ hf => h (in_row (h3 i' j' hi hj).1 (h3 i' j' hi hj).2.2.1 hi hj hf)⟩
            · exact hzf b k h
          refine ⟨⟨h1, fun i j hi hj => ?_, fun i j hi hj => ?_, fun hm => ?_, fun i j hi hj b k hf => ?_⟩, fun b k hf => ?_, hlike⟩
          · obtain ⟨g, o, hA, hcell, hz⟩ := h2 i j hi hj
            refine ⟨g, o, hA, ?_, fun hm => hM _ _ _ (hz hm)⟩
            rw [hval]
            refine hE.cell ?_ hcell
            by_cases hm : m = .own
            · intro hSb
              rcases hS _ _ hSb with h | h
              · exact (hzf _ _ (hdz h)).1 hm o hA
              · exact h ⟨hm, .inl ⟨o, hA⟩⟩
            · exact hZ _ _ _ (hz hm)
          · obtain ⟨a1, a2, a3, a4⟩ := h3 i j hi hj
            by_cases hij : i = q.1 ∧ j = q.2
            · obtain ⟨rfl, rfl⟩ := hij
              simp only [and_self, if_true]
              rw [hst] at a1 a2 a3
              exact ⟨i3.cell a1, i3.solid a2, i3.fits _ a3, i1⟩
            · simp only [if_neg hij]
              refine ⟨a1, a2, a3, ok_mono hM _ (ok_ext hE hZ _ (hSo _ (fun b k hf => in_row a1 a3 hi hj hf) fun b k hf hzb => ?_) a4)⟩
              exact (hzf b k hzb).2 i j hi hj (fun e => hij (by simpa using (Prod.mk.injEq _ _ _ _ ▸ e.symm : i = q.1 ∧ j = q.2))) hf
          · rcases h4 hm with h | ⟨g, o, arr, t, fz, hA, hh, hsz, hfr⟩
            · exact .inl h
            · have hg : g < w.heap.size := (Array.getElem?_eq_some_iff.1 hh).1
              rcases hE.block g hg with e' | ⟨a1, a2, t', fz', e1, e2, e3, e4⟩
              · exact .inr ⟨g, o, arr, t, fz, hA, e'.trans hh, hsz, fun k hk hk' => (hE.frozen hg).trans (hfr k hk hk')⟩
              · rw [hh] at e1
                injection e1 with e1
                injection e1 with q1 q2 q3
                subst q1
                exact .inr ⟨g, o, a2, t', fz', hA, e2, by omega, fun k hk hk' => (hE.frozen hg).trans (hfr k hk hk')⟩
          · by_cases hij : i = q.1 ∧ j = q.2
            · obtain ⟨rfl, rfl⟩ := hij
              simp only [and_self, if_true] at hf
              refine ⟨(hz'f b k hf).1, fun i' j' hi' hj' hne => ?_⟩
              show ¬ (if i' = q.1 ∧ j' = q.2 then z' else e i' j').fp b k
              rw [if_neg (fun h => hne (by rw [h.1, h.2]))]
              exact (hz'f b k hf).2 i' j' hi' hj' hne
            · simp only [if_neg hij] at hf
              refine ⟨(h5 i j hi hj b k hf).1, fun i' j' hi' hj' hne => ?_⟩
              show ¬ (if i' = q.1 ∧ j' = q.2 then z' else e i' j').fp b k
              by_cases hij' : i' = q.1 ∧ j' = q.2
              · obtain ⟨rfl, rfl⟩ := hij'
                simp only [and_self, if_true]
                intro hf'
                exact (hz'f b k hf').2 i j hi hj (fun e => hij (by simpa using (Prod.mk.injEq _ _ _ _ ▸ e.symm : i = q.1 ∧ j = q.2))) hf
              · rw [if_neg hij']
                exact (h5 i j hi hj b k hf).2 i' j' hi' hj' hne
          · rcases hf with ⟨hm, h | ⟨i, j, hi, hj, hf⟩⟩
            · refine .inr ⟨⟨hm, .inl h⟩, fun hd => ?_⟩
              obtain ⟨o, hA⟩ := h
              exact (hzf b k (hdz hd)).1 hm o hA
            · by_cases hij : i = q.1 ∧ j = q.2
              · obtain ⟨rfl, rfl⟩ := hij
                simp only [and_self, if_true] at hf
                rcases i2 b k hf with h | ⟨h, hn⟩
                · exact .inl h
                · exact .inr ⟨⟨hm, .inr ⟨_, _, hi, hj, by rw [hst]; exact h⟩⟩, hn⟩
              · simp only [if_neg hij] at hf
                exact .inr ⟨⟨hm, .inr ⟨i, j, hi, hj, hf⟩⟩, fun hd => (hzf b k (hdz hd)).2 i j hi hj (fun e => hij (by simpa using (Prod.mk.injEq _ _ _ _ ▸ e.symm : i = q.1 ∧ j = q.2))) hf⟩
        · cases hst
      | ptr m g o n c =>
        simp only [step] at hst
        split at hst
        · rename_i hq
          injection hst with hst
          obtain ⟨h1, h2, h3, h4⟩ := hc
          have hzf : ∀ b k, z.fp b k → (m = .own → ¬ (b = g ∧ o ≤ k ∧ k < o + n)) ∧ ∀ j', j' < n → q.2 ≠ j' → ¬ (c j').fp b k := fun b k h => h4 q.2 hq.2 b k (by rw [hst]; exact h)
          have hval : ∀ j, (upd c q.2 z' j).val = (c j).val := by
            intro j
            unfold upd
            split
            · rename_i h; subst h; rw [hst]; exact i3.val
            · rfl
          have hz'f : ∀ b k, z'.fp b k → (m = .own → ¬ (b = g ∧ o ≤ k ∧ k < o + n)) ∧ ∀ j', j' < n → q.2 ≠ j' → ¬ (c j').fp b k := by
            intro b k h
            rcases i2 b k h with h | ⟨h, _⟩
            · rcases hF b k h with h | h
              · exact hzf b k (hdz h)
              · exact ⟨fun hm hA => h ⟨hm, .inl hA⟩, fun j' hj _ hf => h (in_ptr (h3 j' hj).1 (h3 j' hj).2.1 hj hf)⟩
            · exact hzf b k h
          refine ⟨⟨fun j hj => ?_, Nat.lt_of_lt_of_le h2 hE.size, fun j hj => ?_, fun j hj b k hf => ?_⟩, fun b k hf => ?_, hlike⟩
          · obtain ⟨a1, a2, a3⟩ := h1 j hj
            refine ⟨?_, fun hm => hM _ _ _ (a2 hm), fun hm => (hE.frozen h2).trans (a3 hm)⟩
            rw [hval]
            refine hE.cell ?_ a1
            by_cases hm : m = .own
            · intro hSb
              rcases hS _ _ hSb with h | h
              · exact (hzf _ _ (hdz h)).1 hm ⟨rfl, by omega, by omega⟩
              · exact h ⟨hm, .inl ⟨rfl, by omega, by omega⟩⟩
            · exact hZ _ _ _ (a2 hm)
          · obtain ⟨a1, a3, a4⟩ := h3 j hj
            unfold upd
            by_cases hij : j = q.2
            · subst hij
              simp only [if_true]
              rw [hst] at a1 a3
              exact ⟨i3.cell a1, i3.fits _ a3, i1⟩
            · simp only [if_neg hij]
              refine ⟨a1, a3, ok_mono hM _ (ok_ext hE hZ _ (hSo _ (fun b k hf => in_ptr a1 a3 hj hf) fun b k hf hzb => ?_) a4)⟩
              exact (hzf b k hzb).2 j hj (fun e => hij e.symm) hf
          · unfold upd at hf ⊢
            by_cases hij : j = q.2
            · subst hij
              simp only [if_true] at hf
              refine ⟨(hz'f b k hf).1, fun j' hj' hne => ?_⟩
              rw [if_neg (fun h => hne h.symm)]
              exact (hz'f b k hf).2 j' hj' hne
            · simp only [if_neg hij] at hf
              refine ⟨(h4 j hj b k hf).1, fun j' hj' hne => ?_⟩
              by_cases hij' : j' = q.2
              · subst hij'
                simp only [if_true]
                intro hf'
                exact (hz'f b k hf').2 j hj (fun e => hij e.symm) hf
              · rw [if_neg hij']
                exact (h4 j hj b k hf).2 j' hj' hne
          · rcases hf with ⟨hm, h | ⟨j, hj, hf⟩⟩
            · refine .inr ⟨⟨hm, .inl h⟩, fun hd => ?_⟩
              exact (hzf b k (hdz hd)).1 hm h
            · unfold upd at hf
              by_cases hij : j = q.2
              · subst hij
                simp only [if_true] at hf
                rcases i2 b k hf with h | ⟨h, hn⟩
                · exact .inl h
                · exact .inr ⟨⟨hm, .inr ⟨_, hj, by rw [hst]; exact h⟩⟩, hn⟩
              · simp only [if_neg hij] at hf
                exact .inr ⟨⟨hm, .inr ⟨j, hj, hf⟩⟩, fun hd => (hzf b k (hdz hd)).2 j hj (fun e => hij e.symm) hf⟩
        · cases hst
      | agg n c =>
        simp only [step] at hst
        split at hst
        · rename_i hq
          injection hst with hst
          obtain ⟨h3, h4⟩ := hc
          have hzf : ∀ b k, z.fp b k → ∀ j', j' < n → q.2 ≠ j' → ¬ (c j').fp b k := fun b k h => h4 q.2 hq.2 b k (by rw [hst]; exact h)
          have hz'f : ∀ b k, z'.fp b k → ∀ j', j' < n → q.2 ≠ j' → ¬ (c j').fp b k := by
            intro b k h
            rcases i2 b k h with h | ⟨h, _⟩
            · rcases hF b k h with h | h
              · exact hzf b k (hdz h)
              · exact fun j' hj _ hf => h ⟨j', hj, hf⟩
            · exact hzf b k h
          refine ⟨⟨fun j hj => ?_, fun j hj b k hf => ?_⟩, fun b k hf => ?_, hlike⟩
          · obtain ⟨a1, a4⟩ := h3 j hj
            unfold upd
            by_cases hij : j = q.2
            · subst hij
              simp only [if_true]
              rw [hst] at a1
              exact ⟨i3.cell a1, i1⟩
            · simp only [if_neg hij]
              refine ⟨a1, ok_mono hM _ (ok_ext hE hZ _ (hSo _ (fun b k hf => ⟨j, hj, hf⟩) fun b k hf hzb => ?_) a4)⟩
              exact hzf b k hzb j hj (fun e => hij e.symm) hf
          · unfold upd at hf ⊢
            by_cases hij : j = q.2
            · subst hij
              simp only [if_true] at hf
              intro j' hj' hne
              rw [if_neg (fun h => hne h.symm)]
              exact hz'f b k hf j' hj' hne
            · simp only [if_neg hij] at hf
              intro j' hj' hne
              by_cases hij' : j' = q.2
              · subst hij'
                simp only [if_true]
                intro hf'
                exact hz'f b k hf' j hj (fun e => hij e.symm) hf
              · rw [if_neg hij']
                exact h4 j hj b k hf j' hj' hne
          · obtain ⟨j, hj, hf⟩ := hf
            unfold upd at hf
            by_cases hij : j = q.2
            · subst hij
              simp only [if_true] at hf
              rcases i2 b k hf with h | ⟨h, hn⟩
              · exact .inl h
              · exact .inr ⟨⟨_, hj, by rw [hst]; exact h⟩, hn⟩
            · simp only [if_neg hij] at hf
              exact .inr ⟨⟨j, hj, hf⟩, fun hd => hzf b k (hdz hd) j hj (fun e => hij e.symm) hf⟩
        · cases hst
      | tup n c =>
        simp only [step] at hst
        split at hst
        · rename_i hq
          injection hst with hst
          obtain ⟨h3, h4⟩ := hc
          have hzf : ∀ b k, z.fp b k → ∀ j', j' < n → q.2 ≠ j' → ¬ (c j').fp b k := fun b k h => h4 q.2 hq.2 b k (by rw [hst]; exact h)
          have hz'f : ∀ b k, z'.fp b k → ∀ j', j' < n → q.2 ≠ j' → ¬ (c j').fp b k := by
            intro b k h
            rcases i2 b k h with h | ⟨h, _⟩
            · rcases hF b k h with h | h
              · exact hzf b k (hdz h)
              · exact fun j' hj _ hf => h ⟨j', hj, hf⟩
            · exact hzf b k h
          refine ⟨⟨fun j hj => ?_, fun j hj b k hf => ?_⟩, fun b k hf => ?_, hlike⟩
          · obtain ⟨a1, a4⟩ := h3 j hj
            unfold upd
            by_cases hij : j = q.2
            · subst hij
              simp only [if_true]
              rw [hst] at a1
              exact ⟨i3.notup a1, i1⟩
            · simp only [if_neg hij]
              refine ⟨a1, ok_mono hM _ (ok_ext hE hZ _ (hSo _ (fun b k hf => ⟨j, hj, hf⟩) fun b k hf hzb => ?_) a4)⟩
              exact hzf b k hzb j hj (fun e => hij e.symm) hf
          · unfold upd at hf ⊢
            by_cases hij : j = q.2
            · subst hij
              simp only [if_true] at hf
              intro j' hj' hne
              rw [if_neg (fun h => hne h.symm)]
              exact hz'f b k hf j' hj' hne
            · simp only [if_neg hij] at hf
              intro j' hj' hne
              by_cases hij' : j' = q.2
              · subst hij'
                simp only [if_true]
                intro hf'
                exact hz'f b k hf' j hj (fun e => hij e.symm) hf
              · rw [if_neg hij']
                exact h4 j hj b k hf j' hj' hne
          · obtain ⟨j, hj, hf⟩ := hf
            unfold upd at hf
            by_cases hij : j = q.2
            · subst hij
              simp only [if_true] at hf
              rcases i2 b k hf with h | ⟨h, hn⟩
              · exact .inl h
              · exact .inr ⟨⟨_, hj, by rw [hst]; exact h⟩, hn⟩
            · simp only [if_neg hij] at hf
              exact .inr ⟨⟨j, hj, hf⟩, fun hd => hzf b k (hdz hd) j hj (fun e => hij e.symm) hf⟩
        · cases hst
      | _ => simp [step] at hst
end C
end M
set_option linter.unusedVariables false
set_option linter.unusedSimpArgs false
namespace M
open Go Go.RowKit
namespace X
theorem killL_map (r : Nat) (p : Path) {α : Type} (f : α → X) : ∀ l : List α, killL r p (l.map f) = l.map fun a => (f a).kill r p
  | [] => rfl
  | a :: l => by simp only [List.map_cons, killL, killL_map r p f l]
theorem onlyL_map (ks : List Nat) {α : Type} (f : α → X) : ∀ l : List α, onlyL ks (l.map f) = l.map fun a => (f a).only ks
  | [] => rfl
  | a :: l => by simp only [List.map_cons, onlyL, onlyL_map ks f l]
end X
namespace C
variable {w w' : World} {Z Z' : Md → Nat → Nat → Prop} {S : Nat → Nat → Prop}
/-- What points to such places is dead: t says which. -/
def cutOff (t : Nat → Path → Bool) : C → C
  | .ref v s q => bif t s q then .dead v else .ref v s q
  | .adr v s q i c => bif t s q then .dead v else .adr v s q i c
  | .cut v s q lo hi => bif t s q then .dead v else .cut v s q lo hi
  | .ptr m g o n c => .ptr m g o n fun j => (c j).cutOff t
  | .agg n c => .agg n fun j => (c j).cutOff t
  | .tup n c => .tup n fun j => (c j).cutOff t
  | .fn f n c => .fn f n fun j => (c j).cutOff t
  | c => c
def kills (r : Nat) (p : Path) : Nat → Path → Bool := fun s q => s == r && X.pfx p q
def others (ks : List Nat) : Nat → Path → Bool := fun s _ => !ks.contains s
theorem kill_er (r : Nat) (p : Path) : ∀ c : C, (c.cutOff (kills r p)).er = c.er.kill r p
  | .ref v s q => by simp only [cutOff, er, X.kill, kills]; cases s == r && X.pfx p q <;> rfl
  | .adr v s q i c => by simp only [cutOff, er, X.kill, kills]; cases s == r && X.pfx p q <;> rfl
  | .cut v s q i c => by simp only [cutOff, er, X.kill, kills]; cases s == r && X.pfx p q <;> rfl
  | .ptr m g o n c => by simp only [cutOff, er, X.kill, X.killL_map]; congr 1; exact List.map_congr_left fun j _ => kill_er r p (c j)
  | .agg n c => by simp only [cutOff, er, X.kill, X.killL_map]; congr 1; exact List.map_congr_left fun j _ => kill_er r p (c j)
  | .tup n c => by simp only [cutOff, er, X.kill, X.killL_map]; congr 1; exact List.map_congr_left fun j _ => kill_er r p (c j)
  | .fn f n c => by simp only [cutOff, er, X.kill, X.killL_map]; congr 1; exact List.map_congr_left fun j _ => kill_er r p (c j)
  | .dead _ => by simp only [cutOff, er, X.kill]
  | .int _ _ => by simp only [cutOff, er, X.kill]
  | .bool _ => by simp only [cutOff, er, X.kill]
  | .str _ => by simp only [cutOff, er, X.kill]
  | .row _ _ _ _ _ _ => by simp only [cutOff, er, X.kill]
theorem only_er (ks : List Nat) : ∀ c : C, (c.cutOff (others ks)).er = c.er.only ks
  | .ref v s q => by simp only [cutOff, er, X.only, others]; cases ks.contains s <;> rfl
  | .adr v s q i c => by simp only [cutOff, er, X.only, others]; cases ks.contains s <;> rfl
  | .cut v s q i c => by simp only [cutOff, er, X.only, others]; cases ks.contains s <;> rfl
  | .ptr m g o n c => by simp only [cutOff, er, X.only, X.onlyL_map]; congr 1; exact List.map_congr_left fun j _ => only_er ks (c j)
  | .agg n c => by simp only [cutOff, er, X.only, X.onlyL_map]; congr 1; exact List.map_congr_left fun j _ => only_er ks (c j)
  | .tup n c => by simp only [cutOff, er, X.only, X.onlyL_map]; congr 1; exact List.map_congr_left fun j _ => only_er ks (c j)
  | .fn f n c => by simp only [cutOff, er, X.only, X.onlyL_map]; congr 1; exact List.map_congr_left fun j _ => only_er ks (c j)
  | .dead _ => by simp only [cutOff, er, X.only]
  | .int _ _ => by simp only [cutOff, er, X.only]
  | .bool _ => by simp only [cutOff, er, X.only]
  | .str _ => by simp only [cutOff, er, X.only]
  | .row _ _ _ _ _ _ => by simp only [cutOff, er, X.only]
section
variable (t : Nat → Path → Bool)
theorem off_val : ∀ c : C, (c.cutOff t).val = c.val
  | .ref v s q => by simp only [cutOff]; cases t s q <;> rfl
  | .adr v s q i c => by simp only [cutOff]; cases t s q <;> rfl
  | .cut v s q i c => by simp only [cutOff]; cases t s q <;> rfl
  | .ptr m g o n c => rfl
  | .agg n c => by simp only [cutOff, val]; congr 2; exact List.map_congr_left fun j _ => off_val (c j)
  | .tup n c => by simp only [cutOff, val]; congr 2; exact List.map_congr_left fun j _ => off_val (c j)
  | .fn f n c => by simp only [cutOff, val]; congr 2; exact List.map_congr_left fun j _ => off_val (c j)
  | .dead _ => rfl
  | .int _ _ => rfl
  | .bool _ => rfl
  | .str _ => rfl
  | .row _ _ _ _ _ _ => rfl
theorem off_fp : ∀ (c : C) (b k : Nat), (c.cutOff t).fp b k ↔ c.fp b k
  | .ref v s q, b, k => by simp only [cutOff]; cases t s q <;> exact Iff.rfl
  | .adr v s q i c, b, k => by simp only [cutOff]; cases t s q <;> exact Iff.rfl
  | .cut v s q i c, b, k => by simp only [cutOff]; cases t s q <;> exact Iff.rfl
  | .ptr m g o n c, b, k => and_congr_right fun _ => or_congr_right (exists_congr fun j => and_congr_right fun _ => off_fp (c j) b k)
  | .agg n c, b, k => exists_congr fun j => and_congr_right fun _ => off_fp (c j) b k
  | .tup n c, b, k => exists_congr fun j => and_congr_right fun _ => off_fp (c j) b k
  | .fn f n c, b, k => Iff.rfl
  | .dead _, _, _ => Iff.rfl
  | .int _ _, _, _ => Iff.rfl
  | .bool _, _, _ => Iff.rfl
  | .str _, _, _ => Iff.rfl
  | .row _ _ _ _ _ _, _, _ => Iff.rfl
theorem off_cell (c : C) (h : c.cell) : (c.cutOff t).cell := by
  cases c with
  | ref v s q => simp only [cutOff]; cases t s q <;> exact h
  | adr v s q i c => simp only [cutOff]; cases t s q <;> exact h
  | cut v s q i c => simp only [cutOff]; cases t s q <;> exact h
  | agg => exact h.elim
  | tup => exact h.elim
  | _ => exact h
theorem off_notup (c : C) (h : c.notup) : (c.cutOff t).notup := by
  cases c with
  | ref v s q => simp only [cutOff]; cases t s q <;> exact h
  | adr v s q i c => simp only [cutOff]; cases t s q <;> exact h
  | cut v s q i c => simp only [cutOff]; cases t s q <;> exact h
  | tup => exact h.elim
  | _ => exact h
theorem off_fits (m : Md) (c : C) (h : c.fits m) : (c.cutOff t).fits m := by
  cases c with
  | ref v s q => simp only [cutOff]; cases t s q <;> trivial
  | adr v s q i c => simp only [cutOff]; cases t s q <;> trivial
  | cut v s q i c => simp only [cutOff]; cases t s q <;> trivial
  | _ => exact h
theorem off_solid (c : C) (h : c.solid) : c.cutOff t = c := by
  cases c with
  | ref v s q => exact h.elim
  | adr v s q i c => exact h.elim
  | cut v s q i c => exact h.elim
  | ptr => exact h.elim
  | agg => exact h.elim
  | tup => exact h.elim
  | fn => exact h.elim
  | _ => rfl
theorem off_ok : ∀ c : C, c.ok w Z → (c.cutOff t).ok w Z
  | .ref v s q, h => by simp only [cutOff]; cases t s q <;> trivial
  | .adr v s q i c, h => by simp only [cutOff]; cases t s q <;> trivial
  | .cut v s q i c, h => by simp only [cutOff]; cases t s q <;> trivial
  | .ptr m g o n c, h => by
    obtain ⟨h1, h2, h3, h4⟩ := h
    refine ⟨fun j hj => ?_, h2, fun j hj => ⟨off_cell t _ (h3 j hj).1, off_fits t _ _ (h3 j hj).2.1, off_ok (c j) (h3 j hj).2.2⟩, fun j hj b k hf => ?_⟩
    · rw [off_val]; exact h1 j hj
    · rw [off_fp] at hf
      exact ⟨(h4 j hj b k hf).1, fun j' hj' hne => by rw [off_fp]; exact (h4 j hj b k hf).2 j' hj' hne⟩
  | .agg n c, h => ⟨fun j hj => ⟨off_cell t _ (h.1 j hj).1, off_ok (c j) (h.1 j hj).2⟩, fun j hj b k hf j' hj' hne => by rw [off_fp] at hf ⊢; exact h.2 j hj b k hf j' hj' hne⟩
  | .tup n c, h => ⟨fun j hj => ⟨off_notup t _ (h.1 j hj).1, off_ok (c j) (h.1 j hj).2⟩, fun j hj b k hf j' hj' hne => by rw [off_fp] at hf ⊢; exact h.2 j hj b k hf j' hj' hne⟩
  | .fn f n c, h => fun j hj => ⟨off_ok (c j) (h j hj).1, fun b k hf => by rw [off_fp] at hf; exact (h j hj).2 b k hf⟩
  | .dead _, h => h
  | .int _ _, h => h
  | .bool _, h => h
  | .str _, h => h
  | .row _ _ _ _ _ _, h => h
theorem off_sub : ∀ (q : Path) (c y : C), c.ok w Z → c.sub q = some y → (c.cutOff t).sub q = some (y.cutOff t)
  | [], c, y, ho, h => by simp only [sub] at h ⊢; injection h with h; rw [h]
  | q :: p, c, y, ho, h => by
    simp only [sub] at h ⊢
    cases hs : c.step q with
    | none => rw [hs] at h; cases h
    | some z =>
      rw [hs] at h
      have hz : (z.cutOff t).sub p = some (y.cutOff t) := off_sub p z y (step_ok hs ho) h
      suffices hst : (c.cutOff t).step q = some (z.cutOff t) by rw [hst]; exact hz
      cases c with
      | row m sz A len cap e =>
        simp only [step] at hs
        split at hs
        · rename_i hq
          injection hs with hs
          have := off_solid t z (by rw [← hs]; exact (ho.2.2.1 _ _ hq.1 hq.2).2.1)
          simp only [cutOff, step, if_pos hq, hs, this]
        · cases hs
      | ptr m g o n c =>
        simp only [step] at hs
        split at hs
        · rename_i hq
          injection hs with hs
          simp only [cutOff, step, if_pos hq, hs]
        · cases hs
      | agg n c =>
        simp only [step] at hs
        split at hs
        · rename_i hq
          injection hs with hs
          simp only [cutOff, step, if_pos hq, hs]
        · cases hs
      | tup n c =>
        simp only [step] at hs
        split at hs
        · rename_i hq
          injection hs with hs
          simp only [cutOff, step, if_pos hq, hs]
        · cases hs
      | _ => simp [step] at hs
end

/-- The same outside: what lies at its address, not what is in it. -/
inductive Face : C → C → Prop where
  | row (m m' : Md) (sz : Nat) (A : Option Ad) (len cap : Nat) (e e' : Nat → Nat → C) : Face (.row m sz A len cap e) (.row m' sz A len cap e')
  | ptr (m m' : Md) (g o n : Nat) (c c' : Nat → C) : Face (.ptr m g o n c) (.ptr m' g o n c')
theorem Face.off (t : Nat → Path → Bool) {y z : C} (h : Face y z) : Face y (z.cutOff t) := by
  cases h with
  | row => exact .row ..
  | ptr => exact .ptr ..
theorem Face.trans {x y z : C} (h : Face x y) (h' : Face y z) : Face x z := by
  cases h <;> cases h' <;> constructor

/-- Does nothing in it point to such a place? -/
def free (t : Nat → Path → Bool) : C → Prop
  | .ref _ s q => t s q = false
  | .adr _ s q _ _ => t s q = false
  | .cut _ s q _ _ => t s q = false
  | .ptr _ _ _ n c => ∀ j, j < n → (c j).free t
  | .agg n c => ∀ j, j < n → (c j).free t
  | .tup n c => ∀ j, j < n → (c j).free t
  | .fn _ n c => ∀ j, j < n → (c j).free t
  | _ => True
theorem off_free (t : Nat → Path → Bool) : ∀ c : C, (c.cutOff t).free t
  | .ref v s q => by simp only [cutOff]; cases h : t s q <;> simp [free, h]
  | .adr v s q i c => by simp only [cutOff]; cases h : t s q <;> simp [free, h]
  | .cut v s q i c => by simp only [cutOff]; cases h : t s q <;> simp [free, h]
  | .ptr m g o n c => fun j _ => off_free t (c j)
  | .agg n c => fun j _ => off_free t (c j)
  | .tup n c => fun j _ => off_free t (c j)
  | .fn f n c => fun j _ => off_free t (c j)
  | .dead _ => trivial
  | .int _ _ => trivial
  | .bool _ => trivial
  | .str _ => trivial
  | .row _ _ _ _ _ _ => trivial

/-- What points somewhere points right. -/
def rf (G : Nat → C) : C → Prop
  | .ref v s p => ∃ y z, (G s).sub p = some y ∧ Face z y ∧ y.val = v ∧ ∃ m sz A len cap e, z = .row m sz A len cap e
  | .adr v s p i c => ∃ y, (G s).sub p = some y ∧ ((∃ m sz g o len cap e, y = .row m sz (some (g, o, none)) len cap e ∧ v = .pointer (some ⟨g, o + i * sz + c, none⟩)) ∨ ∃ m g o n cc, y = .ptr m g o n cc ∧ i = 0 ∧ v = .pointer (some ⟨g, o + c, none⟩))
  | .cut v s p lo hi => ∃ m sz A len cap e A' cap', (G s).sub p = some (.row m sz A len cap e) ∧ v = .slice (Option.map (fun q : Ad => ⟨q.1, q.2.1, q.2.2⟩) A') (hi - lo) cap' ∧ lo ≤ hi ∧ hi ≤ len ∧ hi - lo ≤ cap' ∧ (lo < hi → A' = A.map fun q => adv (lo * sz) q) ∧ lo + cap' = cap ∧ ((A' = A ∧ cap' = 0) ∨ A' = A.map fun q => adv (lo * sz) q)
  | .ptr _ _ _ n c => ∀ j, j < n → (c j).rf G
  | .agg n c => ∀ j, j < n → (c j).rf G
  | .tup n c => ∀ j, j < n → (c j).rf G
  | .fn _ n c => ∀ j, j < n → (c j).rf G
  | _ => True
/-- Other slots, whose places look the same where t doesn't say otherwise. -/
theorem rf_of {G G' : Nat → C} (t : Nat → Path → Bool) (h : ∀ s q y, t s q = false → (G s).sub q = some y → (∃ z, Face y z ∧ (G' s).sub q = some z) ∨ ∀ z, ¬ Face z y) : ∀ c : C, c.free t → c.rf G → c.rf G'
  | .ref v s p, hf, hr => by
    obtain ⟨y, z, hs, hF, hv, m, sz, A, len, cap, e, rfl⟩ := hr
    rcases h s p y hf hs with ⟨z', hz', hs'⟩ | hno
    · refine ⟨z', _, hs', hF.trans hz', ?_, m, sz, A, len, cap, e, rfl⟩
      cases hF; cases hz'; exact hv
    · exact (hno _ hF).elim
  | .adr v s p i c, hf, hr => by
    obtain ⟨y, hs, hy⟩ := hr
    rcases h s p y hf hs with ⟨z', hz', hs'⟩ | hno
    · refine ⟨z', hs', ?_⟩
      rcases hy with ⟨m, sz, g, o, len, cap, e, rfl, hv⟩ | ⟨m, g, o, n, cc, rfl, hv⟩
      · cases hz'; exact .inl ⟨_, _, _, _, _, _, _, rfl, hv⟩
      · cases hz'; exact .inr ⟨_, _, _, _, _, rfl, hv⟩
    · rcases hy with ⟨m, sz, g, o, len, cap, e, rfl, hv⟩ | ⟨m, g, o, n, cc, rfl, hv⟩
      · exact (hno _ (.row m m sz (some (g, o, none)) len cap e e)).elim
      · exact (hno _ (.ptr m m g o n cc cc)).elim
  | .cut v s p lo hi, hf, hr => by
    obtain ⟨m, sz, A, len, cap, e, A', cap', hs, hv⟩ := hr
    rcases h s p _ hf hs with ⟨z', hz', hs'⟩ | hno
    · cases hz'; exact ⟨_, _, _, _, _, _, A', cap', hs', hv⟩
    · exact (hno _ (.row m m sz A len cap e e)).elim
  | .ptr m g o n c, hf, hr => fun j hj => rf_of t h (c j) (hf j hj) (hr j hj)
  | .agg n c, hf, hr => fun j hj => rf_of t h (c j) (hf j hj) (hr j hj)
  | .tup n c, hf, hr => fun j hj => rf_of t h (c j) (hf j hj) (hr j hj)
  | .fn f n c, hf, hr => fun j hj => rf_of t h (c j) (hf j hj) (hr j hj)
  | .dead _, _, _ => trivial
  | .int _ _, _, _ => trivial
  | .bool _, _, _ => trivial
  | .str _, _, _ => trivial
  | .row _ _ _ _ _ _, _, _ => trivial
theorem off_rf {G : Nat → C} (t : Nat → Path → Bool) : ∀ c : C, c.rf G → (c.cutOff t).rf G
  | .ref v s q, h => by simp only [cutOff]; cases t s q <;> first | exact h | trivial
  | .adr v s q i c, h => by simp only [cutOff]; cases t s q <;> first | exact h | trivial
  | .cut v s q i c, h => by simp only [cutOff]; cases t s q <;> first | exact h | trivial
  | .ptr m g o n c, h => fun j hj => off_rf t (c j) (h j hj)
  | .agg n c, h => fun j hj => off_rf t (c j) (h j hj)
  | .tup n c, h => fun j hj => off_rf t (c j) (h j hj)
  | .fn f n c, h => fun j hj => off_rf t (c j) (h j hj)
  | .dead _, _ => trivial
  | .int _ _, _ => trivial
  | .bool _, _ => trivial
  | .str _, _ => trivial
  | .row _ _ _ _ _ _, _ => trivial

theorem self (y z : C) (t : Path) (h : z.sub t = some y) : (∃ z', Face y z' ∧ z.sub t = some z') ∨ ∀ z, ¬ Face z y := by
  cases y with
  | row m sz A len cap e => exact .inl ⟨_, .row m m sz A len cap e e, h⟩
  | ptr m g o n c => exact .inl ⟨_, .ptr m m g o n c c, h⟩
  | _ => exact .inr fun z hz => by cases hz
/-- Places outside of one that changes look the same. -/
theorem sub_putAt : ∀ (p q : Path) (c d' y : C), X.pfx p q = false → c.sub q = some y → (∃ z, Face y z ∧ (putAt p c d').sub q = some z) ∨ ∀ z, ¬ Face z y
  | [], q, c, d', y, h, hs => by simp [X.pfx] at h
  | r :: p, [], c, d', y, h, hs => by
    simp only [sub] at hs
    injection hs with hs
    subst hs
    simp only [putAt, sub]
    cases hst : c.step r with
    | none =>
      cases c with
      | row m sz A len cap e => exact .inl ⟨_, .row m m sz A len cap e _, rfl⟩
      | ptr m g o n c => exact .inl ⟨_, .ptr m m g o n c _, rfl⟩
      | _ => exact .inr fun z hz => by cases hz
    | some z =>
      cases c with
      | row m sz A len cap e => exact .inl ⟨_, .row m m sz A len cap e _, rfl⟩
      | ptr m g o n c => exact .inl ⟨_, .ptr m m g o n c _, rfl⟩
      | _ => exact .inr fun z hz => by cases hz
  | r :: p, q :: t, c, d', y, h, hs => by
    simp only [sub] at hs ⊢
    cases hsq : c.step q with
    | none => rw [hsq] at hs; cases hs
    | some z =>
      rw [hsq] at hs
      have hs' : z.sub t = some y := hs
      simp only [putAt]
      cases hsr : c.step r with
      | none => simp only [hsq]; exact self y z t hs'
      | some z0 =>
        simp only
        by_cases hrq : r.1 = q.1 ∧ r.2 = q.2
        · have hrq' : r = q := by cases r; cases q; simp only at hrq; rw [hrq.1, hrq.2]
          subst hrq'
          rw [hsq] at hsr
          injection hsr with hsr
          subst hsr
          have hp : X.pfx p t = false := by simpa [X.pfx] using h
          have : (c.put1 r (putAt p z d')).step r = some (putAt p z d') := by
            cases c with
            | row m sz A len cap e =>
              simp only [step] at hsq
              split at hsq
              · rename_i hq; simp [put1, step, hq]
              · cases hsq
            | ptr m g o n c =>
              simp only [step] at hsq
              split at hsq
              · rename_i hq; simp [put1, step, hq, upd]
              · cases hsq
            | agg n c =>
              simp only [step] at hsq
              split at hsq
              · rename_i hq; simp [put1, step, hq, upd]
              · cases hsq
            | tup n c =>
              simp only [step] at hsq
              split at hsq
              · rename_i hq; simp [put1, step, hq, upd]
              · cases hsq
            | _ => simp [step] at hsq
          rw [this]
          exact sub_putAt p t z d' y hp hs'
        · by_cases h2 : r.2 = q.2
          · have h1 : r.1 ≠ q.1 := fun e => hrq ⟨e, h2⟩
            cases c with
            | row m sz A len cap e =>
              simp only [step] at hsq
              split at hsq
              · rename_i hq
                have : ((C.row m sz A len cap e).put1 r (putAt p z0 d')).step q = some z := by
                  simp only [put1, step, if_pos hq]
                  rw [if_neg (fun e => h1 e.1.symm)]
                  exact hsq
                rw [this]; exact self y z t hs'
              · cases hsq
            | ptr m g o n c =>
              simp only [step] at hsq hsr
              split at hsq
              · split at hsr
                · rename_i hq hr; exact (h1 (hr.1.trans hq.1.symm)).elim
                · cases hsr
              · cases hsq
            | agg n c =>
              simp only [step] at hsq hsr
              split at hsq
              · split at hsr
                · rename_i hq hr; exact (h1 (hr.1.trans hq.1.symm)).elim
                · cases hsr
              · cases hsq
            | tup n c =>
              simp only [step] at hsq hsr
              split at hsq
              · split at hsr
                · rename_i hq hr; exact (h1 (hr.1.trans hq.1.symm)).elim
                · cases hsr
              · cases hsq
            | _ => simp [step] at hsq
          · have : (c.put1 r (putAt p z0 d')).step q = some z := by
              cases c with
              | row m sz A len cap e =>
                simp only [step] at hsq
                split at hsq
                · rename_i hq
                  simp only [put1, step, if_pos hq]
                  rw [if_neg (fun e => h2 e.2.symm)]
                  exact hsq
                · cases hsq
              | ptr m g o n c =>
                simp only [step] at hsq
                split at hsq
                · rename_i hq
                  simp only [put1, step, if_pos hq, upd]
                  rw [if_neg (fun e => h2 e.symm)]
                  exact hsq
                · cases hsq
              | agg n c =>
                simp only [step] at hsq
                split at hsq
                · rename_i hq
                  simp only [put1, step, if_pos hq, upd]
                  rw [if_neg (fun e => h2 e.symm)]
                  exact hsq
                · cases hsq
              | tup n c =>
                simp only [step] at hsq
                split at hsq
                · rename_i hq
                  simp only [put1, step, if_pos hq, upd]
                  rw [if_neg (fun e => h2 e.symm)]
                  exact hsq
                · cases hsq
              | _ => simp [step] at hsq
            rw [this]; exact self y z t hs'
end C
end M
set_option linter.unusedVariables false
set_option linter.unusedSimpArgs false
namespace M
open Go Go.RowKit

theorem get_killS (r : Nat) (p : Path) (t : Nat) : ∀ s : Slots, get (killS r p s) t = (get s t).kill r p
  | [] => rfl
  | (k, v) :: s => by
    simp only [killS, get]
    cases k == t with
    | true => rfl
    | false => exact get_killS r p t s
theorem get_cons (k : Nat) (v : X) (s : Slots) (t : Nat) : get ((k, v) :: s) t = if t = k then v else get s t := by
  simp only [get]
  by_cases h : t = k
  · subst h; simp
  · have : (k == t) = false := by simpa using fun e => h e.symm
    rw [this, if_neg h]; rfl

/-- The slots, what they own, and the world. -/
structure Inv (w : World) (zl zb : Nat → Nat → Prop) (G : Nat → C) (s : Slots) : Prop where
  er : ∀ t, (G t).er = get s t
  ok : ∀ t, (G t).ok w (Zf zl zb)
  sep : ∀ t u, t ≠ u → ∀ b k, (G t).fp b k → ¬ (G u).fp b k
  fz : ∀ t b k, (G t).fp b k → ¬ zl b k ∧ ¬ zb b k
  rf : ∀ t, (G t).rf G
  zin : ∀ b k, zl b k ∨ zb b k → b < w.heap.size

theorem Zf_lt {zl zb : Nat → Nat → Prop} {n : Nat} (h : ∀ b k, zl b k ∨ zb b k → b < n) : ∀ m b k, Zf zl zb m b k → b < n
  | .own, b, k, hz => hz.elim
  | .sl, b, k, hz => h b k (.inl hz)
  | .bor, b, k, hz => h b k hz

namespace Inv
variable {w w' : World} {zl zb : Nat → Nat → Prop} {G : Nat → C} {s : Slots}

theorem zfp (h : Inv w zl zb G s) (t : Nat) : ∀ m b k, Zf zl zb m b k → ¬ (G t).fp b k
  | .own, b, k, hz => hz.elim
  | .sl, b, k, hz => fun hf => (h.fz t b k hf).1 hz
  | .bor, b, k, hz => fun hf => by
    rcases hz with hz | hz
    · exact (h.fz t b k hf).1 hz
    · exact (h.fz t b k hf).2 hz

theorem off (h : Inv w zl zb G s) (f : Nat → Path → Bool) {s' : Slots} (hs : ∀ t, ((G t).cutOff f).er = get s' t) : Inv w zl zb (fun t => (G t).cutOff f) s' where
  er := hs
  ok := fun t => C.off_ok f _ (h.ok t)
  sep := fun t u hne b k hf => by rw [C.off_fp] at hf ⊢; exact h.sep t u hne b k hf
  fz := fun t b k hf => by rw [C.off_fp] at hf; exact h.fz t b k hf
  rf := fun t => C.rf_of f (fun s' q y hf hs => by
      rcases C.self y _ q hs with ⟨z, hz, hs''⟩ | hno
      · exact .inl ⟨_, hz.off f, C.off_sub f q _ _ (h.ok s') hs''⟩
      · exact .inr hno) _ (C.off_free f _) (C.off_rf f _ (h.rf t))
  zin := h.zin
theorem kill (h : Inv w zl zb G s) (r : Nat) (p : Path) : Inv w zl zb (fun t => (G t).cutOff (C.kills r p)) (killS r p s) :=
  h.off _ fun t => by rw [C.kill_er, get_killS, h.er]

/-- Another world: only new blocks differ. -/
theorem world (h : Inv w zl zb G s) {S : Nat → Nat → Prop} (hE : Ext S w w') (hS : ∀ b k, S b k → w.heap.size ≤ b) : Inv w' zl zb G s where
  er := h.er
  ok := fun t => C.ok_ext hE (fun m b k hz hs => by have := Zf_lt h.zin m b k hz; have := hS b k hs; omega) _ (fun b k hf hs => by have := C.fp_lt _ (h.ok t) b k hf; have := hS b k hs; omega) (h.ok t)
  sep := h.sep
  fz := h.fz
  rf := h.rf
  zin := fun b k hz => Nat.lt_of_lt_of_le (h.zin b k hz) hE.size

/-- A slot that can't be pointed into isn't. -/
theorem unrooted (h : Inv w zl zb G s) {d : Nat} (hd : (get s d).rooted = false) : ∀ c : C, c.rf G → c.free (C.kills d [])
  | .ref v r p, hr => by
    obtain ⟨y, z, hs, hF, _⟩ := hr
    simp only [C.free, C.kills, X.pfx, Bool.and_true]
    by_cases e : r = d
    · subst e
      exact (no h hd hs (by cases hF <;> rfl)).elim
    · simpa using e
  | .adr v r p i c, hr => by
    obtain ⟨y, hs, hy⟩ := hr
    simp only [C.free, C.kills, X.pfx, Bool.and_true]
    by_cases e : r = d
    · subst e
      refine (no h hd hs ?_).elim
      rcases hy with ⟨m, sz, g, o, len, cap, e, rfl, hv⟩ | ⟨m, g, o, n, cc, rfl, hv⟩ <;> rfl
    · simpa using e
  | .cut v r p lo hi, hr => by
    obtain ⟨m, sz, A, len, cap, e, A', cap', hs, _⟩ := hr
    simp only [C.free, C.kills, X.pfx, Bool.and_true]
    by_cases e : r = d
    · subst e
      exact (no h hd hs rfl).elim
    · simpa using e
  | .ptr m g o n c, hr => fun j hj => unrooted h hd (c j) (hr j hj)
  | .agg n c, hr => fun j hj => unrooted h hd (c j) (hr j hj)
  | .tup n c, hr => fun j hj => unrooted h hd (c j) (hr j hj)
  | .fn f n c, hr => fun j hj => unrooted h hd (c j) (hr j hj)
  | .dead _, _ => trivial
  | .int _ _, _ => trivial
  | .bool _, _ => trivial
  | .str _, _ => trivial
  | .row _ _ _ _ _ _, _ => trivial
where
  no {r : Nat} {p : Path} {y : C} (h : Inv w zl zb G s) (hd : (get s r).rooted = false) (hs : (G r).sub p = some y) (hy : y.er.rooted = true) : False := by
    rw [← h.er] at hd
    cases p with
    | nil =>
      simp only [C.sub] at hs
      injection hs with hs
      rw [hs, hy] at hd
      cases hd
    | cons q p =>
      simp only [C.sub] at hs
      cases hc : G r with
      | row => rw [hc] at hd; simp [C.er, X.rooted] at hd
      | ptr => rw [hc] at hd; simp [C.er, X.rooted] at hd
      | agg => rw [hc] at hd; simp [C.er, X.rooted] at hd
      | tup => rw [hc] at hd; simp [C.er, X.rooted] at hd
      | _ => rw [hc] at hs; simp [C.step] at hs
end Inv

/-- One slot told anew. -/
def updG (G : Nat → C) (d : Nat) (c : C) : Nat → C := fun t => if t = d then c else G t
theorem updG_same (G : Nat → C) (d : Nat) (c : C) : updG G d c d = c := by simp [updG]
theorem updG_other (G : Nat → C) {d t : Nat} (c : C) (h : t ≠ d) : updG G d c t = G t := by simp [updG, h]

namespace Inv
variable {w w' : World} {zl zb : Nat → Nat → Prop} {G : Nat → C} {s : Slots}

/-- A slot is written, nothing pointing into it. -/
theorem put0 (h : Inv w zl zb G s) (d : Nat) (c : C) (hfree : ∀ t, t ≠ d → (G t).free (C.kills d [])) (hok : c.ok w (Zf zl zb)) (hsep : ∀ t, t ≠ d → ∀ b k, c.fp b k → ¬ (G t).fp b k)
    (hfz : ∀ b k, c.fp b k → ¬ zl b k ∧ ¬ zb b k) (hrf : c.rf G) (hcf : c.free (C.kills d [])) : Inv w zl zb (updG G d c) ((d, c.er) :: s) where
  er := fun t => by
    rw [get_cons]
    by_cases e : t = d
    · subst e; rw [updG_same, if_pos rfl]
    · rw [updG_other _ _ e, if_neg e]; exact h.er t
  ok := fun t => by
    by_cases e : t = d
    · subst e; rw [updG_same]; exact hok
    · rw [updG_other _ _ e]; exact h.ok t
  sep := fun t u hne b k hf => by
    by_cases e : t = d
    · subst e
      rw [updG_same] at hf
      rw [updG_other _ _ (fun e => hne e.symm)]
      exact hsep u (fun e => hne e.symm) b k hf
    · rw [updG_other _ _ e] at hf
      by_cases e' : u = d
      · subst e'
        rw [updG_same]
        exact fun hc => hsep t e b k hc hf
      · rw [updG_other _ _ e']; exact h.sep t u hne b k hf
  fz := fun t b k hf => by
    by_cases e : t = d
    · subst e; rw [updG_same] at hf; exact hfz b k hf
    · rw [updG_other _ _ e] at hf; exact h.fz t b k hf
  rf := fun t => by
    have key : ∀ c' : C, c'.free (C.kills d []) → c'.rf G → c'.rf (updG G d c) := fun c' hf hr => C.rf_of (C.kills d []) (fun s' q y hk hs => by
      have hne : s' ≠ d := by
        intro e
        subst e
        simp [C.kills, X.pfx] at hk
      rw [updG_other _ _ hne]
      exact C.self y _ q hs) c' hf hr
    by_cases e : t = d
    · subst e; rw [updG_same]; exact key c hcf hrf
    · rw [updG_other _ _ e]; exact key _ (hfree t e) (h.rf t)
  zin := h.zin

/-- A slot is written. -/
theorem put (h : Inv w zl zb G s) (d : Nat) (c : C) (hok : c.ok w (Zf zl zb)) (hsep : ∀ t, t ≠ d → ∀ b k, c.fp b k → ¬ (G t).fp b k)
    (hfz : ∀ b k, c.fp b k → ¬ zl b k ∧ ¬ zb b k) (hrf : c.rf G) :
    ∃ G', Inv w zl zb G' (M.put d c.er s) ∧ (G' d).val = c.val ∧ (∀ t, t ≠ d → (G' t).val = (G t).val) ∧ (∀ b k, (G' d).fp b k → c.fp b k) ∧ ∀ t, t ≠ d → ∀ b k, (G' t).fp b k → (G t).fp b k := by
  unfold M.put
  cases hr : (get s d).rooted with
  | false =>
    refine ⟨updG G d c, h.put0 d c (fun t _ => h.unrooted hr _ (h.rf t)) hok hsep hfz hrf (h.unrooted hr _ hrf), by rw [updG_same], fun t e => by rw [updG_other _ _ e], fun b k hf => by rwa [updG_same] at hf, fun t e b k hf => by rwa [updG_other _ _ e] at hf⟩
  | true =>
    have h1 := h.kill d []
    have hc : (c.cutOff (C.kills d [])).rf fun t => (G t).cutOff (C.kills d []) := C.rf_of (C.kills d []) (fun s' q y hf hs => by
      rcases C.self y _ q hs with ⟨z, hz, hs''⟩ | hno
      · exact .inl ⟨_, hz.off _, C.off_sub _ q _ _ (h.ok s') hs''⟩
      · exact .inr hno) _ (C.off_free _ _) (C.off_rf _ _ hrf)
    have h2 := h1.put0 d (c.cutOff (C.kills d [])) (fun t _ => C.off_free _ _) (C.off_ok _ _ hok) (fun t e b k hf => by rw [C.off_fp] at hf ⊢; exact hsep t e b k hf) (fun b k hf => by rw [C.off_fp] at hf; exact hfz b k hf) hc (C.off_free _ _)
    rw [C.kill_er] at h2
    refine ⟨_, h2, by rw [updG_same, C.off_val], fun t e => by rw [updG_other _ _ e, C.off_val], fun b k hf => by rw [updG_same, C.off_fp] at hf; exact hf, fun t e b k hf => by rw [updG_other _ _ e, C.off_fp] at hf; exact hf⟩

/-- A part of what a slot holds turns (at q, y; its holder at p: d to d'), nothing pointing below it; the world turns there, and where it is new. -/
theorem set1 (h : Inv w zl zb G s) (r : Nat) (p q : Path) (d d' y : C) {S : Nat → Nat → Prop} (hq : C.putAt q (G r) y = C.putAt p (G r) d') (hfree : ∀ t, (G t).free (C.kills r q)) (hE : Ext S w w') (hsub : (G r).sub p = some d)
    (hS : ∀ b k, S b k → d.fp b k ∨ w.heap.size ≤ b) (hok : d'.ok w' (Zf zl zb)) (hl : C.Like d d') (hrf : y.rf G) (hdf : y.free (C.kills r q))
    (hfp : ∀ b k, d'.fp b k → d.fp b k ∨ ((∀ t, ¬ (G t).fp b k) ∧ ¬ zl b k ∧ ¬ zb b k)) :
    (Inv w' zl zb (updG G r (C.putAt p (G r) d')) ((r, X.putAt q (get s r) y.er) :: s) ∧ (∀ t, (updG G r (C.putAt p (G r) d') t).val = (G t).val) ∧
      ∀ t b k, (updG G r (C.putAt p (G r) d') t).fp b k → (t = r ∧ d'.fp b k) ∨ (G t).fp b k) ∧ ∀ c' : C, c'.free (C.kills r q) → c'.rf G → c'.rf (updG G r (C.putAt p (G r) d')) := by
  have hdr : ∀ {b k}, d.fp b k → (G r).fp b k := fun hf => C.sub_fp p hsub (h.ok r) hf
  have hZ : ∀ m b k, Zf zl zb m b k → ¬ S b k := fun m b k hz hs => by
    rcases hS b k hs with hs | hs
    · exact h.zfp r m b k hz (hdr hs)
    · have := Zf_lt h.zin m b k hz; omega
  obtain ⟨i1, i2, i3⟩ := C.ok_put (fun _ _ _ h => h) hE hZ p (G r) d d' (h.ok r) hsub hok hl (fun b k hs => (hS b k hs).imp id fun hb hf => by have := C.fp_lt _ (h.ok r) b k hf; omega) (fun b k hf => (hfp b k hf).imp id fun hn => hn.1 r)
  have hfp' : ∀ b k, (C.putAt p (G r) d').fp b k → d'.fp b k ∨ (G r).fp b k := fun b k hf => (i2 b k hf).imp id fun hh => hh.1
  have hr' : ∀ t, t ≠ r → ∀ b k, (C.putAt p (G r) d').fp b k → ¬ (G t).fp b k := fun t e b k hf => by
    rcases hfp' b k hf with hf | hf
    · rcases hfp b k hf with hf | hf
      · exact h.sep r t (fun e' => e e'.symm) b k (hdr hf)
      · exact hf.1 t
    · exact h.sep r t (fun e' => e e'.symm) b k hf
  have key : ∀ c' : C, c'.free (C.kills r q) → c'.rf G → c'.rf (updG G r (C.putAt p (G r) d')) := fun c' hf hr => C.rf_of (C.kills r q) (fun s' q' y' hk hs => by
    by_cases e : s' = r
    · subst e
      rw [updG_same, ← hq]
      exact C.sub_putAt q q' (G s') y y' (by simpa [C.kills] using hk) hs
    · rw [updG_other _ _ e]
      exact C.self y' _ q' hs) c' hf hr
  refine ⟨⟨⟨fun t => ?_, fun t => ?_, fun t u hne b k hf => ?_, fun t b k hf => ?_, fun t => ?_, fun b k hz => Nat.lt_of_lt_of_le (h.zin b k hz) hE.size⟩, fun t => ?_, fun t b k hf => ?_⟩, key⟩
  · rw [get_cons]
    by_cases e : t = r
    · subst e; rw [updG_same, if_pos rfl, ← hq, C.putAt_er, h.er]
    · rw [updG_other _ _ e, if_neg e]; exact h.er t
  · by_cases e : t = r
    · subst e; rw [updG_same]; exact i1
    · rw [updG_other _ _ e]
      refine C.ok_ext hE hZ _ (fun b k hf hs => ?_) (h.ok t)
      rcases hS b k hs with hs | hs
      · exact h.sep t r e b k hf (hdr hs)
      · have := C.fp_lt _ (h.ok t) b k hf; omega
  · by_cases e : t = r
    · subst e
      rw [updG_same] at hf
      rw [updG_other _ _ (fun e => hne e.symm)]
      exact hr' u (fun e => hne e.symm) b k hf
    · rw [updG_other _ _ e] at hf
      by_cases e' : u = r
      · subst e'
        rw [updG_same]
        exact fun hc => hr' t e b k hc hf
      · rw [updG_other _ _ e']; exact h.sep t u hne b k hf
  · by_cases e : t = r
    · subst e
      rw [updG_same] at hf
      rcases hfp' b k hf with hf | hf
      · rcases hfp b k hf with hf | hf
        · exact h.fz t b k (hdr hf)
        · exact hf.2
      · exact h.fz t b k hf
    · rw [updG_other _ _ e] at hf; exact h.fz t b k hf
  · by_cases e : t = r
    · subst e
      rw [updG_same]
      have inner : ∀ (p' : Path) (c' : C), c'.free (C.kills t q) → c'.rf G → (C.putAt p' c' y).rf (updG G t (C.putAt p (G t) d')) := by
        intro p'
        induction p' with
        | nil => intro c' _ _; exact key y hdf hrf
        | cons x p' ih =>
          intro c' hcf hcr
          simp only [C.putAt]
          cases hst : c'.step x with
          | none => exact key c' hcf hcr
          | some z =>
            cases c' with
            | row m sz A len cap e => trivial
            | ptr m g o n c =>
              simp only [C.step] at hst
              split at hst
              · rename_i hq
                injection hst with hst
                intro j hj
                simp only [C.upd]
                split
                · exact ih z (by rw [← hst]; exact hcf _ hq.2) (by rw [← hst]; exact hcr _ hq.2)
                · exact key _ (hcf j hj) (hcr j hj)
              · cases hst
            | agg n c =>
              simp only [C.step] at hst
              split at hst
              · rename_i hq
                injection hst with hst
                intro j hj
                simp only [C.upd]
                split
                · exact ih z (by rw [← hst]; exact hcf _ hq.2) (by rw [← hst]; exact hcr _ hq.2)
                · exact key _ (hcf j hj) (hcr j hj)
              · cases hst
            | tup n c =>
              simp only [C.step] at hst
              split at hst
              · rename_i hq
                injection hst with hst
                intro j hj
                simp only [C.upd]
                split
                · exact ih z (by rw [← hst]; exact hcf _ hq.2) (by rw [← hst]; exact hcr _ hq.2)
                · exact key _ (hcf j hj) (hcr j hj)
              · cases hst
            | _ => simp [C.step] at hst
      rw [← hq] at *
      exact inner q (G t) (hfree t) (h.rf t)
    · rw [updG_other _ _ e]; exact key _ (hfree t) (h.rf t)
  · by_cases e : t = r
    · subst e; rw [updG_same]; exact i3.val
    · rw [updG_other _ _ e]
  · by_cases e : t = r
    · subst e
      rw [updG_same] at hf
      exact (hfp' b k hf).imp (fun hh => ⟨rfl, hh⟩) id
    · rw [updG_other _ _ e] at hf; exact .inr hf

/-- The same at one place. -/
theorem set0 (h : Inv w zl zb G s) (r : Nat) (p : Path) (d d' : C) {S : Nat → Nat → Prop} (hfree : ∀ t, (G t).free (C.kills r p)) (hE : Ext S w w') (hsub : (G r).sub p = some d)
    (hS : ∀ b k, S b k → d.fp b k ∨ w.heap.size ≤ b) (hok : d'.ok w' (Zf zl zb)) (hl : C.Like d d') (hrf : d'.rf G) (hdf : d'.free (C.kills r p))
    (hfp : ∀ b k, d'.fp b k → d.fp b k ∨ ((∀ t, ¬ (G t).fp b k) ∧ ¬ zl b k ∧ ¬ zb b k)) :
    (Inv w' zl zb (updG G r (C.putAt p (G r) d')) ((r, X.putAt p (get s r) d'.er) :: s) ∧ (∀ t, (updG G r (C.putAt p (G r) d') t).val = (G t).val) ∧
      ∀ t b k, (updG G r (C.putAt p (G r) d') t).fp b k → (t = r ∧ d'.fp b k) ∨ (G t).fp b k) ∧ ∀ c' : C, c'.free (C.kills r p) → c'.rf G → c'.rf (updG G r (C.putAt p (G r) d')) :=
  h.set1 r p p d d' d' rfl hfree hE hsub hS hok hl hrf hdf hfp

theorem cell_val {c : C} (h : c.cell) : c.val.oneCell' = true := by
  cases c with
  | agg => exact h.elim
  | tup => exact h.elim
  | dead => exact h
  | ref => exact h
  | adr => exact h
  | cut => exact h
  | _ => rfl
theorem like_dead (d : C) : C.Like d (.dead d.val) where
  val := rfl
  cell := fun h => cell_val h
  notup := fun _ => trivial
  solid := fun _ => trivial
  fits := fun _ _ => trivial

/-- A part is taken out of its place. -/
theorem take_out (h : Inv w zl zb G s) (r : Nat) (p : Path) (y : C) (hsub : (G r).sub p = some y) :
    ∃ (c : C) (G' : Nat → C), c.er = y.er.kill r p ∧ c.val = y.val ∧ Inv w zl zb G' (setLoc r p .dead s) ∧ c.ok w (Zf zl zb) ∧ c.rf G' ∧ (c.cell ↔ y.cell) ∧ (y.solid → c = y) ∧ (∀ t b k, c.fp b k → ¬ (G' t).fp b k) ∧ (∀ b k, c.fp b k → (G r).fp b k) ∧
      (∀ t, (G' t).val = (G t).val) ∧ (∀ t b k, (G' t).fp b k → (G t).fp b k) ∧ ∀ b k, c.fp b k ↔ y.fp b k := by
  have h1 := h.kill r p
  have hs1 : ((G r).cutOff (C.kills r p)).sub p = some (y.cutOff (C.kills r p)) := C.off_sub _ p _ _ (h.ok r) hsub
  have hyok := C.sub_ok p hsub (h.ok r)
  obtain ⟨⟨i1, i2, i3⟩, _⟩ := h1.set0 r p (y.cutOff (C.kills r p)) (.dead (y.cutOff (C.kills r p)).val) (S := fun _ _ => False) (fun t => C.off_free _ _) (Ext.refl _ _) hs1 (fun _ _ hf => hf.elim) trivial (like_dead _) trivial trivial (fun _ _ hf => hf.elim)
  have hrf0 : y.rf G := sub_rf p (h.ok r) hsub (h.rf r)
  refine ⟨y.cutOff (C.kills r p), _, C.kill_er r p y, C.off_val _ y, i1, C.off_ok _ _ hyok, ?_, ?_, fun hs => C.off_solid _ _ hs, ?_, ?_, fun t => (i2 t).trans (C.off_val _ _), fun t b k hf => ?_, fun b k => C.off_fp _ y b k⟩
  · refine C.rf_of (C.kills r p) (fun s' q z hk hs => ?_) _ (C.off_free _ _) (C.off_rf _ _ hrf0)
    by_cases e : s' = r
    · subst e
      rw [updG_same]
      rcases C.self z _ q hs with ⟨z', hz', hs'⟩ | hno
      · have hs2 := C.off_sub (C.kills s' p) q _ _ (h.ok s') hs'
        rcases C.sub_putAt p q _ (.dead (y.cutOff (C.kills s' p)).val) _ (by simpa [C.kills] using hk) hs2 with ⟨z'', hz'', hs''⟩ | hno
        · exact .inl ⟨z'', (hz'.off _).trans hz'', hs''⟩
        · exact (hno _ ((hz'.off _))).elim
      · exact .inr hno
    · rw [updG_other _ _ e]
      rcases C.self z _ q hs with ⟨z', hz', hs'⟩ | hno
      · exact .inl ⟨_, hz'.off _, C.off_sub _ q _ _ (h.ok s') hs'⟩
      · exact .inr hno
  · cases y with
    | ref v s q => simp only [C.cutOff]; cases C.kills r p s q <;> exact Iff.rfl
    | adr v s q i c => simp only [C.cutOff]; cases C.kills r p s q <;> exact Iff.rfl
    | cut v s q i c => simp only [C.cutOff]; cases C.kills r p s q <;> exact Iff.rfl
    | _ => exact Iff.rfl
  · intro t b k hf hf'
    rw [C.off_fp] at hf
    have hyr := C.sub_fp p hsub (h.ok r) hf
    have hG' : Inv w zl zb (updG (fun t => (G t).cutOff (C.kills r p)) r (C.putAt p ((G r).cutOff (C.kills r p)) (.dead (y.cutOff (C.kills r p)).val))) (setLoc r p .dead s) := i1
    by_cases e : t = r
    · subst e
      rw [updG_same] at hf'
      obtain ⟨_, j2, _⟩ := C.ok_put (fun _ _ _ h => h) (Ext.refl (fun _ _ => False) w) (fun m b k _ hs => hs) p ((G t).cutOff (C.kills t p)) _ (.dead (y.cutOff (C.kills t p)).val) (h1.ok t) hs1 trivial (like_dead _) (fun _ _ hs => hs.elim) (fun _ _ hs => hs.elim)
      rcases j2 b k hf' with hh | ⟨_, hn⟩
      · exact hh
      · exact hn (by rw [C.off_fp]; exact hf)
    · rw [updG_other _ _ e, C.off_fp] at hf'
      exact h.sep r t (fun e' => e e'.symm) b k hyr hf'
  · intro b k hf
    rw [C.off_fp] at hf
    exact C.sub_fp p hsub (h.ok r) hf
  · rcases i3 t b k hf with ⟨_, hh⟩ | hh
    · exact hh.elim
    · rwa [C.off_fp] at hh
where
  sub_rf : ∀ (p : Path) {c d : C}, c.ok w (Zf zl zb) → c.sub p = some d → c.rf G → d.rf G
    | [], c, d, _, h, hr => by simp only [C.sub] at h; injection h with h; subst h; exact hr
    | q :: p, c, d, ho, h, hr => by
      simp only [C.sub] at h
      cases hs : c.step q with
      | none => rw [hs] at h; cases h
      | some z =>
        rw [hs] at h
        refine sub_rf p (C.step_ok hs ho) h ?_
        cases c with
        | row m sz A len cap e =>
          simp only [C.step] at hs
          split at hs
          · rename_i hq
            injection hs with hs
            have := (ho.2.2.1 _ _ hq.1 hq.2).2.1
            rw [hs] at this
            cases z with
            | ref => exact this.elim
            | adr => exact this.elim
            | cut => exact this.elim
            | ptr => exact this.elim
            | agg => exact this.elim
            | tup => exact this.elim
            | fn => exact this.elim
            | _ => trivial
          · cases hs
        | ptr m g o n c =>
          simp only [C.step] at hs
          split at hs
          · rename_i hq
            injection hs with hs
            rw [← hs]
            exact hr _ hq.2
          · cases hs
        | agg n c =>
          simp only [C.step] at hs
          split at hs
          · rename_i hq
            injection hs with hs
            rw [← hs]
            exact hr _ hq.2
          · cases hs
        | tup n c =>
          simp only [C.step] at hs
          split at hs
          · rename_i hq
            injection hs with hs
            rw [← hs]
            exact hr _ hq.2
          · cases hs
        | _ => simp [C.step] at hs
end Inv
end M
set_option linter.unusedVariables false
set_option linter.unusedSimpArgs false
namespace M
open Go Go.RowKit

theorem Ext.setCell (w : World) (g k : Nat) (v : Value) : Ext (fun b i => b = g ∧ i = k) w (w.setCell ⟨g, k, none⟩ v) := by
  refine ⟨rfl, rfl, rfl, by simp [World.setCell], fun b hb => ?_⟩
  simp only [World.setCell, Array.getElem?_modify]
  by_cases e : g = b
  · subst e
    rw [if_pos rfl]
    cases hh : w.heap[g]? with
    | none => exact .inl rfl
    | some o =>
      cases o with
      | cells arr t fz =>
        refine .inr ⟨arr, arr.setIfInBounds k v, t, fz, rfl, ?_, by simp, fun i hi => ?_⟩
        · simp
        · rw [Array.getElem?_setIfInBounds_ne]
          intro e
          exact hi ⟨rfl, e.symm⟩
      | _ => exact .inl (by simp)
  · rw [if_neg e]
    exact .inl rfl
theorem cell_setCell (w : World) (g k : Nat) (v u : Value) (h : w.cell? ⟨g, k, none⟩ = some u) : (w.setCell ⟨g, k, none⟩ v).cell? ⟨g, k, none⟩ = some v := by
  simp only [World.cell?] at h ⊢
  simp only [World.setCell, Array.getElem?_modify, if_pos]
  cases hh : w.heap[g]? with
  | none => simp [hh] at h
  | some o =>
    cases o with
    | cells arr t fz =>
      simp [hh] at h ⊢
      have hk : k < arr.size := by
        rcases Nat.lt_or_ge k arr.size with h' | h'
        · exact h'
        · simp [Array.getElem?_eq_none h'] at h
      simp [hk]
    | _ => simp [hh] at h
theorem place_ne {sz i j i' j' : Nat} (hj : j < sz) (hj' : j' < sz) (h : i * sz + j = i' * sz + j') : i = i' ∧ j = j' := by
  have h1 : i = i' := by
    have e1 : (i * sz + j) / sz = i := by rw [Nat.mul_comm, Nat.mul_add_div (by omega), Nat.div_eq_of_lt hj]; rfl
    have e2 : (i' * sz + j') / sz = i' := by rw [Nat.mul_comm, Nat.mul_add_div (by omega), Nat.div_eq_of_lt hj']; rfl
    rw [← e1, ← e2, h]
  subst h1
  exact ⟨rfl, by omega⟩

theorem pfx_split : ∀ (p q : Path), X.pfx p q = true → ∃ t, q = p ++ t
  | [], q, _ => ⟨q, rfl⟩
  | x :: p, [], h => by simp [X.pfx] at h
  | x :: p, y :: q, h => by
    simp only [X.pfx, Bool.and_eq_true, beq_iff_eq] at h
    obtain ⟨⟨h1, h2⟩, h3⟩ := h
    obtain ⟨t, rfl⟩ := pfx_split p q h3
    exact ⟨t, by rw [List.cons_append]; congr 1; cases x; cases y; simp only at h1 h2; rw [h1, h2]⟩
namespace C
variable {w : World} {Z : Md → Nat → Nat → Prop}
theorem putAt_append : ∀ (p : Path) {c d o y : C} {x : Nat × Nat}, c.sub p = some d → d.step x = some o → putAt (p ++ [x]) c y = putAt p c (d.put1 x y)
  | [], c, d, o, y, x, h, hs => by
    simp only [sub] at h
    injection h with h
    subst h
    simp [putAt, hs]
  | q :: p, c, d, o, y, x, h, hs => by
    simp only [sub] at h
    cases hst : c.step q with
    | none => rw [hst] at h; cases h
    | some z =>
      rw [hst] at h
      simp only [List.cons_append, putAt, hst, putAt_append p h hs]
theorem sub_append : ∀ (p : Path) {c d o : C} {x : Nat × Nat}, c.sub p = some d → d.step x = some o → c.sub (p ++ [x]) = some o
  | [], c, d, o, x, h, hs => by
    simp only [sub] at h
    injection h with h
    subst h
    simp [sub, hs]
  | q :: p, c, d, o, x, h, hs => by
    simp only [sub] at h
    cases hst : c.step q with
    | none => rw [hst] at h; cases h
    | some z =>
      rw [hst] at h
      simp only [List.cons_append, sub, hst, Option.bind_some]
      exact sub_append p h hs

theorem sub_append2 : ∀ (p q : Path) {c d : C}, c.sub p = some d → c.sub (p ++ q) = d.sub q
  | [], q, c, d, h => by simp only [sub] at h; injection h with h; subst h; rfl
  | x :: p, q, c, d, h => by
    simp only [sub] at h
    cases hst : c.step x with
    | none => rw [hst] at h; cases h
    | some z =>
      rw [hst] at h
      simp only [List.cons_append, sub, hst, Option.bind_some]
      exact sub_append2 p q h
theorem step_put {c z : C} {x : Nat × Nat} (h : c.step x = some z) (y : C) : (c.put1 x y).step x = some y := by
  cases c with
  | row m sz A len cap e =>
    simp only [step] at h ⊢
    split at h
    · rename_i hq; simp [put1, step, hq]
    · cases h
  | ptr m g o n c =>
    simp only [step] at h ⊢
    split at h
    · rename_i hq; simp [put1, step, hq, upd]
    · cases h
  | agg n c =>
    simp only [step] at h ⊢
    split at h
    · rename_i hq; simp [put1, step, hq, upd]
    · cases h
  | tup n c =>
    simp only [step] at h ⊢
    split at h
    · rename_i hq; simp [put1, step, hq, upd]
    · cases h
  | _ => simp [step] at h
theorem sub_put_self : ∀ (p : Path) {c d d' : C}, c.sub p = some d → (putAt p c d').sub p = some d'
  | [], c, d, d', h => rfl
  | q :: p, c, d, d', h => by
    simp only [sub] at h
    cases hst : c.step q with
    | none => rw [hst] at h; cases h
    | some z =>
      rw [hst] at h
      simp only [putAt, hst, sub, step_put hst, Option.bind_some]
      exact sub_put_self p h
/-- A cell of a row of one's own is written. -/
theorem row_store {sz g o len cap : Nat} {e : Nat → Nat → C} {i j : Nat} {y : C} (h : (C.row .own sz (some (g, o, none)) len cap e).ok w Z) (hi : i < len) (hj : j < sz) (hy : y.ok w Z) (hc : y.cell) (hs : y.solid)
    (hZ : ∀ m k, ¬ Z m g k) (hd : ∀ b k, y.fp b k → ¬ (C.row .own sz (some (g, o, none)) len cap e).fp b k) :
    ((C.row .own sz (some (g, o, none)) len cap e).put1 (i, j) y).ok (w.setCell ⟨g, o + i * sz + j, none⟩ y.val) Z ∧
      ∀ b k, ((C.row .own sz (some (g, o, none)) len cap e).put1 (i, j) y).fp b k → (C.row .own sz (some (g, o, none)) len cap e).fp b k ∨ y.fp b k := by
  have hE := Ext.setCell w g (o + i * sz + j) y.val
  have hZS : ∀ m b k, Z m b k → ¬ (b = g ∧ k = o + i * sz + j) := fun m b k hz hh => by
    obtain ⟨rfl, _⟩ := hh
    exact hZ m k hz
  have hkid : ∀ i' j', i' < len → j' < sz → ∀ b k, (e i' j').fp b k → b ≠ g := fun i' j' hi' hj' b k hf hb => by
    subst hb
    exact (h.2.2.2.2 i' j' hi' hj' b k hf).1 rfl o rfl
  have hyg : ∀ b k, y.fp b k → b ≠ g := fun b k hf hb => by
    subst hb
    exact hd b k hf ⟨rfl, .inl ⟨o, rfl⟩⟩
  obtain ⟨h1, h2, h3, h4, h5⟩ := h
  refine ⟨⟨h1, fun i' j' hi' hj' => ?_, fun i' j' hi' hj' => ?_, fun _ => ?_, fun i' j' hi' hj' b k hf => ?_⟩, fun b k hf => ?_⟩
  · obtain ⟨g', o', hA, hcell, hz⟩ := h2 i' j' hi' hj'
    injection hA with hA
    injection hA with e1 e2
    injection e2 with e2
    subst e1; subst e2
    refine ⟨g, o, rfl, ?_, hz⟩
    show _ = some (if i' = i ∧ j' = j then y else e i' j').val
    by_cases hij : i' = i ∧ j' = j
    · obtain ⟨rfl, rfl⟩ := hij
      rw [if_pos ⟨rfl, rfl⟩]
      exact cell_setCell w g _ _ _ hcell
    · rw [if_neg hij]
      refine hE.cell (fun hh => hij ?_) hcell
      exact place_ne hj' hj (by omega)
  · show (if i' = i ∧ j' = j then y else e i' j').cell ∧ (if i' = i ∧ j' = j then y else e i' j').solid ∧ (if i' = i ∧ j' = j then y else e i' j').fits .own ∧ (if i' = i ∧ j' = j then y else e i' j').ok _ Z
    by_cases hij : i' = i ∧ j' = j
    · rw [if_pos hij]
      refine ⟨hc, hs, ?_, ok_ext hE hZS _ (fun b k hf hh => hyg b k hf hh.1) hy⟩
      cases y <;> first | trivial | exact .inl rfl
    · rw [if_neg hij]
      obtain ⟨a1, a2, a3, a4⟩ := h3 i' j' hi' hj'
      exact ⟨a1, a2, a3, ok_ext hE hZS _ (fun b k hf hh => hkid i' j' hi' hj' b k hf hh.1) a4⟩
  · rcases h4 rfl with h | ⟨g', o', arr, t, fz, hA, hh, hsz, hfr⟩
    · exact .inl h
    · injection hA with hA
      injection hA with e1 e2
      injection e2 with e2
      subst e1; subst e2
      have hg : g < w.heap.size := (Array.getElem?_eq_some_iff.1 hh).1
      rcases hE.block g hg with e' | ⟨a1, a2, t', fz', e1, e2, e3, e4⟩
      · exact .inr ⟨g, o, arr, t, fz, rfl, e'.trans hh, hsz, fun k hk hk' => (hE.frozen hg).trans (hfr k hk hk')⟩
      · rw [hh] at e1
        injection e1 with e1
        injection e1 with q1 q2 q3
        subst q1
        exact .inr ⟨g, o, a2, t', fz', rfl, e2, by omega, fun k hk hk' => (hE.frozen hg).trans (hfr k hk hk')⟩
  · have hf' : (if i' = i ∧ j' = j then y else e i' j').fp b k := hf
    by_cases hij : i' = i ∧ j' = j
    · rw [if_pos hij] at hf'
      refine ⟨fun _ o' hA => ?_, fun i2 j2 hi2 hj2 hne => ?_⟩
      · injection hA with hA
        injection hA with e1 e2
        exact hyg b k hf' e1.symm
      · show ¬ (if i2 = i ∧ j2 = j then y else e i2 j2).fp b k
        rw [if_neg (fun hh => hne (by rw [hij.1, hij.2, hh.1, hh.2]))]
        intro hk
        exact hd b k hf' (in_row (h3 i2 j2 hi2 hj2).1 (h3 i2 j2 hi2 hj2).2.2.1 hi2 hj2 hk)
    · rw [if_neg hij] at hf'
      refine ⟨(h5 i' j' hi' hj' b k hf').1, fun i2 j2 hi2 hj2 hne => ?_⟩
      show ¬ (if i2 = i ∧ j2 = j then y else e i2 j2).fp b k
      by_cases hij2 : i2 = i ∧ j2 = j
      · rw [if_pos hij2]
        intro hk
        exact hd b k hk (in_row (h3 i' j' hi' hj').1 (h3 i' j' hi' hj').2.2.1 hi' hj' hf')
      · rw [if_neg hij2]
        exact (h5 i' j' hi' hj' b k hf').2 i2 j2 hi2 hj2 hne
  · obtain ⟨_, hf | ⟨i', j', hi', hj', hf⟩⟩ := hf
    · exact .inl ⟨rfl, .inl hf⟩
    · have hf' : (if i' = i ∧ j' = j then y else e i' j').fp b k := hf
      by_cases hij : i' = i ∧ j' = j
      · rw [if_pos hij] at hf'; exact .inr hf'
      · rw [if_neg hij] at hf'
        exact .inl (in_row (h3 i' j' hi' hj').1 (h3 i' j' hi' hj').2.2.1 hi' hj' hf')

/-- A variable's cell is written. -/
theorem ptr_store {g o n : Nat} {c : Nat → C} {j : Nat} {y : C} (h : (C.ptr .own g o n c).ok w Z) (hj : j < n) (hy : y.ok w Z) (hc : y.cell)
    (hZ : ∀ m k, o ≤ k → k < o + n → ¬ Z m g k) (hd : ∀ b k, y.fp b k → ¬ (C.ptr .own g o n c).fp b k) :
    ((C.ptr .own g o n c).put1 (0, j) y).ok (w.setCell ⟨g, o + j, none⟩ y.val) Z ∧
      ∀ b k, ((C.ptr .own g o n c).put1 (0, j) y).fp b k → (C.ptr .own g o n c).fp b k ∨ y.fp b k := by
  have hE := Ext.setCell w g (o + j) y.val
  have hZS : ∀ m b k, Z m b k → ¬ (b = g ∧ k = o + j) := fun m b k hz hh => by
    obtain ⟨rfl, rfl⟩ := hh
    exact hZ m _ (by omega) (by omega) hz
  have hkid : ∀ j', j' < n → ∀ b k, (c j').fp b k → ¬ (b = g ∧ k = o + j) := fun j' hj' b k hf hb => by
    exact (h.2.2.2 j' hj' b k hf).1 rfl ⟨hb.1, by omega, by omega⟩
  have hyg : ∀ b k, y.fp b k → ¬ (b = g ∧ o ≤ k ∧ k < o + n) := fun b k hf hb => hd b k hf ⟨rfl, .inl hb⟩
  obtain ⟨h1, h2, h3, h4⟩ := h
  refine ⟨⟨fun j' hj' => ?_, Nat.lt_of_lt_of_le h2 hE.size, fun j' hj' => ?_, fun j' hj' b k hf => ?_⟩, fun b k hf => ?_⟩
  · obtain ⟨a1, a2, a3⟩ := h1 j' hj'
    refine ⟨?_, a2, fun hm => (hE.frozen h2).trans (a3 hm)⟩
    simp only [upd]
    by_cases hij : j' = j
    · subst hij
      rw [if_pos rfl]
      exact cell_setCell w g _ _ _ a1
    · rw [if_neg hij]
      exact hE.cell (fun hh => hij (by omega)) a1
  · simp only [upd]
    by_cases hij : j' = j
    · rw [if_pos hij]
      refine ⟨hc, ?_, ok_ext hE hZS _ (fun b k hf hh => hyg b k hf ⟨hh.1, by omega, by omega⟩) hy⟩
      cases y <;> first | trivial | exact .inl rfl
    · rw [if_neg hij]
      obtain ⟨a1, a3, a4⟩ := h3 j' hj'
      exact ⟨a1, a3, ok_ext hE hZS _ (fun b k hf hh => hkid j' hj' b k hf hh) a4⟩
  · simp only [upd] at hf ⊢
    by_cases hij : j' = j
    · rw [if_pos hij] at hf
      refine ⟨fun _ hA => hyg b k hf hA, fun j2 hj2 hne => ?_⟩
      rw [if_neg (fun hh => hne (by rw [hij, hh]))]
      intro hk
      exact hd b k hf (in_ptr (h3 j2 hj2).1 (h3 j2 hj2).2.1 hj2 hk)
    · rw [if_neg hij] at hf
      refine ⟨fun _ => (h4 j' hj' b k hf).1 rfl, fun j2 hj2 hne => ?_⟩
      by_cases hij2 : j2 = j
      · rw [if_pos hij2]
        intro hk
        exact hd b k hk (in_ptr (h3 j' hj').1 (h3 j' hj').2.1 hj' hf)
      · rw [if_neg hij2]
        exact (h4 j' hj' b k hf).2 j2 hj2 hne
  · obtain ⟨_, hf | ⟨j', hj', hf⟩⟩ := hf
    · exact .inl ⟨rfl, .inl hf⟩
    · simp only [upd] at hf
      by_cases hij : j' = j
      · rw [if_pos hij] at hf; exact .inr hf
      · rw [if_neg hij] at hf
        exact .inl (in_ptr (h3 j' hj').1 (h3 j' hj').2.1 hj' hf)
end C

/-- The address of cell c of element i of what lies at a place, where it may be written. -/
inductive Spot (d : C) (i c : Nat) (y : C) : Nat → Nat → Prop where
  | row {sz g o len cap e} (h : d = .row .own sz (some (g, o, none)) len cap e) (hi : i < len) (hc : c < sz) (hs : y.solid) : Spot d i c y g (o + i * sz + c)
  | ptr {g o n f} (h : d = .ptr .own g o n f) (hi : i = 0) (hc : c < n) : Spot d i c y g (o + c)

theorem Spot.off (f : Nat → Path → Bool) {d y : C} {i c g k : Nat} (h : Spot d i c y g k) : Spot (d.cutOff f) i c y g k := by
  cases h with
  | row h hi hc hs => subst h; exact .row rfl hi hc hs
  | ptr h hi hc => subst h; exact .ptr rfl hi hc
theorem Spot.put1 {d y y0 z : C} {i c g k i' c' g' k' : Nat} (h : Spot d i c y g k) (h' : Spot d i' c' y0 g' k') : Spot (d.put1 (i, c) z) i' c' y0 g' k' := by
  cases h' with
  | row h' hi' hc' hs' => subst h'; exact .row rfl hi' hc' hs'
  | ptr h' hi' hc' => subst h'; exact .ptr rfl hi' hc'

namespace Inv
variable {w w' : World} {zl zb : Nat → Nat → Prop} {G : Nat → C} {s : Slots}
/-- A cell is written. -/
theorem store (h : Inv w zl zb G s) (r : Nat) (p : Path) (i c : Nat) (d y : C) (g k : Nat) (hsub : (G r).sub p = some d) (hsp : Spot d i c y g k) (hy : y.ok w (Zf zl zb)) (hcell : y.cell) (hrf : y.rf G)
    (hsep : ∀ t b k, y.fp b k → ¬ (G t).fp b k) (hfz : ∀ b k, y.fp b k → ¬ zl b k ∧ ¬ zb b k) :
    ∃ G', Inv (w.setCell ⟨g, k, none⟩ y.val) zl zb G' (setCell r p i c y.er s) ∧ (∀ t, (G' t).val = (G t).val) ∧ (∀ t b k, (G' t).fp b k → y.fp b k ∨ (G t).fp b k) ∧ d.fp g k ∧ (∃ v, w.cell? ⟨g, k, none⟩ = some v) ∧ w.frozen? ⟨g, k, none⟩ = false ∧
      (∀ c' : C, c'.rf G → (bif oldRooted r p i c s then c'.cutOff (C.kills r (p ++ [(i, c)])) else c').rf G') ∧
      ∃ d', (G' r).sub p = some d' ∧ ∀ i' c' y' g' k', Spot d i' c' y' g' k' → Spot d' i' c' y' g' k' := by
  have hdok := C.sub_ok p hsub (h.ok r)
  -- the old cell
  obtain ⟨old, hold⟩ : ∃ old, d.step (i, c) = some old := by
    cases hsp with
    | row hd hi hc hs => subst hd; exact ⟨_, if_pos (And.intro hi hc)⟩
    | ptr hd hi hc => subst hd; exact ⟨_, if_pos (And.intro hi hc)⟩
  have hgk : d.fp g k := by
    cases hsp with
    | row hd hi hc hs => subst hd; exact ⟨rfl, .inl ⟨_, rfl⟩⟩
    | ptr hd hi hc => subst hd; exact ⟨rfl, .inl ⟨rfl, by omega, by omega⟩⟩
  have hdr : ∀ {b k}, d.fp b k → (G r).fp b k := fun hf => C.sub_fp p hsub (h.ok r) hf
  have hZd : ∀ m b k, d.fp b k → ¬ Zf zl zb m b k := fun m b k hf hz => h.zfp r m b k hz (hdr hf)
  have hyd : ∀ b k, y.fp b k → ¬ d.fp b k := fun b k hf hd => hsep r b k hf (hdr hd)
  have hnew : (d.put1 (i, c) y).ok (w.setCell ⟨g, k, none⟩ y.val) (Zf zl zb) ∧ ∀ b k, (d.put1 (i, c) y).fp b k → d.fp b k ∨ y.fp b k := by
    cases hsp with
    | row hd hi hc hs => subst hd; exact C.row_store hdok hi hc hy hcell hs (fun m k hz => hZd m _ k ⟨rfl, .inl ⟨_, rfl⟩⟩ hz) hyd
    | ptr hd hi hc => subst hd; subst hi; exact C.ptr_store hdok hc hy hcell (fun m k h1 h2 hz => hZd m _ k ⟨rfl, .inl ⟨rfl, h1, h2⟩⟩ hz) hyd
  have hread : (∃ v, w.cell? ⟨g, k, none⟩ = some v) ∧ w.frozen? ⟨g, k, none⟩ = false := by
    cases hsp with
    | row hd hi hc hs =>
      rename_i sz o len cap e
      subst hd
      obtain ⟨h1, h2, h3, h4, h5⟩ := hdok
      obtain ⟨g', o', hA, hcl, _⟩ := h2 i c hi hc
      injection hA with hA
      injection hA with e1 e2
      injection e2 with e2
      subst e1; subst e2
      refine ⟨⟨_, hcl⟩, ?_⟩
      rcases h4 rfl with ⟨hn, _⟩ | ⟨g', o', arr, t, fz, hA, hh, hsz, hfr⟩
      · cases hn
      · injection hA with hA
        injection hA with e1 e2
        injection e2 with e2
        subst e1; subst e2
        refine hfr _ (by omega) ?_
        have : (i + 1) * sz ≤ cap * sz := Nat.mul_le_mul_right _ (by omega)
        rw [Nat.add_mul] at this
        omega
    | ptr hd hi hc =>
      subst hd
      obtain ⟨a1, _, a3⟩ := hdok.1 c hc
      exact ⟨⟨_, a1⟩, a3 rfl⟩
  have hE := Ext.setCell w g k y.val
  have hS : ∀ b i', b = g ∧ i' = k → d.fp b i' ∨ w.heap.size ≤ b := fun b i' hh => .inl (by rw [hh.1, hh.2]; exact hgk)
  have hq := C.sub_append p hsub hold
  have hlook : look s r (p ++ [(i, c)]) = some old.er := by simp only [look]; rw [← h.er, C.sub_er, hq]; rfl
  have like : ∀ (d : C) (y : C), C.Like d (d.put1 (i, c) y) ∨ (∃ n f, d = .agg n f) ∨ (∃ n f, d = .tup n f) := by
    intro d y
    cases d with
    | row => exact .inl ⟨rfl, fun h => h, fun h => h, fun h => h, fun _ h => h⟩
    | ptr => exact .inl ⟨rfl, fun h => h, fun h => h, fun h => h, fun _ h => h⟩
    | agg n f => exact .inr (.inl ⟨n, f, rfl⟩)
    | tup n f => exact .inr (.inr ⟨n, f, rfl⟩)
    | _ => exact .inl ⟨rfl, fun h => h, fun h => h, fun h => h, fun _ h => h⟩
  have hlike : ∀ y, C.Like d (d.put1 (i, c) y) := by
    intro y
    rcases like d y with hl | ⟨n, f, hd⟩ | ⟨n, f, hd⟩
    · exact hl
    · cases hsp with
      | row hd' => rw [hd] at hd'; cases hd'
      | ptr hd' => rw [hd] at hd'; cases hd'
    · cases hsp with
      | row hd' => rw [hd] at hd'; cases hd'
      | ptr hd' => rw [hd] at hd'; cases hd'
  have hor : oldRooted r p i c s = old.er.rooted := by unfold oldRooted; rw [hlook]
  unfold setCell
  rw [hor]
  cases hr : old.er.rooted with
  | false =>
    -- nothing points below the old cell
    have hno : ∀ c' : C, c'.rf G → c'.free (C.kills r (p ++ [(i, c)])) := by
      intro c'
      have none : ∀ (q : Path) (z : C), X.pfx (p ++ [(i, c)]) q = true → (G r).sub q = some z → (∀ m sz A len cap e, z ≠ .row m sz A len cap e) ∧ ∀ m g o n f, z ≠ .ptr m g o n f := by
        intro q z hp hz
        obtain ⟨q', rfl⟩ := pfx_split _ _ hp
        rw [C.sub_append2 _ _ hq] at hz
        cases q' with
        | nil =>
          simp only [C.sub] at hz
          injection hz with hz
          subst hz
          constructor
          · intro m sz A len cap e e'; rw [e'] at hr; simp [C.er, X.rooted] at hr
          · intro m g o n f e'; rw [e'] at hr; simp [C.er, X.rooted] at hr
        | cons x q' =>
          cases old <;> first | (simp [C.er, X.rooted] at hr; done) | (simp [C.sub, C.step] at hz; done)
      induction c' with
      | ref v r' q =>
        intro hrf
        obtain ⟨y, z, hs, hF, hv, m, sz, A, len, cap, e, rfl⟩ := hrf
        simp only [C.free, C.kills]
        cases hk : (r' == r && X.pfx (p ++ [(i, c)]) q) with
        | false => rfl
        | true =>
          simp only [Bool.and_eq_true, beq_iff_eq] at hk
          obtain ⟨rfl, hk⟩ := hk
          cases hF
          exact ((none q _ hk hs).1 _ _ _ _ _ _ rfl).elim
      | adr v r' q i' c' =>
        intro hrf
        obtain ⟨y, hs, hy⟩ := hrf
        simp only [C.free, C.kills]
        cases hk : (r' == r && X.pfx (p ++ [(i, c)]) q) with
        | false => rfl
        | true =>
          simp only [Bool.and_eq_true, beq_iff_eq] at hk
          obtain ⟨rfl, hk⟩ := hk
          rcases hy with ⟨m, sz, g, o, len, cap, e, rfl, hv⟩ | ⟨m, g, o, n, cc, rfl, hv⟩
          · exact ((none q _ hk hs).1 _ _ _ _ _ _ rfl).elim
          · exact ((none q _ hk hs).2 _ _ _ _ _ rfl).elim
      | cut v r' q lo hi =>
        intro hrf
        obtain ⟨m, sz, A, len, cap, e, A', cap', hs, _⟩ := hrf
        simp only [C.free, C.kills]
        cases hk : (r' == r && X.pfx (p ++ [(i, c)]) q) with
        | false => rfl
        | true =>
          simp only [Bool.and_eq_true, beq_iff_eq] at hk
          obtain ⟨rfl, hk⟩ := hk
          exact ((none q _ hk hs).1 _ _ _ _ _ _ rfl).elim
      | ptr m g o n f ih => exact fun hrf j hj => ih j (hrf j hj)
      | agg n f ih => exact fun hrf j hj => ih j (hrf j hj)
      | tup n f ih => exact fun hrf j hj => ih j (hrf j hj)
      | fn _ n f ih => exact fun hrf j hj => ih j (hrf j hj)
      | _ => exact fun _ => trivial
    obtain ⟨⟨i1, i2, i3⟩, i4⟩ := h.set1 r p (p ++ [(i, c)]) d (d.put1 (i, c) y) y (C.putAt_append p hsub hold) (fun t => hno _ (h.rf t)) hE hsub hS hnew.1 (hlike y) hrf (hno _ hrf)
      (fun b k hf => (hnew.2 b k hf).imp id fun hf => ⟨fun t => hsep t b k hf, hfz b k hf⟩)
    refine ⟨_, i1, i2, fun t b k hf => ?_, hgk, hread.1, hread.2, fun c' hr => i4 c' (hno c' hr) hr, _, by rw [updG_same]; exact C.sub_put_self p hsub, fun i' c' y' g' k' hs => Spot.put1 hsp hs⟩
    rcases i3 t b k hf with ⟨ht, hf'⟩ | hf'
    · subst ht; exact (hnew.2 b k hf').symm.imp id hdr
    · exact .inr hf'
  | true =>
    have h1 := h.kill r (p ++ [(i, c)])
    let f := C.kills r (p ++ [(i, c)])
    have hsub1 : ((G r).cutOff f).sub p = some (d.cutOff f) := C.off_sub f p _ _ (h.ok r) hsub
    have hold1 : (d.cutOff f).step (i, c) = some (old.cutOff f) := by
      have := C.off_sub f [(i, c)] d old hdok (by simp [C.sub, hold])
      simpa [C.sub] using this
    have hval : ∀ b k, (y.cutOff f).fp b k ↔ y.fp b k := fun b k => C.off_fp f y b k
    have hnew1 : ((d.cutOff f).put1 (i, c) (y.cutOff f)).ok (w.setCell ⟨g, k, none⟩ y.val) (Zf zl zb) ∧ ∀ b k, ((d.cutOff f).put1 (i, c) (y.cutOff f)).fp b k → (d.cutOff f).fp b k ∨ (y.cutOff f).fp b k := by
      have hyd1 : ∀ b k, (y.cutOff f).fp b k → ¬ (d.cutOff f).fp b k := fun b k hf hd => hyd b k ((hval b k).1 hf) ((C.off_fp f d b k).1 hd)
      have hdok1 := C.off_ok f d hdok
      have hy1 := C.off_ok f y hy
      have hc1 := C.off_cell f y hcell
      rw [← C.off_val f y]
      cases hsp with
      | row hd hi hc hs =>
        subst hd
        have e1 : C.cutOff f y = y := C.off_solid f y hs
        exact C.row_store hdok1 hi hc hy1 hc1 (by rw [e1]; exact hs) (fun m k hz => hZd m _ k ⟨rfl, .inl ⟨_, rfl⟩⟩ hz) hyd1
      | ptr hd hi hc =>
        subst hd; subst hi
        exact C.ptr_store hdok1 hc hy1 hc1 (fun m k h1 h2 hz => hZd m _ k ⟨rfl, .inl ⟨rfl, h1, h2⟩⟩ hz) hyd1
    have hlike1 : C.Like (d.cutOff f) ((d.cutOff f).put1 (i, c) (y.cutOff f)) := by
      rcases like (d.cutOff f) (y.cutOff f) with hl | ⟨n, f', hd⟩ | ⟨n, f', hd⟩
      · exact hl
      · cases hsp with
        | row hd' => rw [hd'] at hd; cases hd
        | ptr hd' => rw [hd'] at hd; cases hd
      · cases hsp with
        | row hd' => rw [hd'] at hd; cases hd
        | ptr hd' => rw [hd'] at hd; cases hd
    have hrf1 : (y.cutOff f).rf fun t => (G t).cutOff f := C.rf_of f (fun s' q z hk hs => by
      rcases C.self z _ q hs with ⟨z', hz', hs'⟩ | hno
      · exact .inl ⟨_, hz'.off f, C.off_sub f q _ _ (h.ok s') hs'⟩
      · exact .inr hno) _ (C.off_free f _) (C.off_rf f _ hrf)
    obtain ⟨⟨i1, i2, i3⟩, i4⟩ := h1.set1 r p (p ++ [(i, c)]) (d.cutOff f) _ (y.cutOff f) (C.putAt_append p hsub1 hold1) (fun t => C.off_free _ _) hE hsub1 (fun b k hh => (hS b k hh).imp (fun hh => (C.off_fp f d b k).2 hh) id) hnew1.1 hlike1 hrf1 (C.off_free _ _)
      (fun b k hf => (hnew1.2 b k hf).imp id fun hf => ⟨fun t hf' => hsep t b k ((hval b k).1 hf) ((C.off_fp f _ b k).1 hf'), hfz b k ((hval b k).1 hf)⟩)
    rw [C.kill_er] at i1
    refine ⟨_, i1, fun t => (i2 t).trans (C.off_val f _), fun t b k hf => ?_, hgk, hread.1, hread.2, fun c' hr => i4 _ (C.off_free f c') (C.rf_of f (fun s' q z hk hs => by
      rcases C.self z _ q hs with ⟨z', hz', hs'⟩ | hno
      · exact .inl ⟨_, hz'.off f, C.off_sub f q _ _ (h.ok s') hs'⟩
      · exact .inr hno) _ (C.off_free f _) (C.off_rf f _ hr)), _, by rw [updG_same]; exact C.sub_put_self p hsub1, fun i' c' y' g' k' hs => Spot.put1 (Spot.off f hsp) (Spot.off f hs)⟩
    rcases i3 t b k hf with ⟨ht, hf'⟩ | hf'
    · subst ht
      rcases hnew1.2 b k hf' with hf' | hf'
      · exact .inr (hdr ((C.off_fp f d b k).1 hf'))
      · exact .inl ((hval b k).1 hf')
    · exact .inr ((C.off_fp f _ b k).1 hf')
end Inv
end M
set_option linter.unusedVariables false
set_option linter.unusedSimpArgs false
namespace M
open Go Go.RowKit

/-- What is known while one function runs. -/
structure Ctx where
  w0 : World
  F0 : Nat → Nat → Prop
  zl0 : Nat → Nat → Prop
  zb : Nat → Nat → Prop
  nt : Nat
  args : List Value
abbrev base : Nat := 100000
structure Tr [B : Bs] (c : Ctx) (w : World) (zl : Nat → Nat → Prop) (G : Nat → C) : Prop where
  ext : Ext c.F0 c.w0 w
  dom : ∀ t b k, (G t).fp b k → c.F0 b k ∨ c.w0.heap.size ≤ b
  zl0 : ∀ b k, c.zl0 b k → zl b k
  zl : ∀ b k, zl b k → c.zl0 b k ∨ c.F0 b k ∨ c.w0.heap.size ≤ b
  gl : Glob c.w0 c.zl0 c.zb
  glF : ∀ b k, b < B.W0.heap.size → ¬ c.F0 b k
structure St [Bs] (c : Ctx) (G : Nat → C) (zl : Nat → Nat → Prop) (s : Slots) (a : Act) (w : World) : Prop where
  inv : Inv w zl c.zb G s
  val : ∀ t, t < base → (G t).val = a.tmps.getD t undef
  size : a.tmps.size = c.nt
  small : c.nt ≤ base
  defers : a.defers = []
  tr : Tr c w zl G
  args : ∀ i v, c.args[i]? = some v → (G (base + i)).val = v

namespace C
/-- A value seen from elsewhere. -/
def alias1 (n : Nat) (p : Path) : C → C
  | .row .own sz A len cap e => .ref (C.row .own sz A len cap e).val n p
  | .ptr .own g o m c => .adr (C.ptr .own g o m c).val n p 0 0
  | x => x
def alias2 (n : Nat) (p : Path) : C → C
  | .agg m c => .agg m fun j => (c j).alias1 n (p ++ [(0, j)])
  | x => x.alias1 n p
def alias (n : Nat) (p : Path) : C → C
  | .tup m c => .tup m fun j => (c j).alias2 n (p ++ [(0, j)])
  | x => x.alias2 n p
theorem alias1_er (n : Nat) (p : Path) (c : C) : (c.alias1 n p).er = M.alias1 n p c.er := by
  cases c with
  | row m => cases m <;> rfl
  | ptr m => cases m <;> rfl
  | _ => rfl
theorem aliasL_er (n : Nat) (p : Path) (i : Nat) : ∀ (l : List Nat) (k : Nat) (f : Nat → C), l = (List.range l.length).map (· + k) → M.aliasL n p i k (l.map fun j => (f j).er) = l.map fun j => ((f j).alias1 n (p ++ [(i, j)])).er
  | [], k, f, h => rfl
  | x :: l, k, f, h => by
    have hx : x = k := by
      simp only [List.length_cons, List.range_succ_eq_map, List.map_cons, Nat.zero_add] at h
      exact (List.cons.inj h).1
    have hl : l = (List.range l.length).map (· + (k + 1)) := by
      simp only [List.length_cons, List.range_succ_eq_map, List.map_cons, Nat.zero_add, List.map_map] at h
      have := (List.cons.inj h).2
      rw [this]
      simp only [List.length_map, List.length_range]
      apply List.map_congr_left
      intro j _
      show j + 1 + k = j + (k + 1)
      omega
    simp only [List.map_cons, M.aliasL]
    rw [aliasL_er n p i l (k + 1) f hl, alias1_er, hx]
theorem range_self (m : Nat) : List.range m = (List.range (List.range m).length).map (· + 0) := by simp
theorem alias2_er (n : Nat) (p : Path) (c : C) : (c.alias2 n p).er = M.alias2 n p c.er := by
  cases c with
  | agg m c =>
    simp only [alias2, er, M.alias2]
    rw [aliasL_er n p 0 (List.range m) 0 c (range_self m)]
  | row m => exact alias1_er n p _
  | ptr m => exact alias1_er n p _
  | _ => rfl
theorem aliasT_er (n : Nat) (p : Path) : ∀ (l : List Nat) (k : Nat) (f : Nat → C), l = (List.range l.length).map (· + k) → M.aliasT n p k (l.map fun j => (f j).er) = l.map fun j => ((f j).alias2 n (p ++ [(0, j)])).er
  | [], k, f, h => rfl
  | x :: l, k, f, h => by
    have hx : x = k := by
      simp only [List.length_cons, List.range_succ_eq_map, List.map_cons, Nat.zero_add] at h
      exact (List.cons.inj h).1
    have hl : l = (List.range l.length).map (· + (k + 1)) := by
      simp only [List.length_cons, List.range_succ_eq_map, List.map_cons, Nat.zero_add, List.map_map] at h
      have := (List.cons.inj h).2
      rw [this]
      simp only [List.length_map, List.length_range]
      apply List.map_congr_left
      intro j _
      show j + 1 + k = j + (k + 1)
      omega
    simp only [List.map_cons, M.aliasT]
    rw [aliasT_er n p l (k + 1) f hl, alias2_er, hx]
theorem alias_er (n : Nat) (p : Path) (c : C) : (c.alias n p).er = M.alias n p c.er := by
  cases c with
  | tup m c =>
    simp only [alias, er, M.alias]
    rw [aliasT_er n p (List.range m) 0 c (range_self m)]
  | row m sz A len cap e => exact alias2_er n p (.row m sz A len cap e)
  | ptr m g o k c => exact alias2_er n p (.ptr m g o k c)
  | agg m c => exact alias2_er n p (.agg m c)
  | _ => rfl
theorem alias1_val (n : Nat) (p : Path) (c : C) : (c.alias1 n p).val = c.val := by
  cases c with
  | row m => cases m <;> rfl
  | ptr m => cases m <;> rfl
  | _ => rfl
theorem alias2_val (n : Nat) (p : Path) (c : C) : (c.alias2 n p).val = c.val := by
  cases c with
  | agg m c => simp only [alias2, val]; congr 2; exact List.map_congr_left fun j _ => alias1_val _ _ _
  | row m => exact alias1_val n p _
  | ptr m => exact alias1_val n p _
  | _ => rfl
theorem alias_val (n : Nat) (p : Path) (c : C) : (c.alias n p).val = c.val := by
  cases c with
  | tup m c => simp only [alias, val]; congr 2; exact List.map_congr_left fun j _ => alias2_val _ _ _
  | row m sz A len cap e => exact alias2_val n p (.row m sz A len cap e)
  | ptr m g o k c => exact alias2_val n p (.ptr m g o k c)
  | agg m c => exact alias2_val n p (.agg m c)
  | _ => rfl
variable {w : World} {Z : Md → Nat → Nat → Prop} {G : Nat → C}
theorem alias1_fp (n : Nat) (p : Path) (c : C) (hc : (∀ m f, c ≠ .agg m f) ∧ ∀ m f, c ≠ .tup m f) (b k : Nat) : ¬ (c.alias1 n p).fp b k := by
  cases c with
  | row m => cases m <;> first | exact fun h => h | exact fun h => by cases h.1
  | ptr m => cases m <;> first | exact fun h => h | exact fun h => by cases h.1
  | agg m f => exact (hc.1 m f rfl).elim
  | tup m f => exact (hc.2 m f rfl).elim
  | _ => exact fun h => h
theorem cell_not {c : C} (h : c.cell) : (∀ m f, c ≠ .agg m f) ∧ ∀ m f, c ≠ .tup m f := by
  constructor <;> (intro m f e; subst e; exact h)
theorem alias1_ok (n : Nat) (p : Path) (c : C) (h : c.ok w Z) : (c.alias1 n p).ok w Z := by
  cases c with
  | row m => cases m <;> first | trivial | exact h
  | ptr m => cases m <;> first | trivial | exact h
  | _ => exact h
theorem alias1_cell (n : Nat) (p : Path) (c : C) (h : c.cell) : (c.alias1 n p).cell := by
  cases c with
  | row m => cases m <;> first | rfl | exact h
  | ptr m => cases m <;> first | rfl | exact h
  | _ => exact h
theorem alias1_rf (n : Nat) (p : Path) (c : C) (hs : (G n).sub p = some c) (h : c.rf G) : (c.alias1 n p).rf G := by
  cases c with
  | row m sz A len cap e => cases m <;> first | exact ⟨_, _, hs, .row .own .own sz A len cap e e, rfl, _, _, _, _, _, _, rfl⟩ | trivial
  | ptr m g o k c => cases m <;> first | exact ⟨_, hs, .inr ⟨_, _, _, _, _, rfl, rfl, by simp [val]⟩⟩ | exact h
  | _ => exact h
theorem no_fp_of {n : Nat} {f : Nat → C} (h : ∀ j, j < n → ∀ b k, ¬ (f j).fp b k) : ∀ j, j < n → ∀ b k, (f j).fp b k → ∀ j', j' < n → j ≠ j' → ¬ (f j').fp b k := fun j hj b k hf => (h j hj b k hf).elim
theorem alias2_all (n : Nat) (p : Path) (c : C) (hnt : ∀ m f, c ≠ .tup m f) (hs : (G n).sub p = some c) (ho : c.ok w Z) (hr : c.rf G) : (c.alias2 n p).ok w Z ∧ (c.alias2 n p).rf G ∧ ∀ b k, ¬ (c.alias2 n p).fp b k := by
  cases c with
  | agg m f =>
    have hfp : ∀ j, j < m → ∀ b k, ¬ ((f j).alias1 n (p ++ [(0, j)])).fp b k := fun j hj => alias1_fp _ _ _ (cell_not (ho.1 j hj).1)
    refine ⟨⟨fun j hj => ⟨alias1_cell _ _ _ (ho.1 j hj).1, alias1_ok _ _ _ (ho.1 j hj).2⟩, no_fp_of hfp⟩, fun j hj => alias1_rf _ _ _ ?_ (hr j hj), fun b k ⟨j, hj, hf⟩ => hfp j hj b k hf⟩
    exact sub_append p hs (by simp [step, hj])
  | tup m f => exact (hnt m f rfl).elim
  | row m sz A len cap e => exact ⟨alias1_ok n p _ ho, alias1_rf n p _ hs hr, alias1_fp n p _ ⟨fun _ _ e => (by cases e), fun _ _ e => (by cases e)⟩⟩
  | ptr m g o k c => exact ⟨alias1_ok n p _ ho, alias1_rf n p _ hs hr, alias1_fp n p _ ⟨fun _ _ e => (by cases e), fun _ _ e => (by cases e)⟩⟩
  | _ => exact ⟨ho, hr, fun b k hf => hf⟩
theorem alias2_notup (n : Nat) (p : Path) (c : C) (h : c.notup) : (c.alias2 n p).notup := by
  cases c with
  | tup => exact h.elim
  | row m => cases m <;> trivial
  | ptr m => cases m <;> trivial
  | _ => trivial
theorem alias_all (n : Nat) (c : C) (hs : G n = c) (ho : c.ok w Z) (hr : c.rf G) : (c.alias n []).ok w Z ∧ (c.alias n []).rf G ∧ ∀ b k, ¬ (c.alias n []).fp b k := by
  have hs' : (G n).sub [] = some c := by rw [hs]; rfl
  cases c with
  | tup m f =>
    have key : ∀ j, j < m → ((f j).alias2 n ([] ++ [(0, j)])).ok w Z ∧ ((f j).alias2 n ([] ++ [(0, j)])).rf G ∧ ∀ b k, ¬ ((f j).alias2 n ([] ++ [(0, j)])).fp b k := fun j hj =>
      alias2_all n _ (f j) (fun m' f' e => by have := (ho.1 j hj).1; rw [e] at this; exact this) (sub_append [] hs' (by simp [step, hj])) (ho.1 j hj).2 (hr j hj)
    refine ⟨⟨fun j hj => ⟨?_, (key j hj).1⟩, no_fp_of fun j hj => (key j hj).2.2⟩, fun j hj => (key j hj).2.1, fun b k ⟨j, hj, hf⟩ => (key j hj).2.2 b k hf⟩
    exact alias2_notup _ _ _ (ho.1 j hj).1
  | row m sz A len cap e => exact alias2_all n [] _ (fun _ _ e => (by cases e)) hs' ho hr
  | ptr m g o k c => exact alias2_all n [] _ (fun _ _ e => (by cases e)) hs' ho hr
  | agg m c => exact alias2_all n [] _ (fun _ _ e => (by cases e)) hs' ho hr
  | _ => exact ⟨ho, hr, fun b k hf => hf⟩
end C


end M
set_option linter.unusedVariables false
set_option linter.unusedSimpArgs false
namespace M
open Go Go.RowKit
variable [Bs]

namespace C
/-- A number, a bool, a text, a row, or nothing known. -/
def plain : C → Prop
  | .dead v => v.oneCell' = true
  | .int _ _ => True
  | .bool _ => True
  | .str _ => True
  | .row _ _ _ _ _ _ => True
  | _ => False
theorem plain_cell {c : C} (h : c.plain) : c.cell := by cases c <;> first | exact h | exact h.elim
theorem plain_solid {c : C} (h : c.plain) : c.solid := by cases c <;> first | exact h | exact h.elim | trivial
theorem plain_rf {c : C} (h : c.plain) (G : Nat → C) : c.rf G := by cases c <;> first | exact h.elim | trivial
theorem plain_off {c : C} (h : c.plain) (t : Nat → Path → Bool) : c.cutOff t = c := off_solid t c (plain_solid h)

theorem off_ref_step (t : Nat → Path → Bool) (v : Value) (s : Nat) (q : Path) (x : Nat × Nat) : (C.cutOff t (.ref v s q)).step x = none := by simp only [cutOff]; cases t s q <;> rfl
theorem off_adr_step (t : Nat → Path → Bool) (v : Value) (s : Nat) (q : Path) (i c : Nat) (x : Nat × Nat) : (C.cutOff t (.adr v s q i c)).step x = none := by simp only [cutOff]; cases t s q <;> rfl
theorem off_cut_step (t : Nat → Path → Bool) (v : Value) (s : Nat) (q : Path) (i c : Nat) (x : Nat × Nat) : (C.cutOff t (.cut v s q i c)).step x = none := by simp only [cutOff]; cases t s q <;> rfl
theorem step_put1 {c z : C} {x : Nat × Nat} (h : c.step x = some z) (y : C) : (c.put1 x y).step x = some y := by
  cases c with
  | row m sz A len cap e =>
    simp only [step] at h ⊢
    split at h
    · rename_i hq; simp [put1, step, hq]
    · cases h
  | ptr m g o n c =>
    simp only [step] at h ⊢
    split at h
    · rename_i hq; simp [put1, step, hq, upd]
    · cases h
  | agg n c =>
    simp only [step] at h ⊢
    split at h
    · rename_i hq; simp [put1, step, hq, upd]
    · cases h
  | tup n c =>
    simp only [step] at h ⊢
    split at h
    · rename_i hq; simp [put1, step, hq, upd]
    · cases h
  | _ => simp [step] at h
/-- Where a part was taken out, the values are as they were. -/
theorem sub_dead : ∀ (p q : Path) (c d y : C), c.sub p = some d → (putAt p c (.dead d.val)).sub q = some y → ∃ y', c.sub q = some y' ∧ y'.val = y.val ∧ (y'.plain → y.plain)
  | [], [], c, d, y, h, hy => by
    simp only [sub] at h
    injection h with h
    subst h
    simp only [putAt, sub] at hy
    injection hy with hy
    subst hy
    exact ⟨_, rfl, rfl, fun hp => Inv.cell_val (plain_cell hp)⟩
  | [], q :: t, c, d, y, h, hy => by simp [putAt, sub, step] at hy
  | x :: p, [], c, d, y, h, hy => by
    simp only [sub] at h
    cases hst : c.step x with
    | none => rw [hst] at h; cases h
    | some z =>
      rw [hst] at h
      simp only [putAt, hst, sub] at hy
      injection hy with hy
      subst hy
      have hv := (ok_val p z d h)
      exact ⟨c, rfl, ((Like.put1 c x z _ hst hv).val).symm, fun hp => by cases c <;> first | exact hp.elim | trivial | (simp [step] at hst)⟩
  | x :: p, q :: t, c, d, y, h, hy => by
    simp only [sub] at h
    cases hst : c.step x with
    | none => rw [hst] at h; cases h
    | some z =>
      rw [hst] at h
      simp only [putAt, hst] at hy
      simp only [sub] at hy ⊢
      by_cases hxq : x = q
      · subst hxq
        rw [hst]
        have hs : (c.put1 x (putAt p z (.dead d.val))).step x = some (putAt p z (.dead d.val)) := step_put1 hst _
        rw [hs] at hy
        exact sub_dead p t z d y h hy
      · have hs : (c.put1 x (putAt p z (.dead d.val))).step q = c.step q := by
          cases c with
          | row m sz A len cap e =>
            simp only [step, put1]
            split
            · rw [if_neg]
              intro hh
              exact hxq (by cases x; cases q; simp only at hh; rw [hh.1, hh.2])
            · rfl
          | ptr m g o n c =>
            simp only [step] at hst
            split at hst
            · rename_i hx
              simp only [step, put1, upd]
              split
              · rename_i hq
                rw [if_neg]
                intro hh
                exact hxq (by cases x; cases q; simp only at hh hx hq; rw [hh, hx.1, hq.1])
              · rfl
            · cases hst
          | agg n c =>
            simp only [step] at hst
            split at hst
            · rename_i hx
              simp only [step, put1, upd]
              split
              · rename_i hq
                rw [if_neg]
                intro hh
                exact hxq (by cases x; cases q; simp only at hh hx hq; rw [hh, hx.1, hq.1])
              · rfl
            · cases hst
          | tup n c =>
            simp only [step] at hst
            split at hst
            · rename_i hx
              simp only [step, put1, upd]
              split
              · rename_i hq
                rw [if_neg]
                intro hh
                exact hxq (by cases x; cases q; simp only at hh hx hq; rw [hh, hx.1, hq.1])
              · rfl
            · cases hst
          | _ => simp [step] at hst
        rw [hs] at hy
        cases hq : c.step q with
        | none => rw [hq] at hy; cases hy
        | some z' => rw [hq] at hy; exact ⟨y, hy, rfl, fun hp => hp⟩
where
  ok_val : ∀ (p : Path) (z d : C), z.sub p = some d → (putAt p z (.dead d.val)).val = z.val
    | [], z, d, h => by simp only [sub] at h; injection h with h; subst h; rfl
    | x :: p, z, d, h => by
      simp only [sub] at h
      cases hst : z.step x with
      | none => rw [hst] at h; cases h
      | some z' =>
        rw [hst] at h
        simp only [putAt, hst]
        exact (Like.put1 z x z' _ hst (ok_val p z' d h)).val
end C

/-- Something was taken out: c in hand, the slots told by G'. -/
structure Took (w : World) (zl zb : Nat → Nat → Prop) (G : Nat → C) (c : C) (G' : Nat → C) (s' : Slots) : Prop where
  inv : Inv w zl zb G' s'
  ok : c.ok w (Zf zl zb)
  rf : c.rf G'
  sep : ∀ t b k, c.fp b k → ¬ (G' t).fp b k
  fz : ∀ b k, c.fp b k → ¬ zl b k ∧ ¬ zb b k
  val : ∀ t, (G' t).val = (G t).val
  dom : ∀ b k, c.fp b k → ∃ t, (G t).fp b k
  mono : ∀ t b k, (G' t).fp b k → (G t).fp b k

variable {w : World} {zl zb : Nat → Nat → Prop} {G : Nat → C} {s : Slots}
theorem Took.self (h : Inv w zl zb G s) {c : C} (ho : c.ok w (Zf zl zb)) (hr : c.rf G) (hn : ∀ b k, ¬ c.fp b k) : Took w zl zb G c G s :=
  ⟨h, ho, hr, fun t b k hf => (hn b k hf).elim, fun b k hf => (hn b k hf).elim, fun _ => rfl, fun b k hf => (hn b k hf).elim, fun _ _ _ hf => hf⟩

/-- The value of what is pointed at: as long as something lies there. -/
def weak (G : Nat → C) (v : Value) (r : Nat) (p : Path) : Prop := ∀ y, (G r).sub p = some y → y.val = v ∧ y.plain
theorem weak_of {v : Value} {r : Nat} {p : Path} (h : (C.ref v r p).rf G) : weak G v r p := by
  obtain ⟨y, z, hs, hF, hv, m, sz, A, len, cap, e, rfl⟩ := h
  intro y' hy'
  rw [hs] at hy'
  injection hy' with hy'
  subst hy'
  cases hF
  exact ⟨hv, trivial⟩

theorem move_took (h : Inv w zl zb G s) {v : Value} {r : Nat} {p : Path} (hw : weak G v r p) (hv : v.oneCell' = true) :
    ∃ c G', c.er = (move r p s).1 ∧ c.val = v ∧ c.plain ∧ Took w zl zb G c G' (move r p s).2 ∧ ∀ v' r' p', weak G v' r' p' → weak G' v' r' p' := by
  unfold move look
  rw [← h.er, C.sub_er]
  cases hs : (G r).sub p with
  | none => exact ⟨.dead v, G, rfl, rfl, hv, Took.self h trivial trivial (fun _ _ hf => hf), fun _ _ _ hh => hh⟩
  | some y =>
    obtain ⟨hyv, hyp⟩ := hw y hs
    have h1 := h.kill r p
    have hs1 : ((G r).cutOff (C.kills r p)).sub p = some (y.cutOff (C.kills r p)) := C.off_sub _ p _ _ (h.ok r) hs
    rw [C.plain_off hyp] at hs1
    have hyok := C.sub_ok p hs (h.ok r)
    obtain ⟨⟨i1, i2, i3⟩, _⟩ := h1.set0 r p y (.dead y.val) (S := fun _ _ => False) (fun t => C.off_free _ _) (Ext.refl _ _) hs1 (fun _ _ hf => hf.elim) trivial (Inv.like_dead _) trivial trivial (fun _ _ hf => hf.elim)
    refine ⟨y, _, ?_, hyv, hyp, ⟨i1, hyok, C.plain_rf hyp _, ?_, fun b k hf => h.fz r b k (C.sub_fp p hs (h.ok r) hf), fun t => (i2 t).trans (C.off_val _ _), fun b k hf => ⟨r, C.sub_fp p hs (h.ok r) hf⟩, fun t b k hf => ?_⟩, fun v' r' p' hw' y' hy' => ?_⟩
    · show y.er = y.er.kill r p
      rw [← C.kill_er, C.plain_off hyp]
    · intro t b k hf hf'
      have hyr := C.sub_fp p hs (h.ok r) hf
      by_cases e : t = r
      · subst e
        rw [updG_same] at hf'
        obtain ⟨_, j2, _⟩ := C.ok_put (fun _ _ _ h => h) (Ext.refl (fun _ _ => False) w) (fun m b k _ hs => hs) p ((G t).cutOff (C.kills t p)) y (.dead y.val) (h1.ok t) hs1 trivial (Inv.like_dead _) (fun _ _ hs => hs.elim) (fun _ _ hs => hs.elim)
        rcases j2 b k hf' with hh | ⟨_, hn⟩
        · exact hh
        · exact hn hf
      · rw [updG_other _ _ e, C.off_fp] at hf'
        exact h.sep r t (fun e' => e e'.symm) b k hyr hf'
    · rcases i3 t b k hf with ⟨_, hh⟩ | hh
      · exact hh.elim
      · rwa [C.off_fp] at hh
    · by_cases e : r' = r
      · subst e
        rw [updG_same] at hy'
        obtain ⟨y1, a1, a2, a3⟩ := C.sub_dead p p' _ _ _ hs1 hy'
        obtain ⟨y2, b1, b2, b3⟩ := off_back (C.kills r' p) p' _ (h.ok r') a1
        obtain ⟨c1, c2⟩ := hw' y2 b1
        exact ⟨by rw [← a2, ← b2, c1], a3 (b3 c2)⟩
      · rw [updG_other _ _ e] at hy'
        obtain ⟨y2, b1, b2, b3⟩ := off_back (C.kills r p) p' _ (h.ok r') hy'
        obtain ⟨c1, c2⟩ := hw' y2 b1
        exact ⟨by rw [← b2, c1], b3 c2⟩
where
  off_back (t : Nat → Path → Bool) : ∀ (q : Path) (c : C) {y : C}, c.ok w (Zf zl zb) → (c.cutOff t).sub q = some y → ∃ y', c.sub q = some y' ∧ y'.val = y.val ∧ (y'.plain → y.plain) := by
    intro q c y ho hy
    cases hc : c.sub q with
    | some y' =>
      have := C.off_sub t q c y' ho hc
      rw [hy] at this
      injection this with this
      subst this
      exact ⟨y', rfl, (C.off_val _ _).symm, fun hp => by rw [C.plain_off hp]; exact hp⟩
    | none =>
      exfalso
      induction q generalizing c with
      | nil => simp [C.sub] at hc
      | cons x q ih =>
        simp only [C.sub] at hc hy
        have hstep : ∀ z, (c.cutOff t).step x = some z → ∃ z', c.step x = some z' ∧ z'.cutOff t = z := by
          intro z hz
          cases c with
          | row m sz A len cap e =>
            simp only [C.cutOff, C.step] at hz ⊢
            split at hz
            · rename_i hq
              injection hz with hz
              rw [if_pos hq]
              exact ⟨_, rfl, by rw [← hz]; exact C.off_solid t _ (ho.2.2.1 _ _ hq.1 hq.2).2.1⟩
            · cases hz
          | ptr m g o n c =>
            simp only [C.cutOff, C.step] at hz ⊢
            split at hz
            · rename_i hq
              injection hz with hz
              rw [if_pos hq]
              exact ⟨_, rfl, hz⟩
            · cases hz
          | agg n c =>
            simp only [C.cutOff, C.step] at hz ⊢
            split at hz
            · rename_i hq
              injection hz with hz
              rw [if_pos hq]
              exact ⟨_, rfl, hz⟩
            · cases hz
          | tup n c =>
            simp only [C.cutOff, C.step] at hz ⊢
            split at hz
            · rename_i hq
              injection hz with hz
              rw [if_pos hq]
              exact ⟨_, rfl, hz⟩
            · cases hz
          | ref v s q => rw [C.off_ref_step] at hz; cases hz
          | adr v s q i c => rw [C.off_adr_step] at hz; cases hz
          | cut v s q i c => rw [C.off_cut_step] at hz; cases hz
          | _ => simp [C.cutOff, C.step] at hz
        cases hz : (c.cutOff t).step x with
        | none => rw [hz] at hy; cases hy
        | some z =>
          rw [hz] at hy
          obtain ⟨z', hz', e⟩ := hstep z hz
          rw [hz'] at hc
          subst e
          exact ih z' (C.step_ok hz' ho) hy hc
end M
set_option linter.unusedVariables false
set_option linter.unusedSimpArgs false
namespace M
open Go Go.RowKit
variable [Bs]
variable {w : World} {zl zb : Nat → Nat → Prop} {G : Nat → C} {s : Slots}

/-- A cell as an operand shows it: it owns nothing. -/
structure OpCell (w : World) (zl zb : Nat → Nat → Prop) (G : Nat → C) (c : C) : Prop where
  cell : c.cell
  ok : c.ok w (Zf zl zb)
  nofp : ∀ b k, ¬ c.fp b k
  weak : ∀ v r p, c = .ref v r p → weak G v r p

/-- A list of cells, taken: what each is now. -/
structure TookL (w : World) (zl zb : Nat → Nat → Prop) (G : Nat → C) (l' : List C) (G' : Nat → C) (s' : Slots) : Prop where
  inv : Inv w zl zb G' s'
  all : ∀ c ∈ l', c.ok w (Zf zl zb) ∧ (∀ t b k, c.fp b k → ¬ (G' t).fp b k) ∧ (∀ b k, c.fp b k → ¬ zl b k ∧ ¬ zb b k) ∧ ∀ b k, c.fp b k → ∃ t, (G t).fp b k
  apart : l'.Pairwise fun a b => ∀ x k, a.fp x k → ¬ b.fp x k
  val : ∀ t, (G' t).val = (G t).val
  mono : ∀ t b k, (G' t).fp b k → (G t).fp b k

theorem TookL.cons {c : C} {G1 G' : Nat → C} {s1 s' : Slots} {l' : List C} (h : Took w zl zb G c G1 s1) (hl : TookL w zl zb G1 l' G' s') : TookL w zl zb G (c :: l') G' s' where
  inv := hl.inv
  all := fun x hx => by
    rcases List.mem_cons.1 hx with rfl | hx
    · exact ⟨h.ok, fun t b k hf hf' => h.sep t b k hf (hl.mono t b k hf'), h.fz, h.dom⟩
    · obtain ⟨a1, a2, a3, a4⟩ := hl.all x hx
      exact ⟨a1, a2, a3, fun b k hf => by obtain ⟨t, ht⟩ := a4 b k hf; exact ⟨t, h.mono t b k ht⟩⟩
  apart := List.pairwise_cons.2 ⟨fun x hx b k hf hf' => by
    obtain ⟨t, ht⟩ := (hl.all x hx).2.2.2 b k hf'
    exact h.sep t b k hf ht, hl.apart⟩
  val := fun t => (hl.val t).trans (h.val t)
  mono := fun t b k hf => h.mono t b k (hl.mono t b k hf)
theorem TookL.nil (h : Inv w zl zb G s) : TookL w zl zb G [] G s := ⟨h, fun _ hx => (by cases hx), List.Pairwise.nil, fun _ => rfl, fun _ _ _ hf => hf⟩

theorem val_one {c : C} (h : c.cell) : c.val.oneCell' = true := Inv.cell_val h

theorem takeL_ok : ∀ (l : List C) (G : Nat → C) (s : Slots), Inv w zl zb G s → (∀ c ∈ l, OpCell w zl zb G c) →
    ∃ l' G', l'.map C.er = (takeL (l.map C.er) s).1 ∧ l'.map C.val = l.map C.val ∧ (∀ c ∈ l', c.plain) ∧ TookL w zl zb G l' G' (takeL (l.map C.er) s).2 ∧ ∀ v' r' p', weak G v' r' p' → weak G' v' r' p'
  | [], G, s, h, hc => ⟨[], G, rfl, rfl, fun _ hx => (by cases hx), TookL.nil h, fun _ _ _ hh => hh⟩
  | c :: l, G, s, h, hc => by
    have h0 := hc c (List.mem_cons_self ..)
    have hl0 : ∀ x ∈ l, OpCell w zl zb G x := fun x hx => hc x (List.mem_cons_of_mem _ hx)
    have plainly : ∀ d : C, d.plain → d.val = c.val → d.er = (takeL (c.er :: l.map C.er) s).1.headD .dead → (takeL (c.er :: l.map C.er) s).2 = (takeL (l.map C.er) s).2 → (takeL (c.er :: l.map C.er) s).1.tail = (takeL (l.map C.er) s).1 → (takeL (c.er :: l.map C.er) s).1 ≠ [] → d.ok w (Zf zl zb) → (∀ b k, ¬ d.fp b k) →
        ∃ l' G', l'.map C.er = (takeL ((c :: l).map C.er) s).1 ∧ l'.map C.val = (c :: l).map C.val ∧ (∀ c ∈ l', c.plain) ∧ TookL w zl zb G l' G' (takeL ((c :: l).map C.er) s).2 ∧ ∀ v' r' p', weak G v' r' p' → weak G' v' r' p' := by
      intro d hp hv he h2 h3 h4 ho hn
      obtain ⟨l', G', e1, e2, e3, e4, e5⟩ := takeL_ok l G s h hl0
      refine ⟨d :: l', G', ?_, ?_, ?_, ?_, e5⟩
      · simp only [List.map_cons]
        rw [he, e1, ← h3]
        cases hh : (takeL (c.er :: l.map C.er) s).1 with
        | nil => exact (h4 hh).elim
        | cons a t => rfl
      · simp only [List.map_cons, hv, e2]
      · intro x hx
        rcases List.mem_cons.1 hx with rfl | hx
        · exact hp
        · exact e3 x hx
      · simp only [List.map_cons]
        rw [h2]
        exact TookL.cons (Took.self h ho (C.plain_rf hp G) hn) e4
    have dead : ∀ v, v = c.val → C.plain (.dead v) := fun v hv => by subst hv; exact val_one h0.cell
    cases c with
    | ref v r p =>
      obtain ⟨c', G1, f1, f2, f3, f4, f5⟩ := move_took h (h0.weak v r p rfl) h0.cell
      obtain ⟨l', G', e1, e2, e3, e4, e5⟩ := takeL_ok l G1 (move r p s).2 f4.inv (fun x hx => by
        obtain ⟨a1, a2, a3, a4⟩ := hl0 x hx
        exact ⟨a1, a2, a3, fun v' r' p' e => f5 _ _ _ (a4 v' r' p' e)⟩)
      refine ⟨c' :: l', G', ?_, ?_, ?_, TookL.cons f4 e4, fun _ _ _ hh => e5 _ _ _ (f5 _ _ _ hh)⟩
      · simp only [List.map_cons, C.er, takeL]; rw [f1, e1]
      · simp only [List.map_cons, f2, e2]; rfl
      · intro x hx
        rcases List.mem_cons.1 hx with rfl | hx
        · exact f3
        · exact e3 x hx
    | adr v r p i k => exact plainly (.dead v) (dead v rfl) rfl rfl rfl rfl (by simp [takeL, C.er]) trivial (fun _ _ h => h)
    | cut v r p i k => exact plainly (.dead v) (dead v rfl) rfl rfl rfl rfl (by simp [takeL, C.er]) trivial (fun _ _ h => h)
    | fn f n g => exact plainly (.dead _) (dead _ rfl) rfl rfl rfl rfl (by simp [takeL, C.er]) trivial (fun _ _ h => h)
    | ptr m g o n f => exact plainly (.dead _) (dead _ rfl) rfl rfl rfl rfl (by simp [takeL, C.er]) trivial (fun _ _ h => h)
    | agg n f => exact h0.cell.elim
    | tup n f => exact h0.cell.elim
    | dead v => exact plainly (.dead v) (dead v rfl) rfl rfl rfl rfl (by simp [takeL, C.er]) trivial (fun _ _ h => h)
    | int k n => exact plainly (.int k n) trivial rfl rfl rfl rfl (by simp [takeL, C.er]) trivial (fun _ _ h => h)
    | bool b => exact plainly (.bool b) trivial rfl rfl rfl rfl (by simp [takeL, C.er]) trivial (fun _ _ h => h)
    | str t => exact plainly (.str t) trivial rfl rfl rfl rfl (by simp [takeL, C.er]) h0.ok (fun _ _ h => h)
    | row m sz A len cap e => exact plainly (.row m sz A len cap e) trivial rfl rfl rfl rfl (by simp [takeL, C.er]) h0.ok h0.nofp

/-- Cells in a row, as a struct. -/
def aggL (l : List C) : C := .agg l.length fun j => l.getD j (.dead undef)
theorem range_getD {α β : Type} (l : List α) (d : α) (f : α → β) : ((List.range l.length).map fun j => f (l.getD j d)) = l.map f := by
  apply List.ext_getElem?
  intro i
  rw [C.map_range_get?, List.getElem?_map]
  by_cases h : i < l.length
  · rw [if_pos h, List.getElem?_eq_getElem h]
    simp [List.getD_eq_getElem?_getD, List.getElem?_eq_getElem h]
  · rw [if_neg h, List.getElem?_eq_none (by omega)]; rfl
theorem aggL_er (l : List C) : (aggL l).er = .agg (l.map C.er) := by simp only [aggL, C.er, range_getD]
theorem aggL_val (l : List C) : (aggL l).val = .agg (l.map C.val).toArray := by simp only [aggL, C.val, range_getD]
theorem getD_mem {α : Type} {l : List α} {j : Nat} (h : j < l.length) (d : α) : l.getD j d ∈ l := by
  rw [List.getD_eq_getElem?_getD, List.getElem?_eq_getElem h]
  exact List.getElem_mem h
theorem pairwise_getD {l : List C} (h : l.Pairwise fun a b => ∀ x k, a.fp x k → ¬ b.fp x k) (d : C) {i j : Nat} (hi : i < l.length) (hj : j < l.length) (hne : i ≠ j) {b k : Nat} (hf : (l.getD i d).fp b k) : ¬ (l.getD j d).fp b k := by
  rw [List.getD_eq_getElem?_getD, List.getElem?_eq_getElem hi] at hf
  rw [List.getD_eq_getElem?_getD, List.getElem?_eq_getElem hj]
  rcases Nat.lt_or_gt_of_ne hne with hlt | hlt
  · exact List.pairwise_iff_getElem.1 h i j hi hj hlt b k hf
  · exact fun hf' => List.pairwise_iff_getElem.1 h j i hj hi hlt b k hf' hf
theorem aggL_fp (l : List C) (b k : Nat) : (aggL l).fp b k ↔ ∃ c ∈ l, c.fp b k := by
  constructor
  · rintro ⟨j, hj, hf⟩
    exact ⟨_, getD_mem hj _, hf⟩
  · rintro ⟨c, hc, hf⟩
    obtain ⟨j, hj, rfl⟩ := List.getElem_of_mem hc
    refine ⟨j, hj, ?_⟩
    show (l.getD j (C.dead undef)).fp b k
    rw [List.getD_eq_getElem?_getD, List.getElem?_eq_getElem hj]
    exact hf
theorem aggL_of (n : Nat) (f : Nat → C) : C.agg n f = C.agg n f := rfl

/-- Flat: a plain value, or a struct of such. -/
def C.flat (c : C) : Prop := c.plain ∨ ∃ l : List C, c = aggL l ∧ ∀ x ∈ l, x.plain
theorem C.flat_rf {c : C} (h : c.flat) (G : Nat → C) : c.rf G := by
  rcases h with h | ⟨l, rfl, h⟩
  · exact C.plain_rf h G
  · intro j hj
    exact C.plain_rf (h _ (getD_mem hj _)) G

/-- An operand: it owns nothing. -/
structure Opd (w : World) (zl zb : Nat → Nat → Prop) (G : Nat → C) (c : C) : Prop where
  ok : c.ok w (Zf zl zb)
  rf : c.rf G
  nofp : ∀ b k, ¬ c.fp b k

theorem rf_cells {v : Value} {r : Nat} {p : Path} (h : (C.ref v r p).rf G) : v.oneCell' = true := by
  obtain ⟨y, z, hs, hF, hv, m, sz, A, len, cap, e, rfl⟩ := h
  cases hF
  rw [← hv]
  rfl

/-- Part of an owned row, as a row of its own. -/
theorem cut_row {Z : Md → Nat → Nat → Prop} {sz : Nat} {A A' : Option Ad} {len cap lo hi cap' : Nat} {e : Nat → Nat → C} (h : (C.row .own sz A len cap e).ok w Z) (hlo : lo ≤ hi) (hhi : hi ≤ len) (hcap : hi - lo ≤ cap')
    (hc : lo + cap' = cap) (hA : (A' = A ∧ cap' = 0) ∨ A' = A.map fun q => adv (lo * sz) q) :
    (C.row .own sz A' (hi - lo) cap' fun i j => e (i + lo) j).ok w Z ∧ (∀ b k, (C.row .own sz A' (hi - lo) cap' fun i j => e (i + lo) j).fp b k → (C.row .own sz A len cap e).fp b k) ∧
      (C.row .own sz A' (hi - lo) cap' fun i j => e (i + lo) j).er = .row .own sz ((((List.range len).map fun i => (List.range sz).map fun j => (e i j).er).take hi).drop lo) := by
  obtain ⟨h1, h2, h3, h4, h5⟩ := h
  have hb : ∀ b o, A' = some (b, o, none) → ∃ o', A = some (b, o', none) := fun b o ho => by
    rcases hA with ⟨hA, _⟩ | hA
    · exact ⟨o, by rw [← hA, ho]⟩
    · cases A with
      | none => rw [hA] at ho; cases ho
      | some q =>
        rcases h4 rfl with ⟨q1, _⟩ | ⟨g, o', _, _, _, q1, _⟩
        · cases q1
        · rw [hA, q1, Option.map_some, adv_none] at ho
          injection ho with ho
          injection ho with ho _
          exact ⟨o', by rw [q1, ho]⟩
  have hlt : hi - lo ≠ 0 → A' = A.map fun q => adv (lo * sz) q := fun hne => hA.elim (fun ⟨_, h0⟩ => (by omega)) id
  refine ⟨⟨hcap, fun i j hi' hj => ?_, fun i j hi' hj => h3 (i + lo) j (by omega) hj, fun _ => ?_, fun i j hi' hj b k hf => ?_⟩, fun b k hf => ?_, ?_⟩
  · obtain ⟨g, o, q1, q2, q3⟩ := h2 (i + lo) j (by omega) hj
    refine ⟨g, o + lo * sz, by rw [hlt (by omega), q1, Option.map_some, adv_none], ?_, fun hm => (hm rfl).elim⟩
    rw [show o + lo * sz + i * sz + j = o + (i + lo) * sz + j by rw [Nat.add_mul]; omega]
    exact q2
  · rcases h4 rfl with ⟨q1, q2⟩ | ⟨g, o, arr, t, fz, q1, q2, q3, q4⟩
    · refine .inl ⟨?_, by omega⟩
      rcases hA with ⟨hA, _⟩ | hA <;> rw [hA, q1]
      rfl
    · refine .inr ?_
      rcases hA with ⟨hA, h0⟩ | hA
      · exact ⟨g, o, arr, t, fz, by rw [hA, q1], q2, by rw [h0]; omega, fun k hk1 hk2 => by rw [h0] at hk2; omega⟩
      · have hm : lo * sz + cap' * sz = cap * sz := by rw [← Nat.add_mul, hc]
        exact ⟨g, o + lo * sz, arr, t, fz, by rw [hA, q1, Option.map_some, adv_none], q2, by omega, fun k hk1 hk2 => q4 k (by omega) (by omega)⟩
  · obtain ⟨a1, a2⟩ := h5 (i + lo) j (by omega) hj b k hf
    refine ⟨fun _ o ho => ?_, fun i' j' hi2 hj2 hne => a2 (i' + lo) j' (by omega) hj2 (fun e => hne ?_)⟩
    · obtain ⟨o', ho'⟩ := hb b o ho
      exact a1 rfl o' ho'
    · injection e with e1 e2
      rw [e2, show i = i' by omega]
  · obtain ⟨_, ⟨o, ho⟩ | ⟨i, j, hi', hj, hf⟩⟩ := hf
    · obtain ⟨o', ho'⟩ := hb b o ho
      exact ⟨rfl, .inl ⟨o', ho'⟩⟩
    · exact ⟨rfl, .inr ⟨i + lo, j, by omega, hj, hf⟩⟩
  · simp only [C.er, ← List.map_take, ← List.map_drop, List.take_range]
    rw [Nat.min_eq_left hhi]
    congr 1
    apply List.ext_getElem?
    intro i
    rw [C.map_range_get?, List.getElem?_map, List.getElem?_drop]
    by_cases hh : i < hi - lo
    · rw [if_pos hh, List.getElem?_range (by omega), Nat.add_comm]
      rfl
    · rw [if_neg hh, List.getElem?_eq_none (by simp; omega)]
      rfl
theorem moveC_took (h : Inv w zl zb G s) {v : Value} {r : Nat} {p : Path} {lo hi : Nat} (hr : (C.cut v r p lo hi).rf G) :
    ∃ c G', c.er = (moveC r p lo hi s).1 ∧ c.val = v ∧ ((C.cut v r p lo hi).cell → c.cell) ∧ Took w zl zb G c G' (moveC r p lo hi s).2 := by
  have hr' := hr
  obtain ⟨m, sz, A, len, cap, e, A', cap', hs, hv, hlo, hhi, hcap, hA', hc, hAA⟩ := hr
  unfold moveC look
  rw [← h.er, C.sub_er, hs]
  cases m with
  | own =>
    obtain ⟨c, G', c1, c2, c3, c4, c5, c6, c7, c8, c9, c10, c11, c12⟩ := h.take_out r p _ hs
    obtain rfl := c7 trivial
    obtain ⟨i1, i2, i3⟩ := cut_row c4 hlo hhi hcap hc hAA
    refine ⟨.row .own sz A' (hi - lo) cap' fun i j => e (i + lo) j, G', i3, ?_, fun _ => trivial, ⟨c3, i1, trivial, fun t b k hf => c8 t b k (i2 b k hf), fun b k hf => h.fz r b k (c9 b k (i2 b k hf)), c10, fun b k hf => ⟨r, c9 b k (i2 b k hf)⟩, c11⟩⟩
    rw [hv]; rfl
  | sl => exact ⟨.cut v r p lo hi, G, rfl, rfl, fun hh => hh, Took.self h trivial hr' fun _ _ hh => hh⟩
  | bor => exact ⟨.cut v r p lo hi, G, rfl, rfl, fun hh => hh, Took.self h trivial hr' fun _ _ hh => hh⟩
theorem movP_took (h : Inv w zl zb G s) {v : Value} {r : Nat} {p : Path} {i j : Nat} (hr : (C.adr v r p i j).rf G) :
    ∃ c G', c.er = (movP r p i j s).1 ∧ c.val = v ∧ ((C.adr v r p i j).cell → c.cell) ∧ Took w zl zb G c G' (movP r p i j s).2 := by
  have same : ∃ c G', c.er = X.adr r p i j ∧ c.val = v ∧ ((C.adr v r p i j).cell → c.cell) ∧ Took w zl zb G c G' s := ⟨.adr v r p i j, G, rfl, rfl, fun hh => hh, Took.self h trivial hr fun _ _ hh => hh⟩
  obtain ⟨y, hs, hy⟩ := hr
  unfold movP look
  rw [← h.er, C.sub_er, hs]
  rcases hy with ⟨m, sz, g, o, len, cap, e, rfl, hv⟩ | ⟨m, g, o, n, cc, rfl, hi, hv⟩
  · exact same
  · cases m with
    | own =>
      show ∃ c G', c.er = (bif i == 0 && j == 0 then _ else _ : X × Slots).1 ∧ _ ∧ _ ∧ Took w zl zb G c G' (bif i == 0 && j == 0 then _ else _ : X × Slots).2
      cases hij : (i == 0 && j == 0) with
      | false => exact same
      | true =>
        simp only [Bool.and_eq_true, beq_iff_eq] at hij
        obtain ⟨rfl, rfl⟩ := hij
        obtain ⟨c, G', c1, c2, c3, c4, c5, c6, c7, c8, c9, c10, c11, c12⟩ := h.take_out r p _ hs
        exact ⟨c, G', c1, by rw [c2, hv]; rfl, fun _ => c6.2 trivial, ⟨c3, c4, c5, c8, fun b k hf => h.fz r b k (c9 b k hf), c10, fun b k hf => ⟨r, c9 b k hf⟩, c11⟩⟩
    | sl => exact same
    | bor => exact same
theorem take_ok (tk : Tk) (h : Inv w zl zb G s) {c0 : C} (ho : Opd w zl zb G c0) :
    ∃ c G', c.er = (take tk c0.er s).1 ∧ c.val = c0.val ∧ (c0.cell → c.cell) ∧ Took w zl zb G c G' (take tk c0.er s).2 := by
  have same : (take tk c0.er s) = (c0.er, s) → ∃ c G', c.er = (take tk c0.er s).1 ∧ c.val = c0.val ∧ (c0.cell → c.cell) ∧ Took w zl zb G c G' (take tk c0.er s).2 := fun e => by
    rw [e]
    exact ⟨c0, G, rfl, rfl, fun h => h, Took.self h ho.ok ho.rf ho.nofp⟩
  cases c0 with
  | ref v r p =>
    have hmv : ∃ c G', c.er = (move r p s).1 ∧ c.val = v ∧ ((C.ref v r p).cell → c.cell) ∧ Took w zl zb G c G' (move r p s).2 := by
      obtain ⟨c', G1, f1, f2, f3, f4, f5⟩ := move_took h (weak_of ho.rf) (rf_cells ho.rf)
      exact ⟨c', G1, f1, f2, fun _ => C.plain_cell f3, f4⟩
    cases tk with
    | mv => exact hmv
    | al => exact same rfl
    | as_ => cases p with
      | nil => exact hmv
      | cons q p => exact same rfl
  | cut v r p lo hi =>
    have hmv := moveC_took h ho.rf
    cases tk with
    | mv => exact hmv
    | al => exact same rfl
    | as_ => cases p with
      | nil => exact hmv
      | cons q p => exact same rfl
  | adr v r p i j =>
    cases tk with
    | mv => exact movP_took h ho.rf
    | al => exact same rfl
    | as_ => exact same rfl
  | agg n f =>
    cases tk with
    | mv =>
      have hcells : ∀ c ∈ (List.range n).map f, OpCell w zl zb G c := fun c hc => by
        obtain ⟨j, hj, rfl⟩ := List.mem_map.1 hc
        have hj' : j < n := by simpa using hj
        exact ⟨(ho.ok.1 j hj').1, (ho.ok.1 j hj').2, fun b k hf => ho.nofp b k ⟨j, hj', hf⟩, fun v r p e => weak_of (by rw [← e]; exact ho.rf j hj')⟩
      obtain ⟨l', G', e1, e2, e3, e4, e5⟩ := takeL_ok _ G s h hcells
      have er : (C.agg n f).er = .agg (((List.range n).map f).map C.er) := by simp only [C.er, List.map_map]; rfl
      rw [er]
      show ∃ c G', c.er = X.agg (takeL _ s).1 ∧ _ ∧ _ ∧ Took w zl zb G c G' (takeL _ s).2
      refine ⟨aggL l', G', by rw [aggL_er, e1], ?_, fun hc => hc.elim, ⟨e4.inv, ⟨fun j hj => ⟨C.plain_cell (e3 _ (getD_mem hj _)), (e4.all _ (getD_mem hj _)).1⟩, fun j hj b k hf j' hj' hne => pairwise_getD e4.apart _ hj hj' hne hf⟩, fun j hj => C.plain_rf (e3 _ (getD_mem hj _)) _, ?_, ?_, e4.val, ?_, e4.mono⟩⟩
      · rw [aggL_val, e2]; simp only [C.val, List.map_map]; rfl
      · intro t b k hf hf'
        obtain ⟨c, hc, hf⟩ := (aggL_fp _ _ _).1 hf
        exact (e4.all c hc).2.1 t b k hf hf'
      · intro b k hf
        obtain ⟨c, hc, hf⟩ := (aggL_fp _ _ _).1 hf
        exact (e4.all c hc).2.2.1 b k hf
      · intro b k hf
        obtain ⟨c, hc, hf⟩ := (aggL_fp _ _ _).1 hf
        exact (e4.all c hc).2.2.2 b k hf
    | al => exact same rfl
    | as_ => exact same rfl
  | _ => exact same (by cases tk <;> rfl)

/-- What an operand is, and that it is what Go sees. -/
theorem opd_of {c : Ctx} {zl : Nat → Nat → Prop} {a : Act} (h : St c G zl s a w) (n : Nat) : ((G n).alias n []).er = opv s (.t n) ∧ ((G n).alias n []).val = (G n).val ∧ Opd w zl c.zb G ((G n).alias n []) := by
  obtain ⟨a1, a2, a3⟩ := C.alias_all n (G n) rfl (h.inv.ok n) (h.inv.rf n)
  refine ⟨?_, C.alias_val _ _ _, ⟨a1, a2, a3⟩⟩
  rw [C.alias_er, h.inv.er]
  rfl
end M
set_option linter.unusedVariables false
set_option linter.unusedSimpArgs false
namespace M
open Go Go.RowKit
variable [Bs]
namespace C
variable {w : World} {Z : Md → Nat → Nat → Prop}
/-- What it holds may be owned. -/
def ownish : C → Prop
  | .row m _ _ _ _ _ => m = .own
  | .ptr m _ _ _ _ => m = .own
  | .agg _ _ => True
  | .tup _ _ => True
  | _ => False
/-- Something plain where nothing was, of the same value. -/
theorem ok_put1 {d0 y : C} {q : Nat × Nat} {v : Value} (h : d0.ok w Z) (hq : d0.step q = some (.dead v)) (ho : d0.ownish) (hp : y.plain) (hv : y.val = v) (hy : y.ok w Z) (hsep : ∀ b k, y.fp b k → ¬ d0.fp b k) :
    (d0.put1 q y).ok w Z ∧ ∀ b k, (d0.put1 q y).fp b k → d0.fp b k ∨ y.fp b k := by
  have hc := plain_cell hp
  have hs := plain_solid hp
  have hnt : y.notup := by cases y <;> first | trivial | exact hp.elim
  have agg : ∀ (n : Nat) (f : Nat → C) (pr : C → Prop), (∀ j, j < n → pr (f j) ∧ (f j).ok w Z) → pr y → (∀ j, j < n → ∀ b k, (f j).fp b k → ∀ j', j' < n → j ≠ j' → ¬ (f j').fp b k) → (∀ b k, y.fp b k → ¬ ∃ j, j < n ∧ (f j).fp b k) → 
      ((∀ j, j < n → pr (upd f q.2 y j) ∧ (upd f q.2 y j).ok w Z) ∧ (∀ j, j < n → ∀ b k, (upd f q.2 y j).fp b k → ∀ j', j' < n → j ≠ j' → ¬ (upd f q.2 y j').fp b k)) ∧ ∀ b k, (∃ j, j < n ∧ (upd f q.2 y j).fp b k) → (∃ j, j < n ∧ (f j).fp b k) ∨ y.fp b k := by
    intro n f pr h1 hpy h2 h3
    refine ⟨⟨fun j hj => ?_, fun j hj b k hf j' hj' hne => ?_⟩, fun b k ⟨j, hj, hf⟩ => ?_⟩
    · unfold upd; split
      · exact ⟨hpy, hy⟩
      · exact h1 j hj
    · unfold upd at hf ⊢
      split at hf
      · rename_i e
        rw [if_neg (fun e' => hne (e.trans e'.symm))]
        exact fun hf' => h3 b k hf ⟨j', hj', hf'⟩
      · split
        · exact fun hf' => h3 b k hf' ⟨j, hj, hf⟩
        · exact h2 j hj b k hf j' hj' hne
    · unfold upd at hf
      split at hf
      · exact .inr hf
      · exact .inl ⟨j, hj, hf⟩
  have valq : ∀ (n : Nat) (f : Nat → C) (j : Nat), q.2 < n → f q.2 = .dead v → (upd f q.2 y j).val = (f j).val := by
    intro n f j _ hf
    unfold upd; split
    · rename_i e; rw [e, hf, hv]; rfl
    · rfl
  cases d0 with
  | row m sz A len cap e =>
    obtain rfl : m = .own := ho
    simp only [step] at hq
    split at hq
    · rename_i hlt
      injection hq with hq
      obtain ⟨h1, h2, h3, h4, h5⟩ := h
      have hkid : ∀ i j, i < len → j < sz → ∀ b k, (e i j).fp b k → (C.row .own sz A len cap e).fp b k := fun i j hi hj b k hf => ⟨rfl, .inr ⟨i, j, hi, hj, hf⟩⟩
      refine ⟨⟨h1, fun i j hi hj => ?_, fun i j hi hj => ?_, h4, fun i j hi hj b k hf => ?_⟩, fun b k hf => ?_⟩
      · obtain ⟨g, o, a1, a2, a3⟩ := h2 i j hi hj
        refine ⟨g, o, a1, ?_, a3⟩
        rw [a2]
        show _ = some (if i = q.1 ∧ j = q.2 then y else e i j).val
        split
        · rename_i hh; rw [hh.1, hh.2, hq, hv]; rfl
        · rfl
      · show (if i = q.1 ∧ j = q.2 then y else e i j).cell ∧ (if i = q.1 ∧ j = q.2 then y else e i j).solid ∧ (if i = q.1 ∧ j = q.2 then y else e i j).fits .own ∧ (if i = q.1 ∧ j = q.2 then y else e i j).ok w Z
        split
        · exact ⟨hc, hs, by cases y <;> first | trivial | exact .inl rfl, hy⟩
        · exact h3 i j hi hj
      · have hf : (if i = q.1 ∧ j = q.2 then y else e i j).fp b k := hf
        refine ⟨fun hm o hA => ?_, fun i' j' hi' hj' hne hf' => ?_⟩
        · split at hf
          · exact hsep b k hf ⟨rfl, .inl ⟨o, hA⟩⟩
          · exact (h5 i j hi hj b k hf).1 hm o hA
        · have hf' : (if i' = q.1 ∧ j' = q.2 then y else e i' j').fp b k := hf'
          split at hf
          · rename_i e1
            split at hf'
            · rename_i e2
              exact hne (by rw [e1.1, e1.2, e2.1, e2.2])
            · exact hsep b k hf (hkid i' j' hi' hj' b k hf')
          · split at hf'
            · exact hsep b k hf' (hkid i j hi hj b k hf)
            · exact (h5 i j hi hj b k hf).2 i' j' hi' hj' hne hf'
      · obtain ⟨hm, hA | ⟨i, j, hi, hj, hf⟩⟩ := hf
        · exact .inl ⟨rfl, .inl hA⟩
        · have hf : (if i = q.1 ∧ j = q.2 then y else e i j).fp b k := hf
          split at hf
          · exact .inr hf
          · exact .inl (hkid i j hi hj b k hf)
    · cases hq
  | ptr m g o n f =>
    obtain rfl : m = .own := ho
    simp only [step] at hq
    split at hq
    · rename_i hlt
      injection hq with hq
      obtain ⟨h1, h2, h3, h4⟩ := h
      obtain ⟨⟨a1, a2⟩, a3⟩ := agg n f (fun c => c.cell ∧ c.fits .own) (fun j hj => ⟨⟨(h3 j hj).1, (h3 j hj).2.1⟩, (h3 j hj).2.2⟩) ⟨hc, by cases y <;> first | trivial | exact .inl rfl⟩ (fun j hj b k hf j' hj' hne => (h4 j hj b k hf).2 j' hj' hne) (fun b k hf ⟨j, hj, hf'⟩ => hsep b k hf ⟨rfl, .inr ⟨j, hj, hf'⟩⟩)
      refine ⟨⟨fun j hj => ?_, h2, fun j hj => ⟨(a1 j hj).1.1, (a1 j hj).1.2, (a1 j hj).2⟩, fun j hj b k hf => ⟨fun hm hh => ?_, fun j' hj' hne => a2 j hj b k hf j' hj' hne⟩⟩, fun b k hf => ?_⟩
      · rw [valq n f j hlt.2 hq]
        exact h1 j hj
      · have hf : (upd f q.2 y j).fp b k := hf
        unfold upd at hf
        split at hf
        · exact hsep b k hf ⟨rfl, .inl hh⟩
        · exact (h4 j hj b k hf).1 hm hh
      · obtain ⟨_, hh | hh⟩ := hf
        · exact .inl ⟨rfl, .inl hh⟩
        · exact (a3 b k hh).imp (fun hh => ⟨rfl, .inr hh⟩) id
    · cases hq
  | agg n f =>
    obtain ⟨a1, a2⟩ := agg n f C.cell h.1 hc h.2 hsep
    exact ⟨a1, a2⟩
  | tup n f =>
    obtain ⟨a1, a2⟩ := agg n f C.notup h.1 hnt h.2 hsep
    exact ⟨a1, a2⟩
  | _ => exact ho.elim
end C
namespace Inv
variable {w : World} {zl zb : Nat → Nat → Prop} {G : Nat → C} {s : Slots}
/-- Nothing points to where nothing is. -/
theorem dead_free {r : Nat} {P : Path} {v : Value} (hd : (G r).sub P = some (.dead v)) : ∀ c : C, c.rf G → c.free (C.kills r P)
  | .ref v' r' q, hr => by
    obtain ⟨y, z, hs, hF, _⟩ := hr
    exact out hs (by cases hF <;> rfl)
  | .adr v' r' q i c, hr => by
    obtain ⟨y, hs, hy⟩ := hr
    exact out hs (by rcases hy with ⟨m, sz, g, o, len, cap, e, rfl, hv⟩ | ⟨m, g, o, n, cc, rfl, hi, hv⟩ <;> rfl)
  | .cut v' r' q lo hi, hr => by
    obtain ⟨m, sz, A, len, cap, e, A', cap', hs, _⟩ := hr
    exact out hs rfl
  | .ptr m g o n c, hr => fun j hj => dead_free hd (c j) (hr j hj)
  | .agg n c, hr => fun j hj => dead_free hd (c j) (hr j hj)
  | .tup n c, hr => fun j hj => dead_free hd (c j) (hr j hj)
  | .fn f n c, hr => fun j hj => dead_free hd (c j) (hr j hj)
  | .dead _, _ => trivial
  | .int _ _, _ => trivial
  | .bool _, _ => trivial
  | .str _, _ => trivial
  | .row _ _ _ _ _ _, _ => trivial
where
  out {r' : Nat} {q : Path} {y : C} (hs : (G r').sub q = some y) (hy : y.er.rooted = true) : C.kills r P r' q = false := by
    unfold C.kills
    cases h1 : (r' == r) with
    | false => rfl
    | true =>
      cases h2 : X.pfx P q with
      | false => rfl
      | true =>
        exfalso
        have h1 : r' = r := by simpa using h1
        subst h1
        obtain ⟨t, rfl⟩ := pfx_split P q h2
        rw [C.sub_append2 P t hd] at hs
        cases t with
        | nil => simp only [C.sub] at hs; injection hs with hs; subst hs; simp [C.er, X.rooted] at hy
        | cons x t => simp [C.sub, C.step] at hs
theorem give (h : Inv w zl zb G s) {r : Nat} {p0 : Path} {q : Nat × Nat} {d0 y : C} {v : Value} (h0 : (G r).sub p0 = some d0) (hq : d0.step q = some (.dead v)) (ho : d0.ownish) (hp : y.plain) (hv : y.val = v) (hok : y.ok w (Zf zl zb))
    (hsep : ∀ t b k, y.fp b k → ¬ (G t).fp b k) (hfz : ∀ b k, y.fp b k → ¬ zl b k ∧ ¬ zb b k) :
    ∃ G', G' = updG G r (C.putAt p0 (G r) (d0.put1 q y)) ∧ Inv w zl zb G' ((r, X.putAt (p0 ++ [q]) (get s r) y.er) :: s) ∧ (∀ t, (G' t).val = (G t).val) ∧ ∀ t b k, (G' t).fp b k → (G t).fp b k ∨ y.fp b k := by
  have hd0 := C.sub_ok p0 h0 (h.ok r)
  have hin : ∀ b k, d0.fp b k → (G r).fp b k := fun b k hf => C.sub_fp p0 h0 (h.ok r) hf
  obtain ⟨a1, a2⟩ := C.ok_put1 hd0 hq ho hp hv hok (fun b k hf hf' => hsep r b k hf (hin b k hf'))
  have hdead : (G r).sub (p0 ++ [q]) = some (.dead v) := C.sub_append p0 h0 hq
  obtain ⟨⟨i1, i2, i3⟩, _⟩ := h.set1 r p0 (p0 ++ [q]) d0 (d0.put1 q y) y (S := fun _ _ => False) (C.putAt_append p0 h0 hq) (fun t => dead_free hdead (G t) (h.rf t)) (Ext.refl _ _) h0 (fun _ _ hf => hf.elim) a1 (C.Like.put1 d0 q (.dead v) y hq (by rw [hv]; rfl)) (C.plain_rf hp G) (by
    cases y <;> first | trivial | exact hp.elim) (fun b k hf => (a2 b k hf).imp id fun hf => ⟨fun t => hsep t b k hf, hfz b k hf⟩)
  refine ⟨_, rfl, i1, i2, fun t b k hf => ?_⟩
  rcases i3 t b k hf with ⟨e, hf2⟩ | hf2
  · rw [e]; exact (a2 b k hf2).imp (hin b k) id
  · exact .inl hf2
end Inv
end M
set_option linter.unusedVariables false
set_option linter.unusedSimpArgs false
namespace M
open Go Go.RowKit
variable [Bs]
namespace C
theorem val_putAt : ∀ (P : Path) {c d y : C}, c.sub P = some d → y.val = d.val → (putAt P c y).val = c.val
  | [], c, d, y, h, hv => by simp only [sub] at h; injection h with h; subst h; exact hv
  | x :: P, c, d, y, h, hv => by
    simp only [sub] at h
    cases hst : c.step x with
    | none => rw [hst] at h; cases h
    | some z =>
      rw [hst] at h
      simp only [putAt, hst]
      exact (Like.put1 c x z _ hst (val_putAt P h hv)).val
theorem step_put_ne {c z : C} {x x' : Nat × Nat} (hst : c.step x = some z) (hne : x' ≠ x) (y : C) : (c.put1 x y).step x' = c.step x' := by
  have hu : ∀ f : Nat → C, x'.1 = 0 → x.1 = 0 → upd f x.2 y x'.2 = f x'.2 := fun f h1 h2 => by
    unfold upd
    rw [if_neg]
    intro e
    apply hne
    cases x; cases x'
    simp_all
  cases c with
  | row m sz A len cap e =>
    simp only [put1, step]
    split
    · congr 1
      rw [if_neg]
      rintro ⟨e1, e2⟩
      exact hne (Prod.ext e1 e2)
    · rfl
  | ptr m g o n f =>
    simp only [step] at hst
    split at hst
    · rename_i h0
      simp only [put1, step]
      split
      · rename_i hh; rw [hu f hh.1 h0.1]
      · rfl
    · cases hst
  | agg n f =>
    simp only [step] at hst
    split at hst
    · rename_i h0
      simp only [put1, step]
      split
      · rename_i hh; rw [hu f hh.1 h0.1]
      · rfl
    · cases hst
  | tup n f =>
    simp only [step] at hst
    split at hst
    · rename_i h0
      simp only [put1, step]
      split
      · rename_i hh; rw [hu f hh.1 h0.1]
      · rfl
    · cases hst
  | _ => rfl
/-- What lies elsewhere looks the same when something of the same value is put at a place. -/
theorem sub_put : ∀ (P q : Path) {c d y z : C}, c.sub P = some d → y.val = d.val → X.pfx P q = false → (putAt P c y).sub q = some z → ∃ z0, c.sub q = some z0 ∧ z.val = z0.val ∧ (z0.plain → z.plain)
  | [], q, c, d, y, z, _, _, h, _ => by simp [X.pfx] at h
  | x :: P, q, c, d, y, z, hd, hv, hp, hs => by
    simp only [sub] at hd
    cases hst : c.step x with
    | none => rw [hst] at hd; cases hd
    | some c1 =>
      rw [hst] at hd
      have hd' : c1.sub P = some d := hd
      have hval := val_putAt P hd' hv
      cases q with
      | nil =>
        simp only [sub, putAt, hst] at hs
        injection hs with hs
        subst hs
        refine ⟨c, rfl, (Like.put1 c x c1 _ hst hval).val, fun hpl => ?_⟩
        cases c <;> first | exact hpl | trivial
      | cons x' q =>
        simp only [sub, putAt, hst] at hs
        by_cases hne : x' = x
        · subst hne
          rw [step_put1 hst] at hs
          have hp' : X.pfx P q = false := by simpa [X.pfx] using hp
          obtain ⟨z0, a1, a2⟩ := sub_put P q hd' hv hp' hs
          exact ⟨z0, by simp only [sub, hst]; exact a1, a2⟩
        · rw [step_put_ne hst hne] at hs
          exact ⟨z, hs, rfl, fun h => h⟩
end C
variable {w : World} {zl zb : Nat → Nat → Prop}
theorem giveOk_spec {G : Nat → C} {s : Slots} (h : Inv w zl zb G s) {r : Nat} {p : Path} (hg : giveOk s r p = true) : ∃ p0 q d0 v, p = p0 ++ [q] ∧ (G r).sub p0 = some d0 ∧ d0.step q = some (.dead v) ∧ d0.ownish := by
  unfold giveOk at hg
  split at hg
  · rename_i hl
    split at hg
    · rename_i q hq
      have hp : p = p.dropLast ++ [q] := by
        have hne : p ≠ [] := by intro e; subst e; simp at hq
        rw [List.getLast?_eq_some_getLast hne] at hq
        injection hq with hq
        rw [← hq]
        exact (List.dropLast_concat_getLast hne).symm
      have own : ∀ x, look s r p.dropLast = some x → ∃ d0, (G r).sub p.dropLast = some d0 ∧ d0.er = x := fun x hx => by
        unfold look at hx
        rw [← h.er, C.sub_er] at hx
        cases hs : (G r).sub p.dropLast with
        | none => rw [hs] at hx; cases hx
        | some d0 => rw [hs] at hx; exact ⟨d0, rfl, by simpa using hx⟩
      have fin : ∀ d0, (G r).sub p.dropLast = some d0 → d0.ownish → ∃ p0 q d0 v, p = p0 ++ [q] ∧ (G r).sub p0 = some d0 ∧ d0.step q = some (.dead v) ∧ d0.ownish := fun d0 h0 ho => by
        unfold look at hl
        rw [← h.er, C.sub_er, hp, C.sub_append2 p.dropLast [q] h0] at hl
        have hl' : ((d0.step q).bind fun z => some z).map C.er = some .dead := by simpa [C.sub] using hl
        cases hst : d0.step q with
        | none => rw [hst] at hl'; cases hl'
        | some z =>
          rw [hst] at hl'
          have : z.er = .dead := by simpa using hl'
          cases z with
          | dead v => exact ⟨p.dropLast, q, d0, v, hp, h0, hst, ho⟩
          | _ => simp [C.er] at this
      split at hg
      · rename_i hx
        obtain ⟨d0, a1, a2⟩ := own _ hx
        have : d0.ownish := by
          cases d0 with
          | row m sz A len cap e => simp only [C.er, X.row.injEq] at a2; exact a2.1
          | _ => simp [C.er] at a2
        exact fin _ a1 this
      · rename_i hx
        obtain ⟨d0, a1, a2⟩ := own _ hx
        have : d0.ownish := by
          cases d0 with
          | ptr m g o n c => simp only [C.er, X.ptr.injEq] at a2; exact a2.1
          | _ => simp [C.er] at a2
        exact fin _ a1 this
      · rename_i hx
        obtain ⟨d0, a1, a2⟩ := own _ hx
        have : d0.ownish := by cases d0 <;> first | trivial | (simp [C.er] at a2)
        exact fin _ a1 this
      · rename_i hx
        obtain ⟨d0, a1, a2⟩ := own _ hx
        have : d0.ownish := by cases d0 <;> first | trivial | (simp [C.er] at a2)
        exact fin _ a1 this
      · cases hg
    · cases hg
  · cases hg
theorem otherR_spec {r : Nat} {p : Path} : ∀ {l : List X}, otherR r p l = true → ∀ r' p', X.ref r' p' ∈ l → ¬ (r' = r ∧ X.pfx p p' = true)
  | [], _, _, _, hm => by cases hm
  | x :: l, h, r', p', hm => by
    rcases List.mem_cons.1 hm with rfl | hm
    · simp only [otherR, Bool.and_eq_true, Bool.not_eq_true', Bool.and_eq_false_iff, beq_eq_false_iff_ne] at h
      rintro ⟨rfl, h2⟩
      rcases h.1 with h1 | h1
      · exact h1 rfl
      · rw [h1] at h2; cases h2
    · refine otherR_spec (l := l) ?_ r' p' hm
      cases x <;> first | exact h | (simp only [otherR, Bool.and_eq_true] at h; exact h.2)
/-- All is put back. -/
theorem backL_ok : ∀ (cs ys : List C) {G : Nat → C} {s s' : Slots}, Inv w zl zb G s → ys.length = cs.length → (∀ v r p, C.ref v r p ∈ cs → weak G v r p) →
    (∀ (i : Nat) c y, cs[i]? = some c → ys[i]? = some y → y.plain ∧ y.val = c.val ∧ y.ok w (Zf zl zb)) → (∀ y ∈ ys, (∀ t b k, y.fp b k → ¬ (G t).fp b k) ∧ ∀ b k, y.fp b k → ¬ zl b k ∧ ¬ zb b k) →
    (ys.Pairwise fun a b => ∀ x k, a.fp x k → ¬ b.fp x k) → backL (cs.map C.er) (ys.map C.er) s = some s' →
    ∃ G', Inv w zl zb G' s' ∧ (∀ t, (G' t).val = (G t).val) ∧ ∀ t b k, (G' t).fp b k → (G t).fp b k ∨ ∃ y ∈ ys, y.fp b k
  | [], ys, G, s, s', h, _, _, _, _, _, hb => by
    simp only [List.map_nil, backL, Option.some.injEq] at hb
    subst hb
    exact ⟨G, h, fun _ => rfl, fun t b k hf => .inl hf⟩
  | c :: cs, [], _, _, _, _, hl, _, _, _, _, _ => by simp at hl
  | c :: cs, y :: ys, G, s, s', h, hl, hw, hy, hsep, hpw, hb => by
    have hl' : ys.length = cs.length := by simpa using hl
    obtain ⟨hp, hv, hok⟩ := hy 0 c y rfl rfl
    have hpw' := List.pairwise_cons.1 hpw
    have skip : backL (cs.map C.er) (ys.map C.er) s = some s' → ∃ G', Inv w zl zb G' s' ∧ (∀ t, (G' t).val = (G t).val) ∧ ∀ t b k, (G' t).fp b k → (G t).fp b k ∨ ∃ y' ∈ y :: ys, y'.fp b k := fun hb => by
      obtain ⟨G', g1, g2, g3⟩ := backL_ok cs ys h hl' (fun v r p hm => hw v r p (List.mem_cons_of_mem _ hm)) (fun i c y h1 h2 => hy (i + 1) c y (by simpa using h1) (by simpa using h2)) (fun y hm => hsep y (List.mem_cons_of_mem _ hm)) hpw'.2 hb
      exact ⟨G', g1, g2, fun t b k hf => (g3 t b k hf).imp id fun ⟨y, hm, hf⟩ => ⟨y, List.mem_cons_of_mem _ hm, hf⟩⟩
    cases c with
    | ref v r p =>
      simp only [List.map_cons, C.er, backL] at hb
      cases hg : (giveOk s r p && otherR r p (cs.map C.er)) with
      | false => rw [hg] at hb; cases hb
      | true =>
        rw [hg, cond_true] at hb
        simp only [Bool.and_eq_true] at hg
        obtain ⟨p0, q, d0, v0, hpq, h0, hq, ho⟩ := giveOk_spec h hg.1
        have hdead : (G r).sub p = some (.dead v0) := by rw [hpq]; exact C.sub_append p0 h0 hq
        have hv0 : v0 = v := (hw v r p (List.mem_cons_self ..) _ hdead).1
        have hyv : y.val = v0 := by rw [hv, hv0]; rfl
        obtain ⟨G1, e1, i1, i2, i3⟩ := h.give h0 hq ho hp hyv hok (hsep y (List.mem_cons_self ..)).1 (hsep y (List.mem_cons_self ..)).2
        rw [← hpq] at i1
        have he : C.putAt p0 (G r) (d0.put1 q y) = C.putAt p (G r) y := by rw [hpq, C.putAt_append p0 h0 hq]
        rw [he] at e1
        obtain ⟨G', g1, g2, g3⟩ := backL_ok cs ys i1 hl' (fun v' r' p' hm => by
          have hold := hw v' r' p' (List.mem_cons_of_mem _ hm)
          have hno := otherR_spec hg.2 r' p' (by have := List.mem_map_of_mem (f := C.er) hm; exact this)
          intro z hz
          rw [e1] at hz
          by_cases er : r' = r
          · subst er
            rw [updG_same] at hz
            have hpf : X.pfx p p' = false := by
              cases hh : X.pfx p p' with
              | false => rfl
              | true => exact (hno ⟨rfl, hh⟩).elim
            obtain ⟨z0, a1, a2, a3⟩ := C.sub_put p p' hdead (by rw [hyv]; rfl) hpf hz
            obtain ⟨b1, b2⟩ := hold z0 a1
            exact ⟨a2.trans b1, a3 b2⟩
          · rw [updG_other _ _ er] at hz
            exact hold z hz) (fun i c y h1 h2 => hy (i + 1) c y (by simpa using h1) (by simpa using h2)) (fun y' hm => ⟨fun t b k hf hf' => by
            rcases i3 t b k hf' with hh | hh
            · exact (hsep y' (List.mem_cons_of_mem _ hm)).1 t b k hf hh
            · exact hpw'.1 y' hm b k hh hf, (hsep y' (List.mem_cons_of_mem _ hm)).2⟩) hpw'.2 hb
        refine ⟨G', g1, fun t => (g2 t).trans (i2 t), fun t b k hf => ?_⟩
        rcases g3 t b k hf with hh | ⟨y', hm, hh⟩
        · rcases i3 t b k hh with hh | hh
          · exact .inl hh
          · exact .inr ⟨y, List.mem_cons_self .., hh⟩
        · exact .inr ⟨y', List.mem_cons_of_mem _ hm, hh⟩
    | _ => exact skip (by simpa only [List.map_cons, C.er, backL] using hb)
end M
set_option linter.unusedVariables false
set_option linter.unusedSimpArgs false
namespace M
open Go Go.RowKit
variable [Bs]

theorem one_cells {v : Value} (h : v.oneCell' = true) : v.cells = #[v] := by cases v <;> first | rfl | (simp [Value.oneCell'] at h)

namespace St
variable {c : Ctx} {G G1 : Nat → C} {zl : Nat → Nat → Prop} {s s1 : Slots} {a : Act} {w w' : World}

/-- Other slots, other places, in another world. -/
theorem move (h : St c G zl s a w) (hi : Inv w' zl c.zb G1 s1) (hv : ∀ t, (G1 t).val = (G t).val) {S : Nat → Nat → Prop} (hE : Ext S w w') (hS : ∀ b k, S b k → c.F0 b k ∨ c.w0.heap.size ≤ b)
    (hd : ∀ t b k, (G1 t).fp b k → (∃ u, (G u).fp b k) ∨ w.heap.size ≤ b) : St c G1 zl s1 a w' where
  inv := hi
  val := fun t ht => (hv t).trans (h.val t ht)
  size := h.size
  small := h.small
  defers := h.defers
  tr := ⟨h.tr.ext.trans hE (fun b k hs hb => (hS b k hs).elim id (fun hs => by omega)), fun t b k hf => by
    rcases hd t b k hf with ⟨u, hu⟩ | hb
    · exact h.tr.dom u b k hu
    · exact .inr (Nat.le_trans h.tr.ext.size hb), h.tr.zl0, h.tr.zl, h.tr.gl, h.tr.glF⟩
  args := fun i v hi => (hv _).trans (h.args i v hi)
/-- A slot is written. -/
theorem put (h : St c G zl s a w) {x : C} {n : Nat} (hn : n < c.nt) (hok : x.ok w (Zf zl c.zb)) (hsep : ∀ t, t ≠ n → ∀ b k, x.fp b k → ¬ (G t).fp b k) (hfz : ∀ b k, x.fp b k → ¬ zl b k ∧ ¬ c.zb b k) (hrf : x.rf G)
    (hdom : ∀ b k, x.fp b k → c.F0 b k ∨ c.w0.heap.size ≤ b) : ∃ G', St c G' zl (M.put n x.er s) (a.put (some n) x.val) w := by
  obtain ⟨G', i1, i2, i3, i4, i5⟩ := h.inv.put n x hok hsep hfz hrf
  refine ⟨G', ⟨i1, fun t ht => ?_, by simp [Act.put, h.size], h.small, by simpa [Act.put] using h.defers, ⟨h.tr.ext, fun t b k hf => ?_, h.tr.zl0, h.tr.zl, h.tr.gl, h.tr.glF⟩, fun i v hi => ?_⟩⟩
  · by_cases e : t = n
    · subst e
      rw [i2]
      simp only [Act.put, Array.getD_eq_getD_getElem?]
      rw [Array.getElem?_setIfInBounds_self_of_lt (by rw [h.size]; exact hn)]
      rfl
    · rw [i3 t e, h.val t ht]
      simp only [Act.put, Array.getD_eq_getD_getElem?]
      rw [Array.getElem?_setIfInBounds_ne (fun e' => e e'.symm)]
  · by_cases e : t = n
    · subst e; exact hdom b k (i4 b k hf)
    · exact h.tr.dom t b k (i5 t e b k hf)
  · rw [i3 _ (by have := h.small; omega)]
    exact h.args i v hi
/-- What was taken is put into a slot. -/
theorem took (h : St c G zl s a w) {x : C} (hT : Took w zl c.zb G x G1 s1) {n : Nat} (hn : n < c.nt) : ∃ G', St c G' zl (M.put n x.er s1) (a.put (some n) x.val) w := by
  have h1 : St c G1 zl s1 a w := h.move hT.inv hT.val (Ext.refl (fun _ _ => False) w) (fun _ _ hs => hs.elim) (fun t b k hf => .inl ⟨t, hT.mono t b k hf⟩)
  exact h1.put hn hT.ok (fun t _ b k hf => hT.sep t b k hf) hT.fz hT.rf (fun b k hf => by obtain ⟨t, ht⟩ := hT.dom b k hf; exact h.tr.dom t b k ht)
theorem opd (h : St c G zl s a w) {x : C} (ho : Opd w zl c.zb G x) {n : Nat} (hn : n < c.nt) : ∃ G', St c G' zl (M.put n x.er s) (a.put (some n) x.val) w :=
  h.took (Took.self h.inv ho.ok ho.rf ho.nofp) hn
/-- A value that lies nowhere. -/
theorem flat (h : St c G zl s a w) {x : C} (hp : x.plain) (hnr : ∀ m sz A len cap e, x ≠ .row m sz A len cap e) (hok : x.ok w (Zf zl c.zb)) {n : Nat} (hn : n < c.nt) : ∃ G', St c G' zl (M.put n x.er s) (a.put (some n) x.val) w :=
  h.opd ⟨hok, C.plain_rf hp G, fun b k hf => by cases x <;> first | exact hf.elim | exact hp.elim | exact (hnr _ _ _ _ _ _ rfl).elim⟩ hn
end St

/-- One operation, done: what Go comes to, and where the machine stands. -/
def Good (P : Program) (c : Ctx) (o : Oper) (a : Act) (w : World) (K : Slots → Prop) : Prop :=
  ∃ v w', ((execOp a.eval o).run P w = .ok (.value v) w' ∨ ((execOp a.eval o).run P w = .ok .skip w' ∧ v = undef)) ∧ ∃ G' zl' s', K s' ∧ St c G' zl' s' (a.put o.dst v) w'

/-- One operation that only reads: so it does too when there is more memory. -/
def GoodR (P : Program) (c : Ctx) (o : Oper) (a : Act) (w : World) (K : Slots → Prop) : Prop :=
  ∃ v, (∀ w', Ext (fun _ _ => False) w w' → (execOp a.eval o).run P w' = .ok (.value v) w') ∧ ∃ G' zl' s', K s' ∧ St c G' zl' s' (a.put o.dst v) w
theorem GoodR.good {P : Program} {c : Ctx} {o : Oper} {a : Act} {w : World} {K : Slots → Prop} (h : GoodR P c o a w K) : Good P c o a w K := by
  obtain ⟨v, hr, h⟩ := h
  exact ⟨v, w, .inl (hr w (Ext.refl _ _)), h⟩

/-- Where q says so, no old cell has changed. -/
def Rel (q : Bool) (w w' : World) : Prop := q = true → Ext (fun _ _ => False) w w'
theorem Rel.refl (q : Bool) (w : World) : Rel q w w := fun _ => Ext.refl _ _
/-- One operation that changes no old cell. -/
def GoodQ (P : Program) (c : Ctx) (o : Oper) (a : Act) (w : World) (K : Slots → Prop) : Prop :=
  ∃ v w', (execOp a.eval o).run P w = .ok (.value v) w' ∧ Ext (fun _ _ => False) w w' ∧ ∃ G' zl' s', K s' ∧ St c G' zl' s' (a.put o.dst v) w'
theorem GoodQ.good {P : Program} {c : Ctx} {o : Oper} {a : Act} {w : World} {K : Slots → Prop} (h : GoodQ P c o a w K) : Good P c o a w K := by
  obtain ⟨v, w', hr, _, h⟩ := h
  exact ⟨v, w', .inl hr, h⟩
theorem GoodR.quiet {P : Program} {c : Ctx} {o : Oper} {a : Act} {w : World} {K : Slots → Prop} (h : GoodR P c o a w K) : GoodQ P c o a w K := by
  obtain ⟨v, hr, h⟩ := h
  exact ⟨v, w, hr w (Ext.refl _ _), Ext.refl _ _, h⟩

/-- A constant of Go's, and of ours. -/
def chkC : Value → X → Bool
  | .int k n, .int k' n' => decide (k = k') && decide (n = n')
  | .bool b, .bool b' => b == b'
  | .string s, .str s' => decide (s = s') && decide (s.size ≤ 9223372036854775807)
  | .slice none 0 0, .row .own _ [] => true
  | _, _ => false
def chkV : Operand → AV → Bool
  | .tmp n, .t n' => n == n' && decide (n < base)
  | .const v, .k .dead => true
  | .const v, .k x => chkC v x
  | .func f, .k (.fn f' []) => f == f'
  | _, _ => false
section
variable {c : Ctx} {G : Nat → C} {zl : Nat → Nat → Prop} {s : Slots} {a : Act} {w : World}
theorem const_ok {v : Value} {x : X} (h : chkC v x = true) : ∃ d : C, d.er = x ∧ d.val = v ∧ Opd w zl c.zb G d ∧ d.plain := by
  unfold chkC at h
  split at h
  · simp only [Bool.and_eq_true, decide_eq_true_eq] at h
    obtain ⟨rfl, rfl⟩ := h
    exact ⟨.int _ _, rfl, rfl, ⟨trivial, trivial, fun _ _ h => h⟩, trivial⟩
  · simp only [beq_iff_eq] at h
    subst h
    exact ⟨.bool _, rfl, rfl, ⟨trivial, trivial, fun _ _ h => h⟩, trivial⟩
  · simp only [Bool.and_eq_true, decide_eq_true_eq] at h
    obtain ⟨rfl, h⟩ := h
    exact ⟨.str _, rfl, rfl, ⟨h, trivial, fun _ _ h => h⟩, trivial⟩
  · rename_i sz
    refine ⟨.row .own sz none 0 0 fun _ _ => .dead undef, rfl, rfl, ⟨⟨Nat.le_refl _, fun i j hi => (by omega), fun i j hi => (by omega), fun _ => .inl ⟨rfl, rfl⟩, fun i j hi => (by omega)⟩, trivial, ?_⟩, trivial⟩
    rintro b k ⟨_, ⟨o, ho⟩ | ⟨i, j, hi, _⟩⟩
    · cases ho
    · omega
  · cases h
theorem av_ok (h : St c G zl s a w) {o : Operand} {x : AV} (hc : chkV o x = true) : ∃ d : C, d.er = opv s x ∧ d.val = a.eval o ∧ Opd w zl c.zb G d := by
  unfold chkV at hc
  split at hc
  · simp only [Bool.and_eq_true, beq_iff_eq, decide_eq_true_eq] at hc
    obtain ⟨rfl, hb⟩ := hc
    rename_i n
    obtain ⟨a1, a2, a3⟩ := opd_of h n
    exact ⟨_, a1, a2.trans (h.val n hb), a3⟩
  · rename_i v
    exact ⟨.dead v, rfl, rfl, ⟨trivial, trivial, fun _ _ h => h⟩⟩
  · obtain ⟨d, h1, h2, h3, _⟩ := const_ok (w := w) (zl := zl) (c := c) (G := G) hc
    exact ⟨d, h1, h2, h3⟩
  · simp only [beq_iff_eq] at hc
    subst hc
    exact ⟨.fn _ 0 fun _ => .dead undef, rfl, rfl, ⟨fun j hj => (by omega), fun j hj => (by omega), fun _ _ h => h⟩⟩
  · cases hc

/-! ### What an operand's X says of its value -/
theorem er_int {d : C} {k : IntKind} {n : Int} (h : d.er = .int k n) : d = .int k n := by cases d <;> simp [C.er] at h ⊢ <;> first | exact h | skip
theorem er_bool {d : C} {b : Bool} (h : d.er = .bool b) : d = .bool b := by cases d <;> simp [C.er] at h ⊢; exact h
theorem er_str {d : C} {t : ByteArray} (h : d.er = .str t) : d = .str t := by cases d <;> simp [C.er] at h ⊢; exact h

theorem op_mv {P : Program} (h : St c G zl s a w) {o : Oper} {K : Slots → Prop} {d : Nat} {x : AV} {x' : Operand} (ho : o.op = .move x' ∨ o.op = .assign x') (hd : o.dst = some d) (hn : d < c.nt) (hx : chkV x' x = true) (hK : awpOp P (.mv d x) s K) : GoodR P c o a w K := by
  obtain ⟨y, e1, e2, e3⟩ := av_ok h hx
  obtain ⟨G', h'⟩ := h.opd e3 hn
  refine ⟨a.eval x', fun w' _ => ?_, G', zl, _, hK, ?_⟩
  · rcases ho with ho | ho <;> simp [execOp, ho]
  · rw [hd, ← e2, ← e1]; exact h'
theorem op_asg {P : Program} (h : St c G zl s a w) {o : Oper} {K : Slots → Prop} {d : Nat} {tk : Tk} {x : AV} {x' : Operand} (ho : o.op = .assign x') (hd : o.dst = some d) (hn : d < c.nt) (hx : chkV x' x = true) (hK : awpOp P (.asg d tk x) s K) : GoodQ P c o a w K := by
  obtain ⟨y, e1, e2, e3⟩ := av_ok h hx
  obtain ⟨y', G1, f1, f2, _, f4⟩ := take_ok tk h.inv e3
  obtain ⟨G', h'⟩ := h.took f4 hn
  refine ⟨a.eval x', w, by simp [execOp, ho], Ext.refl _ _, G', zl, _, hK, ?_⟩
  rw [hd, ← e2, ← f2, ← e1, ← f1]; exact h'
theorem op_pick {P : Program} (h : St c G zl s a w) {o : Oper} {K : Slots → Prop} {d : Nat} {x y z : AV} {x' y' z' : Operand} (ho : o.op = .pick x' y' z') (hd : o.dst = some d) (hn : d < c.nt) (hx : chkV x' x = true) (hy : chkV y' y = true) (hz : chkV z' z = true)
    (hK : awpOp P (.pick d x y z) s K) : GoodR P c o a w K := by
  obtain ⟨p, p1, p2, p3⟩ := av_ok h hx
  obtain ⟨q, q1, q2, q3⟩ := av_ok h hy
  obtain ⟨r, r1, r2, r3⟩ := av_ok h hz
  simp only [awpOp] at hK
  split at hK
  · rename_i t ht
    rw [← p1] at ht
    have hp := er_bool ht
    subst hp
    have hsel : ∃ u : C, u.er = pickX t (opv s y) (opv s z) ∧ u.val = (if t then a.eval y' else a.eval z') ∧ Opd w zl c.zb G u := by
      rw [← q1, ← r1, ← q2, ← r2]
      unfold pickX
      split
      · rename_i b1 b2 h1 h2
        have hq := er_bool h1
        have hr := er_bool h2
        subst hq; subst hr
        refine ⟨.bool (bif t then b1 else b2), rfl, ?_, ⟨trivial, trivial, fun _ _ h => h⟩⟩
        cases t <;> rfl
      · cases t
        · exact ⟨r, rfl, rfl, r3⟩
        · exact ⟨q, rfl, rfl, q3⟩
    obtain ⟨u, u1, u2, u3⟩ := hsel
    obtain ⟨G', h'⟩ := h.opd u3 hn
    refine ⟨if t then a.eval y' else a.eval z', fun w' _ => ?_, G', zl, _, hK, ?_⟩
    · have : a.eval x' = .bool t := by rw [← p2]; rfl
      simp [execOp, ho, this, asBool]
    · rw [hd, ← u2, ← u1]; exact h'
  · exact hK.elim
end
end M
set_option linter.unusedVariables false
set_option linter.unusedSimpArgs false
namespace M
open Go Go.RowKit
variable [Bs]
section
variable {P : Program} {c : Ctx} {G : Nat → C} {zl : Nat → Nat → Prop} {s : Slots} {a : Act} {w : World} {o : Oper} {K : Slots → Prop}

theorem bytes_eq (x y : ByteArray) : (x.toList == y.toList) = decide (x = y) := by
  rw [Bool.eq_iff_iff]
  simp only [beq_iff_eq, decide_eq_true_eq, Go.ByteArray.toList_eq]
  constructor
  · intro h
    cases x; cases y
    congr 1
    exact Array.toList_inj.1 h
  · intro h
    rw [h]

/-- A value that lies nowhere is put into a slot. -/
theorem good_flat (h : St c G zl s a w) {d : Nat} (hd : o.dst = some d) (hn : d < c.nt) {x : C} (hp : x.plain) (hnr : ∀ m sz A len cap e, x ≠ .row m sz A len cap e) (hok : x.ok w (Zf zl c.zb))
    (hrun : ∀ w', Ext (fun _ _ => False) w w' → (execOp a.eval o).run P w' = .ok (.value x.val) w') (hK : K (put d x.er s)) : GoodR P c o a w K := by
  obtain ⟨G', h'⟩ := h.flat hp hnr hok hn
  exact ⟨_, hrun, G', zl, _, hK, by rw [hd]; exact h'⟩
theorem good_opd (h : St c G zl s a w) {d : Nat} (hd : o.dst = some d) (hn : d < c.nt) {x : C} (hx : Opd w zl c.zb G x)
    (hrun : ∀ w', Ext (fun _ _ => False) w w' → (execOp a.eval o).run P w' = .ok (.value x.val) w') (hK : K (put d x.er s)) : GoodR P c o a w K := by
  obtain ⟨G', h'⟩ := h.opd hx hn
  exact ⟨_, hrun, G', zl, _, hK, by rw [hd]; exact h'⟩

theorem op_un (h : St c G zl s a w) {d : Nat} {op : UnOp} {ty : TypeId} {x : AV} {x' : Operand} (ho : o.op = .unOp op ty x') (hd : o.dst = some d) (hn : d < c.nt) (hx : chkV x' x = true)
    (hK : awpOp P (.un d op x) s K) : GoodR P c o a w K := by
  obtain ⟨y, e1, e2, e3⟩ := av_ok h hx
  obtain ⟨k1, k2⟩ := hK
  rw [← e1] at k1 k2
  cases y with
  | int k n =>
    cases op <;> simp only [unOk, C.er] at k1
    refine good_flat h hd hn (x := .int k (k.wrap (0 - n))) trivial (fun _ _ _ _ _ _ e => (by cases e)) trivial (fun w' _ => ?_) k2
    simp [execOp, ho, ← e2, C.val, Op.unary, Op.intArith]
  | bool b =>
    cases op <;> simp only [unOk, C.er] at k1
    refine good_flat h hd hn (x := .bool (!b)) trivial (fun _ _ _ _ _ _ e => (by cases e)) trivial (fun w' _ => ?_) k2
    simp [execOp, ho, ← e2, C.val, Op.unary]
  | _ => cases op <;> exact k1.elim

theorem op_bin (h : St c G zl s a w) {d : Nat} {op : BinOp} {ty ty' : TypeId} {x y : AV} {x' y' : Operand} (ho : o.op = .binOp op ty x' y' ty') (hd : o.dst = some d) (hn : d < c.nt) (hx : chkV x' x = true) (hy : chkV y' y = true)
    (hK : awpOp P (.bin d op x y) s K) : GoodR P c o a w K := by
  obtain ⟨p, p1, p2, p3⟩ := av_ok h hx
  obtain ⟨q, q1, q2, q3⟩ := av_ok h hy
  obtain ⟨k1, k2⟩ := hK
  rw [← p1, ← q1] at k1 k2
  cases p with
  | int k m =>
    cases q with
    | int k' n =>
      have hrun : ∀ v : C, (∀ w, (binOp op ty (.int k m) (.int k' n)).run P w = .ok v.val w) → ∀ w', Ext (fun _ _ => False) w w' → (execOp a.eval o).run P w' = .ok (.value v.val) w' := by
        intro v hv w' _
        have hg : eqGuard op ty x' y' (.int k m) (.int k' n) = pure () := by unfold eqGuard; cases op <;> rfl
        simp [execOp, ho, ← p2, ← q2, C.val, hg, hv]
      cases op <;> simp only [binOk, C.er] at k1
      case add => subst k1; exact good_flat h hd hn (x := .int k _) trivial (fun _ _ _ _ _ _ e => (by cases e)) trivial (hrun _ (fun w => by simp [binOp, Op.intArith, C.val])) k2
      case sub => subst k1; exact good_flat h hd hn (x := .int k _) trivial (fun _ _ _ _ _ _ e => (by cases e)) trivial (hrun _ (fun w => by simp [binOp, Op.intArith, C.val])) k2
      case mul => subst k1; exact good_flat h hd hn (x := .int k _) trivial (fun _ _ _ _ _ _ e => (by cases e)) trivial (hrun _ (fun w => by simp [binOp, Op.intArith, C.val])) k2
      case quo => obtain ⟨rfl, k1⟩ := k1; exact good_flat h hd hn (x := .int k _) trivial (fun _ _ _ _ _ _ e => (by cases e)) trivial (hrun _ (fun w => by simp [binOp, Op.intDiv, C.val, k1])) k2
      case rem => obtain ⟨rfl, k1⟩ := k1; exact good_flat h hd hn (x := .int k _) trivial (fun _ _ _ _ _ _ e => (by cases e)) trivial (hrun _ (fun w => by simp [binOp, Op.intDiv, C.val, k1])) k2
      case shl => exact good_flat h hd hn (x := .int k _) trivial (fun _ _ _ _ _ _ e => (by cases e)) trivial (hrun _ (fun w => by simp [binOp, Op.shift, C.val, show ¬ n < 0 by omega])) k2
      case shr => exact good_flat h hd hn (x := .int k _) trivial (fun _ _ _ _ _ _ e => (by cases e)) trivial (hrun _ (fun w => by simp [binOp, Op.shift, C.val, show ¬ n < 0 by omega])) k2
      case and => subst k1; exact good_flat h hd hn (x := .int k _) trivial (fun _ _ _ _ _ _ e => (by cases e)) trivial (hrun _ (fun w => by simp [binOp, Op.intBits, C.val])) k2
      case or => subst k1; exact good_flat h hd hn (x := .int k _) trivial (fun _ _ _ _ _ _ e => (by cases e)) trivial (hrun _ (fun w => by simp [binOp, Op.intBits, C.val])) k2
      case xor => subst k1; exact good_flat h hd hn (x := .int k _) trivial (fun _ _ _ _ _ _ e => (by cases e)) trivial (hrun _ (fun w => by simp [binOp, Op.intBits, C.val])) k2
      case eql => subst k1; exact good_flat h hd hn (x := .bool _) trivial (fun _ _ _ _ _ _ e => (by cases e)) trivial (hrun _ (fun w => by simp only [binOp, Op.intCmp, C.val, if_neg (Classical.not_not.2 rfl)]; rfl)) k2
      case neq => subst k1; exact good_flat h hd hn (x := .bool _) trivial (fun _ _ _ _ _ _ e => (by cases e)) trivial (hrun _ (fun w => by simp only [binOp, Op.intCmp, C.val, if_neg (Classical.not_not.2 rfl)]; rfl)) k2
      case lss => subst k1; exact good_flat h hd hn (x := .bool _) trivial (fun _ _ _ _ _ _ e => (by cases e)) trivial (hrun _ (fun w => by simp [binOp, Op.intCmp, C.val])) k2
      case leq => subst k1; exact good_flat h hd hn (x := .bool _) trivial (fun _ _ _ _ _ _ e => (by cases e)) trivial (hrun _ (fun w => by simp [binOp, Op.intCmp, C.val])) k2
      case gtr => subst k1; exact good_flat h hd hn (x := .bool _) trivial (fun _ _ _ _ _ _ e => (by cases e)) trivial (hrun _ (fun w => by simp [binOp, Op.intCmp, C.val])) k2
      case geq => subst k1; exact good_flat h hd hn (x := .bool _) trivial (fun _ _ _ _ _ _ e => (by cases e)) trivial (hrun _ (fun w => by simp [binOp, Op.intCmp, C.val])) k2
    | _ => exact k1.elim
  | str m =>
    cases q with
    | str n =>
      have hrun : ∀ v : C, (∀ w, (binOp op ty (.string m) (.string n)).run P w = .ok v.val w) → ∀ w', Ext (fun _ _ => False) w w' → (execOp a.eval o).run P w' = .ok (.value v.val) w' := by
        intro v hv w' _
        have hg : eqGuard op ty x' y' (.string m) (.string n) = pure () := by unfold eqGuard; cases op <;> rfl
        simp [execOp, ho, ← p2, ← q2, C.val, hg, hv]
      cases op <;> simp only [binOk, C.er] at k1
      case add =>
        have hsz : (m ++ n).size = m.size + n.size := by simp
        exact good_flat h hd hn (x := .str _) trivial (fun _ _ _ _ _ _ e => (by cases e)) (by show (m ++ n).size ≤ _; omega) (hrun _ (fun w => by
          have : ¬ ((m.size + n.size : Nat) : Int) > IntKind.i64.max := by show ¬ (((m.size + n.size : Nat) : Int) > 9223372036854775807); omega
          simp only [binOp, Op.stringOp, if_neg this, C.val, Sem.run_pure])) k2
      case eql => exact good_flat h hd hn (x := .bool _) trivial (fun _ _ _ _ _ _ e => (by cases e)) trivial (hrun _ (fun w => by simp only [binOp, Op.stringOp, C.val, bytes_eq, Sem.run_pure])) k2
      case neq => exact good_flat h hd hn (x := .bool _) trivial (fun _ _ _ _ _ _ e => (by cases e)) trivial (hrun _ (fun w => by simp only [binOp, Op.stringOp, C.val, bytes_eq, Sem.run_pure])) k2
    | _ => exact k1.elim
  | _ => exact k1.elim

theorem run_eql_bool {ty : TypeId} (ht : P.underlying ty = some .bool) (x y : Bool) : (binOp .eql ty (.bool x) (.bool y)).run P w = .ok (.bool (x == y)) w := by
  show ((do pure (Value.bool (← Op.equal ty (.bool x) (.bool y))) : Sem Value).run P w) = _
  rw [Sem.run_bind]
  unfold Op.equal
  show ((Op.equalIn (9999 + 1) ty (.bool x) (.bool y)).run P w).andThen _ = _
  rw [run_equalIn_bool' w 9999 ty x y ht]
  rfl
theorem run_neq_bool {ty : TypeId} (ht : P.underlying ty = some .bool) (x y : Bool) : (binOp .neq ty (.bool x) (.bool y)).run P w = .ok (.bool (!(x == y))) w := by
  show ((do pure (Value.bool (!(← Op.equal ty (.bool x) (.bool y)))) : Sem Value).run P w) = _
  rw [Sem.run_bind]
  unfold Op.equal
  show ((Op.equalIn (9999 + 1) ty (.bool x) (.bool y)).run P w).andThen _ = _
  rw [run_equalIn_bool' w 9999 ty x y ht]
  rfl
theorem guard_bool (op : BinOp) (ty : TypeId) (p q : Operand) (x y : Bool) : eqGuard op ty p q (.bool x) (.bool y) = pure () := by unfold eqGuard; cases op <;> rfl
theorem op_beq (h : St c G zl s a w) {d : Nat} {neg : Bool} {ty ty' : TypeId} {x y : AV} {x' y' : Operand} (ho : o.op = .binOp (bif neg then .neq else .eql) ty x' y' ty') (ht : P.underlying ty = some .bool) (hd : o.dst = some d) (hn : d < c.nt) (hx : chkV x' x = true) (hy : chkV y' y = true)
    (hK : awpOp P (.beq d neg x y) s K) : GoodR P c o a w K := by
  obtain ⟨p, p1, p2, p3⟩ := av_ok h hx
  obtain ⟨q, q1, q2, q3⟩ := av_ok h hy
  simp only [awpOp] at hK
  split at hK
  · rename_i b1 b2 h1 h2
    rw [← p1] at h1
    rw [← q1] at h2
    have e1 := er_bool h1
    have e2 := er_bool h2
    subst e1; subst e2
    refine good_flat h hd hn (x := .bool (xor neg (b1 == b2))) trivial (fun _ _ _ _ _ _ e => (by cases e)) trivial (fun w' _ => ?_) hK
    cases neg
    · simp only [execOp, ho, ← p2, ← q2, C.val, guard_bool, Sem.run_bind, Sem.run_pure, Result.andThen_ok, cond_false, run_eql_bool ht, Bool.false_bne]
    · simp only [execOp, ho, ← p2, ← q2, C.val, guard_bool, Sem.run_bind, Sem.run_pure, Result.andThen_ok, cond_true, run_neq_bool ht, Bool.true_bne]
  · exact hK.elim

theorem op_conv (h : St c G zl s a w) {d : Nat} {k : IntKind} {sr dt : TypeId} {sd : TypeDesc} {x : AV} {x' : Operand} (ho : o.op = .convert sr dt x') (hs : P.underlying sr = some sd) (hu : P.underlying dt = some (.int k)) (hd : o.dst = some d) (hn : d < c.nt) (hx : chkV x' x = true)
    (hK : awpOp P (.conv d k x) s K) : GoodR P c o a w K := by
  obtain ⟨y, e1, e2, e3⟩ := av_ok h hx
  simp only [awpOp] at hK
  split at hK
  · rename_i k' n hy
    rw [← e1] at hy
    have := er_int hy
    subst this
    refine good_flat h hd hn (x := .int k _) trivial (fun _ _ _ _ _ _ e => (by cases e)) trivial (fun w' _ => ?_) hK
    simp [execOp, ho, ← e2, C.val, convert, run_underlying hs, run_underlying hu, Conv.intToInt]
  · exact hK.elim

theorem op_chk (h : St c G zl s a w) {d : Nat} {x : AV} {x' : Operand} (ho : o.op = .nilCheck x') (hd : o.dst = some d) (hn : d < c.nt) (hx : chkV x' x = true)
    (hK : awpOp P (.chk d x) s K) : GoodR P c o a w K := by
  obtain ⟨y, e1, e2, e3⟩ := av_ok h hx
  simp only [awpOp] at hK
  rw [← e1] at hK
  cases y with
  | adr v r p i k =>
    obtain ⟨y, hs, hy⟩ := e3.rf
    refine good_opd h hd hn e3 (fun w' _ => ?_) hK
    rcases hy with ⟨m, sz, g, o', len, cap, e, rfl, hv⟩ | ⟨m, g, o', n, cc, rfl, _, hv⟩ <;> (simp only [C.val] at e2; subst hv; simp [execOp, ho, ← e2, C.val])
  | ptr m g o' n f =>
    refine good_opd h hd hn e3 (fun w' _ => ?_) hK
    simp only [C.val] at e2
    simp [execOp, ho, ← e2, C.val]
  | fn f n g =>
    refine good_opd h hd hn e3 (fun w' _ => ?_) hK
    simp only [C.val] at e2
    simp [execOp, ho, ← e2, C.val]
  | _ => exact hK.elim
end
end M
set_option linter.unusedVariables false
set_option linter.unusedSimpArgs false
namespace M
open Go Go.RowKit
variable [Bs]

theorem add_at (g k j : Nat) : (⟨g, k, none⟩ : Addr).add j = ⟨g, k + j, none⟩ := by
  unfold Addr.add
  split
  · rename_i h; subst h; rfl
  · rfl
theorem range_drop (n c : Nat) : (List.range n).drop c = (List.range (n - c)).map (· + c) := by
  apply List.ext_getElem?
  intro i
  rw [List.getElem?_drop, List.getElem?_map]
  by_cases h : c + i < n
  · rw [List.getElem?_range h, List.getElem?_range (by omega)]
    simp [Nat.add_comm]
  · rw [List.getElem?_eq_none (by simp; omega), List.getElem?_eq_none (by simp; omega)]
    rfl

section
variable {P : Program} {c : Ctx} {G : Nat → C} {zl : Nat → Nat → Prop} {s : Slots} {a : Act} {w : World} {o : Oper} {K : Slots → Prop}

/-- Cells that lie one behind the other, from an address on. -/
structure Lies (w : World) (zl zb : Nat → Nat → Prop) (G : Nat → C) (v : Value) (l : List C) : Prop where
  addr : ∃ g k, v = .pointer (some ⟨g, k, none⟩) ∧ ∀ j (hj : j < l.length), w.cell? ⟨g, k + j, none⟩ = some l[j].val
  opd : ∀ x ∈ l, Opd w zl zb G x ∧ x.cell

theorem lies_of {zb : Nat → Nat → Prop} (h : Inv w zl zb G s) {y : C} (hy : Opd w zl zb G y) {cs : List X} (hc : cellsAt s y.er = some cs) : ∃ l : List C, l.map C.er = cs ∧ Lies w zl zb G y.val l := by
  cases y with
  | ptr m g o n f =>
    simp only [C.er, cellsAt] at hc
    injection hc with hc
    obtain ⟨h1, h2, h3, h4⟩ := hy.ok
    refine ⟨(List.range n).map f, by rw [← hc, List.map_map]; rfl, ⟨⟨g, o, rfl, fun j hj => ?_⟩, fun x hx => ?_⟩⟩
    · simp only [List.length_map, List.length_range] at hj
      simp only [List.getElem_map, List.getElem_range]
      exact (h1 j hj).1
    · obtain ⟨j, hj, rfl⟩ := List.mem_map.1 hx
      have hj' : j < n := by simpa using hj
      obtain ⟨a1, a2, a3⟩ := h3 j hj'
      exact ⟨⟨a3, hy.rf j hj', fun b k hf => hy.nofp b k (C.in_ptr a1 a2 hj' hf)⟩, a1⟩
  | adr v r p i k0 =>
    obtain ⟨z, hz, hp⟩ := hy.rf
    have hzok := C.sub_ok p hz (h.ok r)
    have hzrf := Inv.take_out.sub_rf p (h.ok r) hz (h.rf r)
    simp only [C.er, cellsAt, look] at hc
    rw [← h.er, C.sub_er, hz] at hc
    simp only [Option.map_some] at hc
    rcases hp with ⟨m, sz, g, o, len, cap, e, rfl, rfl⟩ | ⟨m, g, o, n, f, rfl, rfl, rfl⟩
    · simp only [C.er, C.map_range_get?] at hc
      by_cases hi : i < len
      · rw [if_pos hi] at hc
        simp only [Option.map_some, Option.some.injEq] at hc
        refine ⟨((List.range (sz - k0)).map (· + k0)).map fun j => (e i j).alias1 r (p ++ [(i, j)]), ?_, ⟨⟨g, o + i * sz + k0, rfl, fun j hj => ?_⟩, fun x hx => ?_⟩⟩
        · rw [← hc, ← List.map_drop, range_drop]
          rw [C.aliasL_er r p i ((List.range (sz - k0)).map (· + k0)) k0 (fun j => e i j) (by simp)]
          simp only [List.map_map]
          rfl
        · simp only [List.length_map, List.length_range] at hj
          simp only [List.getElem_map, List.getElem_range, C.alias1_val]
          obtain ⟨g', o', hA, hcell, _⟩ := hzok.2.1 i (j + k0) hi (by omega)
          injection hA with hA
          injection hA with e1 e2
          injection e2 with e2
          subst e1; subst e2
          rw [show o + i * sz + k0 + j = o + i * sz + (j + k0) by omega]
          exact hcell
        · obtain ⟨j, hj, rfl⟩ := List.mem_map.1 hx
          obtain ⟨j', hj', rfl⟩ := List.mem_map.1 hj
          have hj2 : j' + k0 < sz := by simp at hj'; omega
          obtain ⟨a1, a2, a3, a4⟩ := hzok.2.2.1 i (j' + k0) hi hj2
          refine ⟨⟨C.alias1_ok _ _ _ a4, C.alias1_rf _ _ _ (C.sub_append p hz (by simp only [C.step, if_pos (And.intro hi hj2)])) ?_, C.alias1_fp _ _ _ (C.cell_not a1)⟩, C.alias1_cell _ _ _ a1⟩
          have := Inv.take_out.sub_rf (w := w) (zl := zl) (zb := zb) (G := G) [(i, j' + k0)] hzok (d := e i (j' + k0)) (by simp only [C.sub, C.step, if_pos (And.intro hi hj2)]; rfl) hzrf
          exact this
      · rw [if_neg hi] at hc; cases hc
    · simp only [C.er, Option.some.injEq] at hc
      refine ⟨((List.range (n - k0)).map (· + k0)).map fun j => (f j).alias1 r (p ++ [(0, j)]), ?_, ⟨⟨g, o + k0, rfl, fun j hj => ?_⟩, fun x hx => ?_⟩⟩
      · rw [← hc, ← List.map_drop, range_drop]
        rw [C.aliasL_er r p 0 ((List.range (n - k0)).map (· + k0)) k0 f (by simp)]
        simp only [List.map_map]
        rfl
      · simp only [List.length_map, List.length_range] at hj
        simp only [List.getElem_map, List.getElem_range, C.alias1_val]
        rw [show o + k0 + j = o + (j + k0) by omega]
        exact (hzok.1 (j + k0) (by omega)).1
      · obtain ⟨j, hj, rfl⟩ := List.mem_map.1 hx
        obtain ⟨j', hj', rfl⟩ := List.mem_map.1 hj
        have hj2 : j' + k0 < n := by simp at hj'; omega
        obtain ⟨a1, a2, a3⟩ := hzok.2.2.1 (j' + k0) hj2
        exact ⟨⟨C.alias1_ok _ _ _ a3, C.alias1_rf _ _ _ (C.sub_append p hz (if_pos (And.intro rfl hj2))) (hzrf _ hj2), C.alias1_fp _ _ _ (C.cell_not a1)⟩, C.alias1_cell _ _ _ a1⟩
  | _ => simp [C.er, cellsAt] at hc

theorem aggL_opd {zb : Nat → Nat → Prop} {l : List C} (h : ∀ x ∈ l, Opd w zl zb G x ∧ x.cell) : Opd w zl zb G (aggL l) where
  ok := ⟨fun j hj => ⟨(h _ (getD_mem hj _)).2, (h _ (getD_mem hj _)).1.ok⟩, fun j hj b k hf => ((h _ (getD_mem hj _)).1.nofp b k hf).elim⟩
  rf := fun j hj => (h _ (getD_mem hj _)).1.rf
  nofp := fun b k hf => by
    obtain ⟨x, hx, hf⟩ := (aggL_fp _ _ _).1 hf
    exact (h x hx).1.nofp b k hf

theorem op_load (h : St c G zl s a w) {d sz : Nat} {agg : Bool} {ty : TypeId} {x : AV} {x' : Operand} (ho : o.op = .load ty x') (hsz : ∃ i, P.info? ty = some i ∧ i.size = sz) (hagg : ∃ dd, P.underlying ty = some dd ∧ (match dd with | .struct _ => true | .array _ _ => true | _ => false) = agg)
    (h1 : agg = true ∨ sz = 1) (hd : o.dst = some d) (hn : d < c.nt) (hx : chkV x' x = true)
    (hK : awpOp P (.load d sz agg x) s K) : GoodR P c o a w K := by
  obtain ⟨y, e1, e2, e3⟩ := av_ok h hx
  obtain ⟨cs, k1, k2, k3⟩ := hK
  rw [← e1] at k1
  obtain ⟨l, l1, ⟨g, k, hv, hcell⟩, l3⟩ := lies_of h.inv e3 k1
  have hlen : l.length = cs.length := by rw [← l1]; simp
  obtain ⟨i, hi, hisz⟩ := hsz
  obtain ⟨dd, hdd, hda⟩ := hagg
  have hrunA : ∀ w : World, (isAgg ty).run P w = .ok agg w := by
    intro w
    subst hda
    simp only [isAgg, Sem.run_bind, run_underlying hdd, Result.andThen_ok]
    cases dd <;> rfl
  have hsize : ∀ w : World, (Go.sizeOf ty).run P w = .ok sz w := by intro w; simp [Go.sizeOf, typeInfo, hi, hisz]
  have hcell' : ∀ w', Ext (fun _ _ => False) w w' → ∀ j (hj : j < l.length), w'.cell? ⟨g, k + j, none⟩ = some l[j].val := fun w' hE j hj => hE.cell (fun hs => hs) (hcell j hj)
  have hexec : ∀ w : World, (execOp a.eval o).run P w = ((loadVar ty ⟨g, k, none⟩).run P w).andThen fun v w' => .ok (.value v) w' := by
    intro w
    simp [execOp, ho, ← e2, hv, Instr.loadAt, Instr.sureAddr]
  cases agg with
  | true =>
    have hl : ∀ w', Ext (fun _ _ => False) w w' → (loadCells ⟨g, k, none⟩ sz).run P w' = .ok ((List.range sz).map fun j => ((l.take sz).getD j (.dead undef)).val).toArray w' := fun w' hE => run_loadCells w' _ sz _ (fun j hj => by
      rw [add_at, hcell' w' hE j (by omega)]
      congr 1
      rw [List.getD_eq_getElem?_getD, List.getElem?_take_of_lt hj, List.getElem?_eq_getElem (by omega)]
      rfl)
    have hval : (aggL (l.take sz)).val = .agg ((List.range sz).map fun j => ((l.take sz).getD j (.dead undef)).val).toArray := by
      simp only [aggL, C.val, List.length_take]
      rw [Nat.min_eq_left (by omega)]
    refine good_opd h hd hn (x := aggL (l.take sz)) (aggL_opd fun x hx => l3 x (List.mem_of_mem_take hx)) ?_ ?_
    · intro w' hE
      rw [hexec, hval]
      simp only [loadVar, Sem.run_bind, hrunA, Result.andThen_ok, if_true, hsize, hl w' hE, Sem.run_pure]
    · rw [aggL_er, List.map_take, l1]
      exact k3
  | false =>
    have hs1 : sz = 1 := h1.resolve_left (by simp)
    subst hs1
    cases l with
    | nil => simp at hlen; omega
    | cons y0 l =>
      refine good_opd h hd hn (x := y0) (l3 y0 (List.mem_cons_self ..)).1 ?_ ?_
      · intro w' hE
        have hc0 := hcell' w' hE 0 (by simp)
        simp only [Nat.add_zero, List.getElem_cons_zero] at hc0
        rw [hexec]
        simp only [loadVar, Sem.run_bind, hrunA, Result.andThen_ok, Bool.false_eq_true, if_false, run_load, hc0]
      · rw [← l1] at k3
        exact k3

theorem op_fadr (h : St c G zl s a w) {d off fi : Nat} {ty : TypeId} {fs : Array Field} {f : Field} {x : AV} {x' : Operand} (ho : o.op = .fieldAddr ty x' fi) (hu : P.underlying ty = some (.struct fs)) (hf : fs[fi]? = some f) (hfo : f.offset = off) (hfs : ∃ i, P.info? f.type = some i ∧ i.size ≠ 0)
    (hd : o.dst = some d) (hn : d < c.nt) (hx : chkV x' x = true) (hK : awpOp P (.fadr d x off) s K) : GoodR P c o a w K := by
  obtain ⟨y, e1, e2, e3⟩ := av_ok h hx
  obtain ⟨i, hi, hi0⟩ := hfs
  have hrun : ∀ g k, a.eval x' = .pointer (some ⟨g, k, none⟩) → ∀ w', Ext (fun _ _ => False) w w' → (execOp a.eval o).run P w' = .ok (.value (.pointer (some ⟨g, k + off, none⟩))) w' := by
    intro g k hv w' _
    simp [execOp, ho, hv, Instr.fieldAt, Instr.sureAddr, run_underlying hu, hf, fieldPlace, Go.sizeOf, typeInfo, hi, hi0, add_at, hfo]
  simp only [awpOp] at hK
  rw [← e1] at hK
  cases y with
  | adr v r p i' k0 =>
    obtain ⟨z, hz, hp⟩ := e3.rf
    have hcase : ∃ g k, v = .pointer (some ⟨g, k, none⟩) ∧ (C.adr (.pointer (some ⟨g, k + off, none⟩)) r p i' (k0 + off)).rf G := by
      rcases hp with ⟨m, sz, g, o', len, cap, e, rfl, rfl⟩ | ⟨m, g, o', n, f', rfl, rfl, rfl⟩
      · exact ⟨_, _, rfl, _, hz, .inl ⟨_, _, _, _, _, _, _, rfl, by rw [Nat.add_assoc]⟩⟩
      · exact ⟨_, _, rfl, _, hz, .inr ⟨_, _, _, _, _, rfl, rfl, by rw [Nat.add_assoc]⟩⟩
    obtain ⟨g, k, rfl, hrf⟩ := hcase
    refine good_opd h hd hn (x := .adr (.pointer (some ⟨g, k + off, none⟩)) r p i' (k0 + off)) ⟨trivial, hrf, fun _ _ hh => hh⟩ ?_ hK
    exact hrun g k e2.symm
  | ptr m g o' n f' =>
    obtain ⟨h1, h2, h3, h4⟩ := e3.ok
    refine good_opd h hd hn (x := .ptr m g (o' + off) (n - off) fun j => f' (j + off)) ⟨⟨fun j hj => ?_, h2, fun j hj => h3 (j + off) (by omega), fun j hj b k hf => ?_⟩, fun j hj => e3.rf (j + off) (by omega), fun b k hf => ?_⟩ ?_ ?_
    · rw [show o' + off + j = o' + (j + off) by omega]; exact h1 (j + off) (by omega)
    · obtain ⟨a1, a2⟩ := h4 (j + off) (by omega) b k hf
      exact ⟨fun hm hb => a1 hm (by omega), fun j' hj' hne => a2 (j' + off) (by omega) (by omega)⟩
    · obtain ⟨hm, hf | ⟨j, hj, hf⟩⟩ := hf
      · exact e3.nofp b k ⟨hm, .inl (by omega)⟩
      · exact e3.nofp b k ⟨hm, .inr ⟨j + off, by omega, hf⟩⟩
    · exact hrun g o' e2.symm
    · have : (C.ptr m g (o' + off) (n - off) fun j => f' (j + off)).er = .ptr m (((List.range n).map fun j => (f' j).er).drop off) := by
        simp only [C.er]
        rw [← List.map_drop, range_drop, List.map_map]
        rfl
      rw [this]
      exact hK
  | _ => exact hK.elim
end
end M
set_option linter.unusedVariables false
set_option linter.unusedSimpArgs false
namespace M
open Go Go.RowKit
variable [Bs]
def flatK (P : Program) (t : TypeId) (k : Nat) : Bool := match P.underlying t with
  | some (.int _) => k == 0
  | some .bool => k == 1
  | some .string => k == 2
  | _ => false
/-- A struct of plain fields, one cell each. -/
def flatF (P : Program) : Nat → List Nat → List Field → Bool
  | _, [], [] => true
  | n, k :: ks, f :: l => decide (f.offset = n) && decide (f.name ≠ "_") && flatK P f.type k && flatF P (n + 1) ks l
  | _, _, _ => false
def flatT (P : Program) (t : TypeId) (ks : List Nat) : Bool := (match P.underlying t with
  | some (.struct fs) => flatF P 0 ks fs.toList
  | _ => false) && !P.stoodInHeld t && !P.eqGuardType P.depth t
section
variable {P : Program} {c : Ctx} {G : Nat → C} {zl : Nat → Nat → Prop} {s : Slots} {a : Act} {w : World} {o : Oper} {K : Slots → Prop}
theorem part_flat {t : TypeId} {k : Nat} {vs : Array Value} {n : Nat} {v : Value} (ht : flatK P t k = true) (hv : vs[n]? = some v) (w : World) : (part t vs n).run P w = .ok v w := by
  unfold flatK at ht
  split at ht <;> first | (rename_i h; simp [part, isAgg, run_underlying h, hv]) | cases ht
theorem eqFields_flat {w : World} {xs ys : Array Value} (d : Nat) : ∀ (l : List Field) (ks : List Nat) (ps qs : List C) (n : Nat) (t : Bool), flatF P n ks l = true → (∀ j, (ps[j]?).map C.val = xs[n + j]?) → (∀ j, (qs[j]?).map C.val = ys[n + j]?) →
    eqCells ks (ps.map C.er) (qs.map C.er) = some t → (Op.eqFields (d + 1) xs ys l).run P w = .ok t w := by
  intro l
  induction l with
  | nil =>
    intro ks ps qs n t hf _ _ he
    cases ks with
    | nil =>
      cases ps <;> cases qs <;> simp [eqCells] at he
      subst he
      simp [Op.eqFields]
    | cons k ks => cases hf
  | cons f l ih =>
    intro ks ps qs n t hf hx hy he
    cases ks with
    | nil => cases hf
    | cons k ks =>
    cases ps with
    | nil => simp [eqCells] at he
    | cons p ps =>
    cases qs with
    | nil => simp [eqCells] at he
    | cons q qs =>
    simp only [flatF, Bool.and_eq_true, decide_eq_true_eq] at hf
    obtain ⟨⟨⟨hoff, hname⟩, hk⟩, hrest⟩ := hf
    have hx0 := hx 0
    have hy0 := hy 0
    simp only [List.getElem?_cons_zero, Option.map_some, Nat.add_zero] at hx0 hy0
    have ih' := fun t => ih ks ps qs (n + 1) t hrest (fun j => by have := hx (j + 1); simpa [Nat.add_assoc, Nat.add_comm 1 j] using this) (fun j => by have := hy (j + 1); simpa [Nat.add_assoc, Nat.add_comm 1 j] using this)
    have step : ∀ b : Bool, (∀ w : World, (Op.equalIn (d + 1) f.type p.val q.val).run P w = .ok b w) → (eqCells ks (ps.map C.er) (qs.map C.er)).map (fun t => b && t) = some t → (Op.eqFields (d + 1) xs ys (f :: l)).run P w = .ok t w := by
      intro b hb h1
      cases h2 : eqCells ks (ps.map C.er) (qs.map C.er) with
      | none => rw [h2] at h1; cases h1
      | some t' =>
        rw [h2] at h1
        simp only [Option.map_some, Option.some.injEq] at h1
        subst h1
        simp only [Op.eqFields, if_pos hname, Sem.run_bind, hoff, part_flat hk hx0.symm, part_flat hk hy0.symm, Result.andThen_ok, hb]
        cases b with
        | true => simpa using ih' t' h2
        | false => simp
    unfold flatK at hk
    simp only [List.map_cons] at he
    split at hk
    · rename_i h
      obtain rfl : k = 0 := by simpa using hk
      cases p <;> cases q <;> simp only [C.er, eqCells] at he <;> try (cases he; done)
      split at he
      · rename_i hkk
        subst hkk
        exact step _ (fun w => run_equalIn_int w d f.type _ _ _ _ h) he
      · cases he
    · rename_i h
      obtain rfl : k = 1 := by simpa using hk
      cases p <;> cases q <;> simp only [C.er, eqCells] at he <;> try (cases he; done)
      exact step _ (fun w => run_equalIn_bool' w d f.type _ _ h) he
    · rename_i h
      obtain rfl : k = 2 := by simpa using hk
      cases p <;> cases q <;> simp only [C.er, eqCells] at he <;> try (cases he; done)
      refine step _ (fun w => ?_) he
      rw [show (C.str _).val = Value.string _ from rfl, show (C.str _).val = Value.string _ from rfl, run_equalIn_string w d f.type _ _ h, bytes_eq]
    · cases hk
theorem op_aeq (h : St c G zl s a w) {d : Nat} {neg : Bool} {ks : List Nat} {ty ty' : TypeId} {x y : AV} {x' y' : Operand} (ho : o.op = .binOp (bif neg then .neq else .eql) ty x' y' ty') (ht : flatT P ty ks = true) (hd : o.dst = some d) (hn : d < c.nt) (hx : chkV x' x = true) (hy : chkV y' y = true)
    (hK : awpOp P (.aeq d neg ks x y) s K) : GoodR P c o a w K := by
  obtain ⟨p, p1, p2, p3⟩ := av_ok h hx
  obtain ⟨q, q1, q2, q3⟩ := av_ok h hy
  simp only [awpOp] at hK
  rw [← p1, ← q1] at hK
  simp only [flatT, Bool.and_eq_true, Bool.not_eq_true'] at ht
  obtain ⟨⟨ht, hst⟩, hgu⟩ := ht
  split at ht
  · rename_i fs hfs
    have hfo : P.fieldsOf ty = fs := by simp only [Program.fieldsOf, hfs]
    cases p with
    | agg n f =>
      cases q with
      | agg m g =>
        simp only [C.er] at hK
        obtain ⟨t, he, hK⟩ := hK
        have hcell : ∀ (n : Nat) (f : Nat → C) (j : Nat), ((((List.range n).map f)[j]?).map C.val) = ((((List.range n).map fun j => (f j).val).toArray)[0 + j]?) := fun n f j => by
          rw [Nat.zero_add, List.getElem?_toArray, C.map_range_get?]
          rw [C.map_range_get? (fun j => (f j).val)]
          split <;> rfl
        have hrun : ∀ w' : World, (Op.equalIn 10000 ty (C.agg n f).val (C.agg m g).val).run P w' = .ok t w' := fun w' => by
          simp only [C.val]
          rw [run_equalIn_struct w' 9999 ty _ _ (by rw [hfo]; exact hfs) hst, hfo]
          exact eqFields_flat 9998 fs.toList ks ((List.range n).map f) ((List.range m).map g) 0 t ht (hcell n f) (hcell m g) (by rw [List.map_map, List.map_map]; exact he)
        refine good_flat h hd hn (x := .bool (xor neg t)) trivial (fun _ _ _ _ _ _ e => (by cases e)) trivial (fun w' _ => ?_) hK
        have e1 : ∀ w' : World, (eqGuard (bif neg then .neq else .eql) ty x' y' (C.agg n f).val (C.agg m g).val).run P w' = .ok () w' := fun w' => run_eqGuard_agg w' _ ty x' y' _ _ hgu
        cases neg
        · simp only [execOp, ho, ← p2, ← q2, Sem.run_bind, cond_false]
          simp only [cond_false] at e1
          rw [e1]
          simp only [Result.andThen_ok]
          rw [show (C.agg n f).val = .agg _ from rfl, show (C.agg m g).val = .agg _ from rfl] at hrun ⊢
          rw [run_eql_struct, hrun]
          simp
          rfl
        · simp only [execOp, ho, ← p2, ← q2, Sem.run_bind, cond_true]
          simp only [cond_true] at e1
          rw [e1]
          simp only [Result.andThen_ok]
          rw [show (C.agg n f).val = .agg _ from rfl, show (C.agg m g).val = .agg _ from rfl] at hrun ⊢
          rw [run_neq_struct, hrun]
          simp
          rfl
      | _ => exact hK.elim
    | _ => exact hK.elim
  · cases ht
end
end M
set_option linter.unusedVariables false
set_option linter.unusedSimpArgs false
namespace M
open Go Go.RowKit
variable [Bs]
section
variable {P : Program} {c : Ctx} {G : Nat → C} {zl : Nat → Nat → Prop} {s : Slots} {a : Act} {w : World} {o : Oper} {K : Slots → Prop}

/-- A slice's elements, where they lie. -/
structure RowV (w : World) (zl zb : Nat → Nat → Prop) (v : Value) (z : Nat) (A : Option Ad) (len cap : Nat) (e : Nat → Nat → C) : Prop where
  val : v = .slice (A.map fun q => ⟨q.1, q.2.1, q.2.2⟩) len cap
  cap : len ≤ cap
  cell : ∀ i j, i < len → j < z → ∃ g o, A = some (g, o, none) ∧ w.cell? ⟨g, o + i * z + j, none⟩ = some (e i j).val
  kid : ∀ i j, i < len → j < z → (e i j).cell ∧ (e i j).solid ∧ (e i j).ok w (Zf zl zb)
def rowX (z len : Nat) (e : Nat → Nat → C) : List (List X) := (List.range len).map fun i => (List.range z).map fun j => (e i j).er

theorem row_of {zb : Nat → Nat → Prop} (h : Inv w zl zb G s) {y : C} (hy : Opd w zl zb G y) {z : Nat} {xs : List (List X)} (hc : rowAt s y.er = some (z, xs)) : ∃ A len cap e, xs = rowX z len e ∧ RowV w zl zb y.val z A len cap e := by
  cases y with
  | row m sz A len cap e =>
    simp only [C.er, rowAt, Option.some.injEq, Prod.mk.injEq] at hc
    obtain ⟨rfl, rfl⟩ := hc
    obtain ⟨h1, h2, h3, h4, h5⟩ := hy.ok
    exact ⟨A, len, cap, e, rfl, rfl, h1, fun i j hi hj => by obtain ⟨g, o, hA, hcl, _⟩ := h2 i j hi hj; exact ⟨g, o, hA, hcl⟩, fun i j hi hj => by obtain ⟨a1, a2, a3, a4⟩ := h3 i j hi hj; exact ⟨a1, a2, a4⟩⟩
  | ref v r p =>
    obtain ⟨y', z', hs, hF, hv, m, sz, A, len, cap, e, rfl⟩ := hy.rf
    cases hF with
    | row m m' sz A len cap e e' =>
      simp only [C.er, rowAt, look] at hc
      rw [← h.er, C.sub_er, hs] at hc
      simp only [Option.map_some, C.er, Option.some.injEq, Prod.mk.injEq] at hc
      obtain ⟨rfl, rfl⟩ := hc
      obtain ⟨h1, h2, h3, h4, h5⟩ := C.sub_ok p hs (h.ok r)
      exact ⟨A, len, cap, e', rfl, hv.symm, h1, fun i j hi hj => by obtain ⟨g, o, hA, hcl, _⟩ := h2 i j hi hj; exact ⟨g, o, hA, hcl⟩, fun i j hi hj => by obtain ⟨a1, a2, a3, a4⟩ := h3 i j hi hj; exact ⟨a1, a2, a4⟩⟩
  | cut v r p lo hi =>
    obtain ⟨m, sz, A, len, cap, e, A', cap', hs, hv, hlo, hhi, hcap, hA', -, -⟩ := hy.rf
    simp only [C.er, rowAt, look] at hc
    rw [← h.er, C.sub_er, hs] at hc
    simp only [Option.map_some, C.er, Option.some.injEq, Prod.mk.injEq] at hc
    obtain ⟨rfl, rfl⟩ := hc
    obtain ⟨h1, h2, h3, h4, h5⟩ := C.sub_ok p hs (h.ok r)
    have hX : (((List.range len).map fun i => (List.range sz).map fun j => (e i j).er).take hi).drop lo = rowX sz (hi - lo) fun i j => e (i + lo) j := by
      unfold rowX
      rw [← List.map_take, ← List.map_drop, List.take_range, Nat.min_eq_left hhi, range_drop, List.map_map]
      rfl
    refine ⟨A', hi - lo, cap', fun i j => e (i + lo) j, hX, ⟨hv, hcap, fun i j hi' hj => ?_, fun i j hi' hj => ?_⟩⟩
    · obtain ⟨g, o, hA, hcl, _⟩ := h2 (i + lo) j (by omega) hj
      refine ⟨g, o + lo * sz, by rw [hA' (by omega), hA, Option.map_some, adv_none], ?_⟩
      rw [show o + lo * sz + i * sz + j = o + (i + lo) * sz + j by rw [Nat.add_mul]; omega]
      exact hcl
    · obtain ⟨a1, a2, a3, a4⟩ := h3 (i + lo) j (by omega) hj
      exact ⟨a1, a2, a4⟩
  | _ => simp [C.er, rowAt] at hc

theorem rowX_length (z len : Nat) (e : Nat → Nat → C) : (rowX z len e).length = len := by simp [rowX]

theorem op_len (h : St c G zl s a w) {d : Nat} {ty el : TypeId} {x : AV} {x' : Operand} (ho : o.op = .call { callee := .builtin .len, args := #[x'], argTypes := #[ty] }) (hu : P.underlying ty = some (.slice el)) (hd : o.dst = some d) (hn : d < c.nt) (hx : chkV x' x = true)
    (hK : awpOp P (.len d x) s K) : GoodR P c o a w K := by
  obtain ⟨y, e1, e2, e3⟩ := av_ok h hx
  obtain ⟨z, xs, k1, k2⟩ := hK
  rw [← e1] at k1
  obtain ⟨A, len, cap, e, rfl, hv⟩ := row_of h.inv e3 k1
  rw [rowX_length] at k2
  refine good_flat h hd hn (x := .int .i64 len) trivial (fun _ _ _ _ _ _ e => (by cases e)) trivial (fun w' _ => ?_) k2
  simp [execOp, ho, resolve, invoke, builtin, ← e2, hv.val, Builtin.len_, run_underlying hu, goInt, C.val]

theorem op_slen (h : St c G zl s a w) {d : Nat} {ty : TypeId} {x : AV} {x' : Operand} (ho : o.op = .call { callee := .builtin .len, args := #[x'], argTypes := #[ty] }) (hu : P.underlying ty = some .string) (hd : o.dst = some d) (hn : d < c.nt) (hx : chkV x' x = true)
    (hK : awpOp P (.slen d x) s K) : GoodR P c o a w K := by
  obtain ⟨y, e1, e2, e3⟩ := av_ok h hx
  simp only [awpOp] at hK
  split at hK
  · rename_i t ht
    rw [← e1] at ht
    have := er_str ht
    subst this
    refine good_flat h hd hn (x := .int .i64 t.size) trivial (fun _ _ _ _ _ _ e => (by cases e)) trivial (fun w' _ => ?_) hK
    simp [execOp, ho, resolve, invoke, builtin, ← e2, Builtin.len_, run_underlying hu, goInt, C.val]
  · exact hK.elim

theorem op_sidx (h : St c G zl s a w) {d : Nat} {ty : TypeId} {x y : AV} {x' y' : Operand} (ho : o.op = .index ty x' y') (hu : P.underlying ty = some .string) (hd : o.dst = some d) (hn : d < c.nt) (hx : chkV x' x = true) (hy : chkV y' y = true)
    (hK : awpOp P (.sidx d x y) s K) : GoodR P c o a w K := by
  obtain ⟨p, p1, p2, p3⟩ := av_ok h hx
  obtain ⟨q, q1, q2, q3⟩ := av_ok h hy
  simp only [awpOp] at hK
  split at hK
  · rename_i t k n h1 h2
    rw [← p1] at h1
    rw [← q1] at h2
    have := er_str h1
    subst this
    have := er_int h2
    subst this
    obtain ⟨k1, b, k2, k3⟩ := hK
    refine good_flat h hd hn (x := .int .u8 b.toNat) trivial (fun _ _ _ _ _ _ e => (by cases e)) trivial (fun w' _ => ?_) k3
    have hb : t[n.toNat]? = some b := k2
    simp [execOp, ho, ← p2, ← q2, C.val, Instr.index, asIntOf, run_underlying hu, if_pos k1, hb]
  · exact hK.elim

theorem op_iadr (h : St c G zl s a w) {d sz : Nat} {ty el : TypeId} {x y : AV} {x' y' : Operand} (ho : o.op = .indexAddr ty x' y') (hu : P.underlying ty = some (.slice el)) (hsz : ∃ i, P.info? el = some i ∧ i.size = sz) (h0 : 0 < sz) (hd : o.dst = some d) (hn : d < c.nt) (hx : chkV x' x = true) (hy : chkV y' y = true)
    (hK : awpOp P (.iadr d sz x y) s K) : GoodR P c o a w K := by
  obtain ⟨p, p1, p2, p3⟩ := av_ok h hx
  obtain ⟨q, q1, q2, q3⟩ := av_ok h hy
  obtain ⟨ii, hi, hisz⟩ := hsz
  simp only [awpOp] at hK
  rw [← p1] at hK
  split at hK
  · rename_i k n h2
    rw [← q1] at h2
    have := er_int h2
    subst this
    obtain ⟨k1, hK⟩ := hK
    have hrun : ∀ g o' len cap, a.eval x' = .slice (some ⟨g, o', none⟩) len cap → n.toNat < len → ∀ w', Ext (fun _ _ => False) w w' → (execOp a.eval o).run P w' = .ok (.value (.pointer (some ⟨g, o' + n.toNat * sz, none⟩))) w' := by
      intro g o' len cap hv hlt w' _
      have hb : 0 ≤ n ∧ n < len := ⟨k1, by omega⟩
      simp [execOp, ho, hv, ← q2, C.val, Instr.indexAt, asIntOf, run_underlying hu, hb, Go.sizeOf, typeInfo, hi, hisz, add_at]
    cases p with
    | row m z A len cap e =>
      simp only [C.er] at hK
      obtain ⟨rfl, e', k2, k3⟩ := hK
      rw [C.map_range_get?] at k2
      split at k2
      · rename_i hlt
        injection k2 with k2
        obtain ⟨h1, h2, h3, h4, h5⟩ := p3.ok
        obtain ⟨g, o', hA, _, _⟩ := h2 n.toNat 0 hlt h0
        refine good_opd h hd hn (x := .ptr m g (o' + n.toNat * z) z fun j => e n.toNat j) ⟨⟨fun j hj => ?_, ?_, fun j hj => ?_, fun j hj b k hf => ?_⟩, fun j hj => ?_, fun b k hf => ?_⟩ ?_ ?_
        · obtain ⟨g1, o1, hA1, hcl, hz⟩ := h2 n.toNat j hlt hj
          rw [hA] at hA1
          injection hA1 with hA1
          injection hA1 with e1 e2
          injection e2 with e2
          subst e1; subst e2
          refine ⟨hcl, hz, fun hm => ?_⟩
          exact (p3.nofp g 0 ⟨hm, .inl ⟨_, hA⟩⟩).elim
        · obtain ⟨g1, o1, hA1, hcl, hz⟩ := h2 n.toNat 0 hlt h0
          rw [hA] at hA1
          injection hA1 with hA1
          injection hA1 with e1 e2
          subst e1
          rcases Nat.lt_or_ge g w.heap.size with hg | hg
          · exact hg
          · simp [World.cell?, Array.getElem?_eq_none hg] at hcl
        · obtain ⟨a1, a2, a3, a4⟩ := h3 n.toNat j hlt hj
          exact ⟨a1, a3, a4⟩
        · obtain ⟨a1, a2, a3, a4⟩ := h3 n.toNat j hlt hj
          exact (p3.nofp b k (C.in_row a1 a3 hlt hj hf)).elim
        · obtain ⟨a1, a2, a3, a4⟩ := h3 n.toNat j hlt hj
          show (e n.toNat j).rf G
          cases hh : e n.toNat j with
          | ref => rw [hh] at a2; exact a2.elim
          | adr => rw [hh] at a2; exact a2.elim
          | cut => rw [hh] at a2; exact a2.elim
          | ptr => rw [hh] at a2; exact a2.elim
          | agg => rw [hh] at a2; exact a2.elim
          | tup => rw [hh] at a2; exact a2.elim
          | fn => rw [hh] at a2; exact a2.elim
          | _ => trivial
        · exact p3.nofp g 0 ⟨hf.1, .inl ⟨_, hA⟩⟩
        · exact hrun g o' len cap (by rw [← p2, C.val, hA]; rfl) hlt
        · rw [← k2] at k3; exact k3
      · cases k2
    | ref v r pp =>
      obtain ⟨y', z', hs, hF, hv, m, z1, A, len, cap, e, rfl⟩ := p3.rf
      cases hF with
      | row m m' sz' A len cap e e' =>
        simp only [C.er, look] at hK
        rw [← h.inv.er, C.sub_er, hs] at hK
        simp only [Option.map_some, C.er] at hK
        obtain ⟨k1, k2, k3⟩ := hK
        have k2' : n.toNat < len := by simpa using k2
        subst k1
        obtain ⟨h1, h2, h3, h4, h5⟩ := C.sub_ok pp hs (h.inv.ok r)
        obtain ⟨g, o', hA, _, _⟩ := h2 n.toNat 0 k2' h0
        subst hA
        refine good_opd h hd hn (x := .adr (.pointer (some ⟨g, o' + n.toNat * _, none⟩)) r pp n.toNat 0) ⟨trivial, ⟨_, hs, .inl ⟨_, _, _, _, _, _, _, rfl, rfl⟩⟩, fun _ _ hh => hh⟩ ?_ k3
        exact hrun g o' len cap (by rw [← p2]; exact hv.symm) k2'
    | cut v r pp lo hi =>
      obtain ⟨m, z1, A, len, cap, e, A', cap', hs, hv, hlo, hhi, hcap, hA', -, -⟩ := p3.rf
      simp only [C.er, look] at hK
      rw [← h.inv.er, C.sub_er, hs] at hK
      simp only [Option.map_some, C.er] at hK
      obtain ⟨k1, k2, k3⟩ := hK
      subst k1
      obtain ⟨h1, h2, h3, h4, h5⟩ := C.sub_ok pp hs (h.inv.ok r)
      obtain ⟨g, o', hA, _, _⟩ := h2 (lo + n.toNat) 0 (by omega) h0
      subst hA
      refine good_opd h hd hn (x := .adr (.pointer (some ⟨g, o' + (lo + n.toNat) * _, none⟩)) r pp (lo + n.toNat) 0) ⟨trivial, ⟨_, hs, .inl ⟨_, _, _, _, _, _, _, rfl, rfl⟩⟩, fun _ _ hh => hh⟩ ?_ k3
      have := hrun g (o' + lo * z1) (hi - lo) cap' (by rw [← p2, C.val, hv, hA' (by omega), Option.map_some, adv_none]; rfl) (by omega)
      intro w' hE
      rw [this w' hE, C.val, Nat.add_mul, Nat.add_assoc]
    | _ => simp only [C.er] at hK
  · exact hK.elim

theorem op_ext (h : St c G zl s a w) {d i : Nat} {x : AV} {x' : Operand} (ho : o.op = .extract x' i) (hd : o.dst = some d) (hn : d < c.nt) (hx : chkV x' x = true)
    (hK : awpOp P (.ext d x i) s K) : GoodR P c o a w K := by
  obtain ⟨y, e1, e2, e3⟩ := av_ok h hx
  simp only [awpOp] at hK
  rw [← e1] at hK
  cases y with
  | tup n f =>
    simp only [C.er] at hK
    obtain ⟨hi, hK⟩ := hK
    have hi : i < n := by simpa using hi
    · have hX : ((List.range n).map fun j => (f j).er).getD i .dead = (f i).er := by
        rw [List.getD_eq_getElem?_getD, C.map_range_get?, if_pos hi]; rfl
      rw [hX] at hK
      refine good_opd h hd hn (x := f i) ⟨(e3.ok.1 i hi).2, e3.rf i hi, fun b k hf => e3.nofp b k ⟨i, hi, hf⟩⟩ (fun w' _ => ?_) hK
      have hv : ((List.range n).map fun j => (f j).val).toArray[i]? = some (f i).val := by
        rw [List.getElem?_toArray, C.map_range_get?, if_pos hi]
      simp only [execOp, ho, ← e2, C.val, Instr.extract, hv, Sem.run_bind, Sem.run_pure, Result.andThen_ok]
  | _ => exact hK.elim
end
end M
