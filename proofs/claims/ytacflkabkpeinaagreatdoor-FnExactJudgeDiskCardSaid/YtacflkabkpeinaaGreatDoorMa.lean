/- A machine of values for loaded Go functions, sound for the calculus of calls; part 1; no conditions. -/
import Derived.Calls
import Derived.Orders
import Derived.Laws.Sem
import Derived.Below
import Derived.Laws.Cells
import Derived.Laws.Strings
import Derived.Laws.StructEq
import Derived.Laws.IdiomStrings
import Derived.Laws.Entries
import Derived.Laws.OwnMore
import Derived.Great.BuildSlice
set_option linter.unusedSectionVars false
set_option linter.unusedVariables false
set_option linter.unusedSimpArgs false
namespace M
open Go
inductive Md where | own | sl | af
 deriving DecidableEq,Repr
abbrev Path:=List (Nat×Nat)
inductive X where
 | dead
 | int (k : IntKind) (n : Int)
 | bool (b : Bool)
 | str (s : ByteArray)
 | row (m : Md) (sz : Nat) (xs : List (List X))
 | ptr (m : Md) (cs : List X)
 | agg (cs : List X)
 | au (cs : List X)
 | fn (f : FuncId) (caps : List X)
 | ref (s : Nat) (p : Path)
 | aA (s : Nat) (p : Path) (i c : Nat)
 | cut (s : Nat) (p : Path) (lo hi : Nat)
namespace X
def step : X→Nat×Nat→Option X
 | .row _ _ xs,q=>(xs[q.1]?).bind (·[q.2]?)
 | .ptr _ cs,q=>bif q.1 == 0 then cs[q.2]? else none
 | .agg cs,q=>bif q.1 == 0 then cs[q.2]? else none
 | .au cs,q=>bif q.1 == 0 then cs[q.2]? else none
 | _,_=>none
def sub (x : X) : Path→Option X
 | []=>some x
 | q :: p=>(x.step q).bind (·.sub p)
def aU : X→Nat×Nat→X→X
 | .row m sz xs,q,y=>.row m sz (xs.modify q.1 (·.set q.2 y))
 | .ptr m cs,q,y=>.ptr m (cs.set q.2 y)
 | .agg cs,q,y=>.agg (cs.set q.2 y)
 | .au cs,q,y=>.au (cs.set q.2 y)
 | x,_,_=>x
def putAt : Path→X→X→X
 | [],_,y=>y
 | q :: p,x,y=>match x.step q with
  | some z=>x.aU q (putAt p z y)
  | none=>x
mutual
def md (m : Md) : X→X
 | .row _ sz xs=>.row m sz (bO m xs)
 | .ptr _ cs=>.ptr m (dz m cs)
 | .agg cs=>.agg (dz m cs)
 | .au cs=>.au (dz m cs)
 | .fn f cs=>.fn f (dz m cs)
 | .ref _ _=>.dead
 | .aA _ _ _ _=>.dead
 | .cut _ _ _ _=>.dead
 | .dead=>.dead
 | .int k n=>.int k n
 | .bool b=>.bool b
 | .str s=>.str s
def dz (m : Md) : List X→List X
 | []=>[]
 | x :: l=>x.md m :: dz m l
def bO (m : Md) : List (List X)→List (List X)
 | []=>[]
 | x :: l=>dz m x :: bO m l
end
def gL : X→Bool
 | .row _ _ _=>true
 | .ptr _ _=>true
 | .agg _=>true
 | .au _=>true
 | _=>false
def pfx : Path→Path→Bool
 | [],_=>true
 | _ :: _,[]=>false
 | q :: p,r :: t=>q.1 == r.1 && q.2 == r.2 && pfx p t
mutual
def kill (r : Nat) (p : Path) : X→X
 | .ref s q=>bif s == r && pfx p q then .dead else .ref s q
 | .aA s q i c=>bif s == r && pfx p q then .dead else .aA s q i c
 | .cut s q i c=>bif s == r && pfx p q then .dead else .cut s q i c
 | .ptr m cs=>.ptr m (fU r p cs)
 | .agg cs=>.agg (fU r p cs)
 | .au cs=>.au (fU r p cs)
 | .fn f cs=>.fn f (fU r p cs)
 | .dead=>.dead
 | .int k n=>.int k n
 | .bool b=>.bool b
 | .str s=>.str s
 | .row m sz xs=>.row m sz xs
def fU (r : Nat) (p : Path) : List X→List X
 | []=>[]
 | x :: l=>x.kill r p :: fU r p l
end
theorem HP (r : Nat) (p : Path) : ∀ l : List X,(fU r p l).length = l.length
 | []=>rfl
 | x :: l=>by simp only [fU,List.length_cons,HP r p l]
mutual
def only (ks : List Nat) : X→X
 | .ref s q=>bif ks.contains s then .ref s q else .dead
 | .aA s q i c=>bif ks.contains s then .aA s q i c else .dead
 | .cut s q i c=>bif ks.contains s then .cut s q i c else .dead
 | .ptr m cs=>.ptr m (mH ks cs)
 | .agg cs=>.agg (mH ks cs)
 | .au cs=>.au (mH ks cs)
 | .fn f cs=>.fn f (mH ks cs)
 | .dead=>.dead
 | .int k n=>.int k n
 | .bool b=>.bool b
 | .str s=>.str s
 | .row m sz xs=>.row m sz xs
def mH (ks : List Nat) : List X→List X
 | []=>[]
 | x :: l=>x.only ks :: mH ks l
end
end X
abbrev ah:=List (Nat×X)
def get : ah→Nat→X
 | [],_=>.dead
 | (k',v) :: s,k=>bif k' == k then v else get s k
def pL (r : Nat) (p : Path) : ah→ah
 | []=>[]
 | (k,v) :: s=>(k,v.kill r p) :: pL r p s
def put (d : Nat) (v : X) (s : ah) : ah:=bif (get s d).gL then (d,v.kill d []) :: pL d [] s else (d,v) :: s
def eR : Option Nat→X→ah→ah
 | some d,v,s=>put d v s
 | none,_,s=>s
inductive AV where
 | t (n : Nat)
 | k (x : X)
def X.clean : X→Bool
 | .ref _ _=>false
 | .aA _ _ _ _=>false
 | .cut _ _ _ _=>false
 | .row m _ xs=>(match m with | .af=>false | _=>true) && bw xs
 | .ptr m cs=>(match m with | .af=>false | _=>true) && ck cs
 | .agg cs=>ck cs
 | .au cs=>ck cs
 | .fn _ cs=>ck cs
 | _=>true
where
 ck : List X→Bool
 | []=>true
 | x :: l=>X.clean x && ck l
 bw : List (List X)→Bool
 | []=>true
 | x :: l=>ck x && bw l
def gU (n : Nat) (p : Path) : X→X
 | .row .own _ _=>.ref n p
 | .ptr .own _=>.aA n p 0 0
 | x=>x
def qw (n : Nat) (p : Path) (i : Nat) : Nat→List X→List X
 | _,[]=>[]
 | c,x :: l=>gU n (p ++ [(i,c)]) x :: qw n p i (c + 1) l
def fM (n : Nat) (p : Path) : X→X
 | .agg cs=>.agg (qw n p 0 0 cs)
 | x=>gU n p x
def vS (n : Nat) (p : Path) : Nat→List X→List X
 | _,[]=>[]
 | j,x :: l=>fM n (p ++ [(0,j)]) x :: vS n p (j + 1) l
def alias (n : Nat) (p : Path) : X→X
 | .au cs=>.au (vS n p 0 cs)
 | x=>fM n p x
def ax (s : ah) : AV→X
 | .t n=>alias n [] (get s n)
 | .k x=>x
def look (s : ah) (r : Nat) (p : Path) : Option X:=(get s r).sub p
def gM (r : Nat) (p : Path) (y : X) (s : ah) : ah:=(r,X.putAt p (get (pL r p s) r) (y.kill r p)) :: pL r p s
def Pt (r : Nat) (p : Path) (y : X) (s : ah) : ah:=(r,X.putAt p (get s r) y) :: s
inductive Tk where | mv | al | aO
def move (r : Nat) (p : Path) (s : ah) : X×ah:=match look s r p with
 | some y=>(y.kill r p,gM r p .dead s)
 | none=>(.dead,s)
def yJ (r : Nat) (p : Path) (lo hi : Nat) (s : ah) : X×ah:=match look s r p with
 | some (.row .own z xs)=>(.row .own z ((xs.take hi).drop lo),gM r p .dead s)
 | _=>(.cut r p lo hi,s)
def Dt (r : Nat) (p : Path) (i c : Nat) (s : ah) : X×ah:=match look s r p with
 | some (.ptr .own cs)=>bif i == 0 && c == 0 then (.ptr .own (X.fU r p cs),gM r p .dead s) else (.aA r p i c,s)
 | _=>(.aA r p i c,s)
def PN (h : Tk) : X→ah→X×ah
 | .ref r p,s=>match h with
  | .al=>(.ref r p,s)
  | .aO=>match p with
   | []=>move r [] s
   | q :: t=>(.ref r (q :: t),s)
  | .mv=>move r p s
 | .cut r p lo hi,s=>match h with
  | .al=>(.cut r p lo hi,s)
  | .aO=>match p with
   | []=>yJ r [] lo hi s
   | q :: t=>(.cut r (q :: t) lo hi,s)
  | .mv=>yJ r p lo hi s
 | .aA r p i c,s=>match h with
  | .al=>(.aA r p i c,s)
  | .aO=>(.aA r p i c,s)
  | .mv=>Dt r p i c s
 | x,s=>(x,s)
def bK : List X→ah→List X×ah
 | [],s=>([],s)
 | x :: l,s=>match x with
  | .ref r p=>((move r p s).1 :: (bK l (move r p s).2).1,(bK l (move r p s).2).2)
  | .aA _ _ _ _=>(.dead :: (bK l s).1,(bK l s).2)
  | .cut _ _ _ _=>(.dead :: (bK l s).1,(bK l s).2)
  | .fn _ _=>(.dead :: (bK l s).1,(bK l s).2)
  | .ptr _ _=>(.dead :: (bK l s).1,(bK l s).2)
  | .agg _=>(.dead :: (bK l s).1,(bK l s).2)
  | .au _=>(.dead :: (bK l s).1,(bK l s).2)
  | y=>(y :: (bK l s).1,(bK l s).2)
def take (h : Tk) : X→ah→X×ah
 | .agg cs,s=>match h with
  | .mv=>(.agg (bK cs s).1,(bK cs s).2)
  | _=>(.agg cs,s)
 | x,s=>PN h x s
def Bt (s : ah) (r : Nat) (p : Path) : Bool:=match look s r p with
 | some .dead=>(match p.getLast? with
  | some _=>(match look s r p.dropLast with
   | some (.row .own _ _)=>true
   | some (.ptr .own _)=>true
   | some (.agg _)=>true
   | some (.au _)=>true
   | _=>false)
  | none=>false)
 | _=>false
def rR (r : Nat) (p : Path) : List X→Bool
 | []=>true
 | .ref r' p' :: l=>!(r' == r && X.pfx p p') && rR r p l
 | _ :: l=>rR r p l
def kT : List X→List X→ah→Option ah
 | [],_,s=>some s
 | x :: l,ys,s=>match x,ys with
  | .ref r p,y :: ys=>bif Bt s r p && rR r p l then kT l ys ((r,X.putAt p (get s r) y) :: s) else none
  | _,_ :: ys=>kT l ys s
  | _,[]=>none
def cellsOf : X→List X
 | .agg cs=>cs
 | .au _=>[]
 | .dead=>[]
 | x=>[x]
inductive PM where | af | gD (n : Nat) | mv | mut (n : Nat)
def scalar : X→Bool
 | .int _ _=>true
 | .bool _=>true
 | .str _=>true
 | _=>false
def fB (s : ah) : X→Option (List X)
 | .ptr _ cs=>some cs
 | .aA r p i c=>match look s r p with
  | some (.row _ _ xs)=>(xs[i]?).map fun e=>qw r p i c (e.drop c)
  | some (.ptr _ cs)=>some (qw r p i c (cs.drop c))
  | _=>none
 | _=>none
def rowAt (s : ah) : X→Option (Nat×List (List X))
 | .row _ z xs=>some (z,xs)
 | .ref r p=>match look s r p with
  | some (.row _ z xs)=>some (z,xs)
  | _=>none
 | .cut r p lo hi=>match look s r p with
  | some (.row _ z xs)=>some (z,(xs.take hi).drop lo)
  | _=>none
 | _=>none
def jY (s : ah) : X→X
 | .ref r p=>match look s r p with
  | some y=>y.md .af
  | none=>.dead
 | .cut r p lo hi=>match look s r p with
  | some (.row _ sz xs)=>X.md .af (.row .af sz ((xs.take hi).drop lo))
  | _=>.dead
 | x=>x.md .af
def mK (s : ah) : List X→List X
 | []=>[]
 | x :: l=>jY s x :: mK s l
def uT (n : Nat) (s : ah) (x : X) : X:=match fB s x with
 | some (c :: cs)=>.ptr .af (mK s ((c :: cs).take n))
 | _=>.dead
def fH (s : ah) : X→X
 | .aA r p i c=>(match fB s (.aA r p i c) with | some (c :: cs)=>X.ptr .af (mK s (c :: cs)) | _=>.dead)
 | x=>jY s x
def iQ (s : ah) : List X→List X
 | []=>[]
 | x :: l=>fH s x :: iQ s l
def eM (s : ah) : List X→List X
 | []=>[]
 | x :: l=>(match x with
  | .aA r p i c=>(match fB s (.aA r p i c) with | some (c :: cs)=>X.ptr .af (iQ s (c :: cs)) | _=>.dead)
  | x=>jY s x) :: eM s l
def res (s : ah) : X→X
 | .agg cs=>.agg (mK s cs)
 | .fn f cs=>.fn f (eM s cs)
 | x=>jY s x
def mG (r : Nat) (p : Path) (i c : Nat) (s : ah) : Bool:=match look s r (p ++ [(i,c)]) with
 | some z=>z.gL
 | none=>true
def setCell (r : Nat) (p : Path) (i c : Nat) (y : X) (s : ah) : ah :=
 bif mG r p i c s then gM r (p ++ [(i,c)]) y s else Pt r (p ++ [(i,c)]) y s
def setCells (r : Nat) (p : Path) (i : Nat) : Nat→List X→ah→ah
 | _,[],s=>s
 | c,y :: l,s=>bif mG r p i c s then setCells r p i (c + 1) (X.fU r (p ++ [(i,c)]) l) (setCell r p i c y s) else setCells r p i (c + 1) l (setCell r p i c y s)
termination_by _ l=>l.length
decreasing_by all_goals simp [X.HP]
def wB (d : Nat) (cs : List X) (k : List X→X) (s : ah) : Option ah :=
 bif X.clean.ck (bK cs s).1 then (kT cs (X.dz .sl (bK cs s).1) (bK cs s).2).map (put d (k (X.dz .sl (bK cs s).1))) else none
def ghost (fz : Bool) (d : Nat) (s : ah) : Option ah :=
 bif fz then (match ax s (.t d) with
  | .agg cs=>wB d cs .agg s
  | .ref r p=>wB d [.ref r p] (·.headD .dead) s
  | _=>some s)
 else some (put d (take .mv (ax s (.t d)) s).1 (take .mv (ax s (.t d)) s).2)
inductive Ex where | normal | exit (id : Nat) | ret
inductive bU where
 | mv (d : Nat) (x : AV)
 | aP (d : Nat) (h : Tk) (x : AV)
 | pick (d : Nat) (c a b : AV)
 | un (d : Nat) (op : UnOp) (x : AV)
 | bin (d : Nat) (op : BinOp) (x y : AV)
 | beq (d : Nat) (neg : Bool) (x y : AV)
 | kS (d : Nat) (neg : Bool) (ks : List Nat) (x y : AV)
 | p6 (d : Nat) (neg : Bool) (x : AV)
 | conv (d : Nat) (k : IntKind) (x : AV)
 | bytes (d : Nat) (x : AV)
 | text (d : Nat) (x : AV)
 | box (d : Nat) (h : Tk) (x : AV)
 | new (d : Nat) (zero : List X)
 | build (d : Nat) (h : Tk) (zero : List X) (parts : List ((Nat×Nat)×AV))
 | lit (d : Nat) (h : Tk) (sz : Nat) (parts : List AV)
 | make (d : Nat) (sz bytes : Nat) (zero : List X) (n : AV)
 | load (d : Nat) (sz : Nat) (agg : Bool) (a : AV)
 | store (sz : Nat) (h : Tk) (a x : AV)
 | cS (d : Nat) (x : AV)
 | ni (d : Nat) (x : AV) (off : Nat)
 | me (d : Nat) (x : AV) (off sz : Nat) (agg : Bool)
 | dX (d : Nat) (sz : Nat) (x i : AV)
 | cM (d : Nat) (x i : AV)
 | oC (d : Nat) (n sz : Nat) (agg : Bool) (x i : AV)
 | ext (d : Nat) (x : AV) (i : Nat)
 | fo (d : Nat) (x : AV) (lo hi : Option AV)
 | kL (d : Nat) (sz : Nat) (x : AV) (lo hi : Option AV)
 | lJ (d : Nat) (f : FuncId) (caps : List AV)
 | len (d : Nat) (x : AV)
 | qk (d : Nat) (x : AV)
 | app (d : Nat) (h : Tk) (sz bytes : Nat) (x y : AV)
 | mn (d : Nat) (xs : List AV)
 | mx (d : Nat) (xs : List AV)
 | oH (d : Option Nat) (f : FuncId) (x : AV) (as : List (AV×PM))
 | s9 (sz : Nat) (z : List X) (x : AV)
 | lE (d : Nat) (fz : Bool) (sz : Nat) (agg : Bool) (a : AV)
 | call (d : Option Nat) (f : FuncId) (as : List (AV×PM))
 | jl (d : Option Nat) (f : AV) (as : List (AV×PM))
structure G where
 g : Option (Nat×Bool):=none
 o : bU
inductive DT where
 | nil (ks : List Nat)
 | step (i : Nat) (g : G) (t : DT)
 | alt (a b : DT)
 | kp (ks : List Nat) (t : DT)
inductive A where
 | skip | ret
 | ops (l : List G)
 | draw (t : DT)
 | seq (a b : A)
 | cond (c : AV) (a b : A)
 | block (id : Nat) (b : A)
 | loop (b : A)
 | exit (id : Nat)
 | pk (ks : List Nat) (b : A)
end M
namespace M
open Go Go.RowKit
abbrev Ad:=Nat×Nat×Option Nat
def iA (n : Nat) (q : Ad) : Ad:=if n = 0 then q else (q.1,q.2.1 + n,none)
theorem mX (n g o : Nat) : iA n (g,o,none) = (g,o + n,none):=by
 unfold iA
 split
 ·rename_i h; subst h; rfl
 ·rfl
theorem SO (n : Nat) (q : Ad) : (⟨(iA n q).1,(iA n q).2.1,(iA n q).2.2⟩ : Addr) = (⟨q.1,q.2.1,q.2.2⟩ : Addr).add n:=by
 unfold iA Addr.add
 split <;> rfl
inductive C where
 | dead (v : Value)
 | int (k : IntKind) (n : Int)
 | bool (b : Bool)
 | str (s : ByteArray)
 | row (m : Md) (sz : Nat) (A : Option Ad) (len cap : Nat) (e : Nat→Nat→C)
 | ptr (m : Md) (g o n : Nat) (c : Nat→C)
 | agg (n : Nat) (c : Nat→C)
 | au (n : Nat) (c : Nat→C)
 | fn (f : FuncId) (n : Nat) (c : Nat→C)
 | ref (v : Value) (s : Nat) (p : Path)
 | aA (v : Value) (s : Nat) (p : Path) (i c : Nat)
 | cut (v : Value) (s : Nat) (p : Path) (lo hi : Nat)
namespace C
def val : C→Value
 | .dead v=>v
 | .int k n=>.int k n
 | .bool b=>.bool b
 | .str s=>.string s
 | .row _ _ A len cap _=>.slice (A.map fun q=>⟨q.1,q.2.1,q.2.2⟩) len cap
 | .ptr _ g o _ _=>.pointer (some ⟨g,o,none⟩)
 | .agg n c=>.agg ((List.range n).map fun j=>(c j).val).toArray
 | .au n c=>.tuple ((List.range n).map fun j=>(c j).val).toArray
 | .fn f n c=>.func (.func f) #[] ((List.range n).map fun j=>(c j).val).toArray
 | .ref v _ _=>v
 | .aA v _ _ _ _=>v
 | .cut v _ _ _ _=>v
def er : C→X
 | .dead _=>.dead
 | .int k n=>.int k n
 | .bool b=>.bool b
 | .str s=>.str s
 | .row m sz _ len _ e=>.row m sz ((List.range len).map fun i=>(List.range sz).map fun j=>(e i j).er)
 | .ptr m _ _ n c=>.ptr m ((List.range n).map fun j=>(c j).er)
 | .agg n c=>.agg ((List.range n).map fun j=>(c j).er)
 | .au n c=>.au ((List.range n).map fun j=>(c j).er)
 | .fn f n c=>.fn f ((List.range n).map fun j=>(c j).er)
 | .ref _ s p=>.ref s p
 | .aA _ s p i c=>.aA s p i c
 | .cut _ s p lo hi=>.cut s p lo hi
def fp : C→Nat→Nat→Prop
 | .row m sz A len _ e=>fun b k=>m = .own∧((∃ o,A = some (b,o,none))∨∃ i j,i < len∧j < sz∧(e i j).fp b k)
 | .ptr m g o n c=>fun b k=>m = .own∧((b = g∧o≤k∧k < o + n)∨∃ j,j < n∧(c j).fp b k)
 | .agg n c=>fun b k=>∃ j,j < n∧(c j).fp b k
 | .au n c=>fun b k=>∃ j,j < n∧(c j).fp b k
 | _=>fun _ _=>False
def cell : C→Prop
 | .agg _ _=>False
 | .au _ _=>False
 | .dead v=>v.oneCell' = true
 | .ref v _ _=>v.oneCell' = true
 | .aA v _ _ _ _=>v.oneCell' = true
 | .cut v _ _ _ _=>v.oneCell' = true
 | _=>True
def ff : C→Prop
 | .au _ _=>False
 | _=>True
def cA : C→Prop
 | .agg _ _=>False
 | .au _ _=>False
 | .ref _ _ _=>False
 | .aA _ _ _ _ _=>False
 | .cut _ _ _ _ _=>False
 | .fn _ _ _=>False
 | .ptr _ _ _ _ _=>False
 | _=>True
def fits (m : Md) : C→Prop
 | .row m' _ _ _ _ _=>m = .own∨m' = m∨(m = .af∧m' = .sl)
 | .ptr m' _ _ _ _=>m = .own∨m' = m∨(m = .af∧m' = .sl)
 | _=>True
end C
def Zf (zl zb : Nat→Nat→Prop) : Md→Nat→Nat→Prop
 | .own=>fun _ _=>False
 | .sl=>zl
 | .af=>fun b k=>zl b k∨zb b k
namespace C
def ok (w : World) (Z : Md→Nat→Nat→Prop) : C→Prop
 | .row m sz A len cap e =>
  len≤cap ∧
  (∀ i j,i < len→j < sz→∃ g o,A = some (g,o,none)∧w.cell? ⟨g,o + i * sz + j,none⟩ = some (e i j).val∧(m≠.own→Z m g (o + i * sz + j))) ∧
  (∀ i j,i < len→j < sz→(e i j).cell∧(e i j).cA∧(e i j).fits m∧(e i j).ok w Z) ∧
  (m = .own→(A = none∧cap = 0)∨∃ g o arr t fz,A = some (g,o,none)∧w.heap[g]? = some (.cells arr t fz)∧o + cap * sz≤arr.size∧∀ k,o≤k→k < o + cap * sz→w.frozen? ⟨g,k,none⟩ = false) ∧
  (∀ i j,i < len→j < sz→∀ b k,(e i j).fp b k→(m = .own→∀ o,A≠some (b,o,none))∧∀ i' j',i' < len→j' < sz→(i,j)≠(i',j')→¬ (e i' j').fp b k)
 | .ptr m g o n c =>
  (∀ j,j < n→w.cell? ⟨g,o + j,none⟩ = some (c j).val∧(m≠.own→Z m g (o + j))∧(m = .own→w.frozen? ⟨g,o + j,none⟩ = false)) ∧
  g < w.heap.size ∧
  (∀ j,j < n→(c j).cell∧(c j).fits m∧(c j).ok w Z) ∧
  (∀ j,j < n→∀ b k,(c j).fp b k→(m = .own→¬ (b = g∧o≤k∧k < o + n))∧∀ j',j' < n→j≠j'→¬ (c j').fp b k)
 | .agg n c=>(∀ j,j < n→(c j).cell∧(c j).ok w Z)∧(∀ j,j < n→∀ b k,(c j).fp b k→∀ j',j' < n→j≠j'→¬ (c j').fp b k)
 | .au n c=>(∀ j,j < n→(c j).ff∧(c j).ok w Z)∧(∀ j,j < n→∀ b k,(c j).fp b k→∀ j',j' < n→j≠j'→¬ (c j').fp b k)
 | .fn _ n c=>∀ j,j < n→(c j).ok w Z∧∀ b k,¬ (c j).fp b k
 | .str s=>s.size≤9223372036854775807
 | _=>True
end C
class Bs where
 W0 : World
def AA [B : Bs] (w : World) (zl zb : Nat→Nat→Prop) : Prop:=∀ b,b < B.W0.heap.size→w.heap[b]? = B.W0.heap[b]?∧∀ k,zl b k∨zb b k
structure Ext (S : Nat→Nat→Prop) (w w' : World) : Prop where
 os : w'.os = w.os
 tape : w'.tape = w.tape
 output : w'.output = w.output
 size : w.heap.size≤w'.heap.size
 block : ∀ b,b < w.heap.size→w'.heap[b]? = w.heap[b]?∨∃ arr eZ t fz,w.heap[b]? = some (.cells arr t fz)∧w'.heap[b]? = some (.cells eZ t fz)∧eZ.size = arr.size∧∀ k,¬ S b k→eZ[k]? = arr[k]?
namespace Ext
variable {S S' : Nat→Nat→Prop} {w w1 w2 : World}
theorem refl (S : Nat→Nat→Prop) (w : World) : Ext S w w:=⟨rfl,rfl,rfl,Nat.le_refl _,fun _ _=>.inl rfl⟩
theorem trans (h : Ext S w w1) (h' : Ext S' w1 w2) (hs : ∀ b k,S' b k→b < w.heap.size→S b k) : Ext S w w2:=by
 refine ⟨h'.os.trans h.os,h'.tape.trans h.tape,h'.output.trans h.output,Nat.le_trans h.size h'.size,fun b hb=>?_⟩
 rcases h.block b hb with e | ⟨arr,eZ,t,fz,e1,e2,e3,e4⟩
 ·rcases h'.block b (Nat.lt_of_lt_of_le hb h.size) with e' | ⟨a1,a2,t',kq,f1,f2,f3,f4⟩
  ·exact .inl (e'.trans e)
  ·exact .inr ⟨a1,a2,t',kq,e ▸ f1,f2,f3,fun k hk=>f4 k fun hS=>hk (hs b k hS hb)⟩
 ·rcases h'.block b (Nat.lt_of_lt_of_le hb h.size) with e' | ⟨a1,a2,t',kq,f1,f2,f3,f4⟩
  ·exact .inr ⟨arr,eZ,t,fz,e1,e'.trans e2,e3,e4⟩
  ·rw [e2] at f1
   injection f1 with f1
   injection f1 with g1 g2 g3
   subst g1; subst g2; subst g3
   exact .inr ⟨arr,a2,t,fz,e1,f2,f3.trans e3,fun k hk=>(f4 k fun hS=>hk (hs b k hS hb)).trans (e4 k hk)⟩
theorem mono (h : Ext S w w1) (hs : ∀ b k,S b k→b < w.heap.size→S' b k) : Ext S' w w1:=by
 refine ⟨h.os,h.tape,h.output,h.size,fun b hb=>?_⟩
 rcases h.block b hb with e | ⟨arr,eZ,t,fz,e1,e2,e3,e4⟩
 ·exact .inl e
 ·exact .inr ⟨arr,eZ,t,fz,e1,e2,e3,fun k hk=>e4 k fun hS=>hk (hs b k hS hb)⟩
theorem cell (h : Ext S w w1) {b k : Nat} (hS : ¬ S b k) {v : Value} (hc : w.cell? ⟨b,k,none⟩ = some v) : w1.cell? ⟨b,k,none⟩ = some v:=by
 have hb : b < w.heap.size:=by
  rcases Nat.lt_or_ge b w.heap.size with h | h
  ·exact h
  ·simp [World.cell?,Array.getElem?_eq_none h] at hc
 rcases h.block b hb with e | ⟨arr,eZ,t,fz,e1,e2,e3,e4⟩
 ·simpa [World.cell?,e] using hc
 ·simp only [World.cell?,e1,e2] at hc ⊢
  simpa [e4 k hS] using hc
theorem frozen (h : Ext S w w1) {b k : Nat} (hb : b < w.heap.size) : w1.frozen? ⟨b,k,none⟩ = w.frozen? ⟨b,k,none⟩:=by
 rcases h.block b hb with e | ⟨arr,eZ,t,fz,e1,e2,e3,e4⟩
 ·simp [World.frozen?,e]
 ·simp [World.frozen?,e1,e2]
theorem below (h : Ext (fun _ _=>False) w w1) : Below w.heap.size w w1:=by
 refine ⟨h.os,h.tape,h.output,h.size,fun b hb=>?_⟩
 rcases h.block b hb with e | ⟨arr,eZ,t,fz,e1,e2,e3,e4⟩
 ·exact e
 ·have : eZ = arr:=by
   apply Array.ext_getElem?
   intro i
   exact e4 i (by simp)
  rw [e1,e2,this]
theorem drew (w : World) (S : Nat→Nat→Prop) : Ext S w w.drew:=⟨rfl,rfl,rfl,Nat.le_refl _,fun _ _=>.inl rfl⟩
theorem alloc (w : World) (S : Nat→Nat→Prop) (o : Obj) : Ext S w (w.alloc o):=by
 exact ⟨rfl,rfl,rfl,by show w.heap.size≤(w.heap.push o).size; simp,fun b hb=>.inl (Below.heap_alloc w o b hb)⟩
end Ext
end M
namespace M
open Go
namespace C
def bare : C→Prop
 | .ref _ _ _=>False
 | .aA _ _ _ _ _=>False
 | .cut _ _ _ _ _=>False
 | .ptr _ _ _ n c=>∀ j,j < n→(c j).bare
 | .agg n c=>∀ j,j < n→(c j).bare
 | .au n c=>∀ j,j < n→(c j).bare
 | .fn _ n c=>∀ j,j < n→(c j).bare
 | _=>True
end C
structure ou (w : World) (zl zb : Nat→Nat→Prop) (cs : List C) : Prop where
 ok : ∀ x∈cs,x.ok w (Zf zl zb)
 bare : ∀ x∈cs,x.bare
 fz : ∀ x∈cs,∀ b k,x.fp b k→¬ zl b k∧¬ zb b k
 cm : ∀ b k,zl b k∨zb b k→b < w.heap.size
 apart : cs.Pairwise fun a b=>∀ x k,a.fp x k→¬ b.fp x k
structure Kr (w : World) (zl : Nat→Nat→Prop) (cs : List C) (e : Ending) (w' : World) (r : C) (ps : List C) (aD : Nat→Nat→Prop) : Prop where
 ends : e = .returned r.val
 vals : ps.map C.val = cs.map C.val
 ext : Ext (fun b k=>∃ x∈cs,x.fp b k) w w'
 all : ou w' aD (fun _ _=>False) (r :: ps)
 dom : ∀ x∈r :: ps,∀ b k,x.fp b k→(∃ y∈cs,y.fp b k)∨w.heap.size≤b
 qq : ∀ b k,zl b k→aD b k
 qt : ∀ b k,aD b k→zl b k∨(∃ y∈cs,y.fp b k)∨w.heap.size≤b
def AC [Bs] (P : Program) (f : FuncId) (xs : List X) (Q : X→List X→Prop) : Prop :=
 ∀ w zl zb cs,cs.map C.er = xs→ou w zl zb cs→AA w zl zb→Calls P f (cs.map C.val).toArray w fun e w'=>∃ r ps aD,Kr w zl cs e w' r ps aD∧Q r.er (ps.map C.er)
def iZ : List Nat→List X→List X→Option Bool
 | [],[],[]=>some true
 | 0 :: ks,.int k a :: l,.int k' b :: r=>if k = k' then (iZ ks l r).map fun t=>(a == b) && t else none
 | 1 :: ks,.bool a :: l,.bool b :: r=>(iZ ks l r).map fun t=>(a == b) && t
 | 2 :: ks,.str a :: l,.str b :: r=>(iZ ks l r).map fun t=>decide (a = b) && t
 | _,_,_=>none
def sS (op : BinOp) : X→X→Prop
 | .int k a,.int k' b=>match op with
  | .shl=>0≤b
  | .shr=>0≤b
  | .quo=>k = k'∧b≠0
  | .rem=>k = k'∧b≠0
  | .andNot=>False
  | _=>k = k'
 | .str a,.str b=>match op with
  | .add=>a.size + b.size≤9223372036854775807
  | .eql=>True
  | .neq=>True
  | _=>False
 | _,_=>False
def Fm (op : BinOp) : X→X→X
 | .int k a,.int _ b=>match op with
  | .add=>.int k (k.wrap (a + b))
  | .sub=>.int k (k.wrap (a - b))
  | .mul=>.int k (k.wrap (a * b))
  | .quo=>.int k (k.wrap (a.tdiv b))
  | .rem=>.int k (a.tmod b)
  | .shl=>.int k (k.wrap (a * 2 ^ (min b.toNat k.bits)))
  | .shr=>.int k (a.fdiv (2 ^ (min b.toNat k.bits)))
  | .and=>.int k (k.wrap (BitVec.ofInt k.bits a &&& BitVec.ofInt k.bits b).toNat)
  | .or=>.int k (k.wrap (BitVec.ofInt k.bits a ||| BitVec.ofInt k.bits b).toNat)
  | .xor=>.int k (k.wrap (BitVec.ofInt k.bits a ^^^ BitVec.ofInt k.bits b).toNat)
  | .eql=>.bool (decide (a = b))
  | .neq=>.bool (!decide (a = b))
  | .lss=>.bool (decide (a < b))
  | .leq=>.bool (decide (a≤b))
  | .gtr=>.bool (decide (b < a))
  | .geq=>.bool (decide (b≤a))
  | _=>.dead
 | .str a,.str b=>match op with
  | .add=>.str (a ++ b)
  | .eql=>.bool (decide (a = b))
  | .neq=>.bool (!decide (a = b))
  | _=>.dead
 | _,_=>.dead
def vB (op : UnOp) : X→Prop
 | .int _ _=>match op with
  | .neg=>True
  | _=>False
 | .bool _=>match op with
  | .not=>True
  | _=>False
 | _=>False
def JY (op : UnOp) : X→X
 | .int k n=>.int k (k.wrap (0 - n))
 | .bool b=>.bool (!b)
 | _=>.dead
def yV (t : Bool) : X→X→X
 | .bool a,.bool b=>.bool (bif t then a else b)
 | x,y=>bif t then x else y
def cA : X→Bool
 | .dead=>true
 | .int _ _=>true
 | .bool _=>true
 | .str _=>true
 | .row _ _ _=>true
 | _=>false
def ga : List X→Bool
 | []=>true
 | x :: l=>cA x && ga l
def takes (h : Tk) : List AV→ah→List X×ah
 | [],s=>([],s)
 | a :: l,s=>((take h (ax s a) s).1 :: (takes h l (take h (ax s a) s).2).1,(takes h l (take h (ax s a) s).2).2)
def jo {α : Type} : List α→Nat→List α→List α
 | cs,_,[]=>cs
 | cs,o,y :: l=>jo (cs.set o y) (o + 1) l
def tj : List X→List Nat→List X→List X
 | cs,o :: os,y :: ys=>tj (jo cs o (cellsOf y)) os ys
 | cs,_,_=>cs
def vp : List Nat→List X→Prop
 | [],[]=>True
 | n :: ns,y :: ys=>(cellsOf y).length = n∧vp ns ys
 | _,_=>False
def storable (s : ah) (r : Nat) (p : Path) (i c : Nat) (l : List X) : Prop:=match look s r p with
 | some (.row .own _ xs)=>(match xs[i]? with
  | some e=>c + l.length≤e.length∧ga l = true
  | none=>False)
 | some (.ptr .own cs)=>c + l.length≤cs.length
 | _=>False
def EB : Tk→List X→Prop
 | .al,_=>True
 | _,l=>∀ x∈l,ga (cellsOf x) = true
def asNat (s : ah) : Option AV→Nat→Int
 | none,n=>n
 | some a,_=>match ax s a with
  | .int _ i=>i
  | _=>-1
def scalars : List (List X)→Prop:=fun xs=>∀ e∈xs,∀ c∈e,scalar c = true
def bJ : List (AV×PM)→ah→List X×ah
 | [],s=>([],s)
 | (x,.mv) :: l,s=>((take .mv (ax s x) s).1 :: (bJ l (take .mv (ax s x) s).2).1,(bJ l (take .mv (ax s x) s).2).2)
 | (_,.af) :: l,s=>(.dead :: (bJ l s).1,(bJ l s).2)
 | (_,.gD _) :: l,s=>(.dead :: (bJ l s).1,(bJ l s).2)
 | (_,.mut _) :: l,s=>(.dead :: (bJ l s).1,(bJ l s).2)
def fy (s1 : ah) (y : X) : List (AV×PM)→List X→List X
 | (x,.af) :: l,_ :: ms=>res s1 (ax s1 x) :: fy s1 y l ms
 | (x,.gD n) :: l,_ :: ms=>uT n s1 (ax s1 x) :: fy s1 y l ms
 | (_,.mv) :: l,m :: ms=>m :: fy s1 y l ms
 | (_,.mut _) :: l,_ :: ms=>y :: fy s1 y l ms
 | _,_=>[]
def di : List (AV×PM)→Option (AV×Nat)
 | []=>none
 | (x,.mut n) :: _=>some (x,n)
 | (_,.mv) :: l=>di l
 | (_,.af) :: l=>di l
 | (_,.gD _) :: l=>di l
def jA : List (AV×PM)→List X→X
 | (_,.mut _) :: _,y :: _=>y
 | (_,.mv) :: l,_ :: r=>jA l r
 | (_,.af) :: l,_ :: r=>jA l r
 | (_,.gD _) :: l,_ :: r=>jA l r
 | _,_=>.dead
def mZ (p q : Path) : Bool:=X.pfx p q && decide (p.length < q.length)
mutual
def X.dY (r : Nat) (p : Path) : X→X
 | .ref s q=>bif s == r && mZ p q then .dead else .ref s q
 | .aA s q i c=>bif s == r && mZ p q then .dead else .aA s q i c
 | .cut s q i c=>bif s == r && mZ p q then .dead else .cut s q i c
 | .ptr m cs=>.ptr m (X.nN r p cs)
 | .agg cs=>.agg (X.nN r p cs)
 | .au cs=>.au (X.nN r p cs)
 | .fn f cs=>.fn f (X.nN r p cs)
 | .dead=>.dead
 | .int k n=>.int k n
 | .bool b=>.bool b
 | .str s=>.str s
 | .row m sz xs=>.row m sz xs
def X.nN (r : Nat) (p : Path) : List X→List X
 | []=>[]
 | x :: l=>x.dY r p :: X.nN r p l
end
def pK (r : Nat) (p : Path) : ah→ah
 | []=>[]
 | (k,v) :: s=>(k,v.dY r p) :: pK r p s
def gA (r : Nat) (p : Path) (y : X) (s : ah) : ah:=(r,X.putAt p (get (pK r p s) r) (y.dY r p)) :: pK r p s
def uH (r : Nat) (p : Path) (s : ah) (n : Nat) (x : X) (go : X→(X→(ah→Prop)→Prop)→Prop) : Prop :=
 match x with
 | .ref _ _=>(match look s r p with
  | some (.row .own z xs)=>go (.row .own z xs) fun y K=>match y with
   | .row .own z' ys=>z' = z∧K (gA r p (.row .own z ys) s)
   | _=>False
  | _=>False)
 | .aA _ _ i c=>(match look s r p with
  | some (.ptr .own cs)=>c + n≤cs.length∧go (.ptr .own ((cs.drop c).take n)) fun y K=>match y with
   | .ptr .own ys=>ys.length = n∧K (gA r p (.ptr .own (cs.take c ++ ys ++ cs.drop (c + n))) s)
   | _=>False
  | some (.row .own z xs)=>(match xs[i]? with
   | some e=>c + n≤e.length∧go (.ptr .own ((e.drop c).take n)) fun y K=>match y with
    | .ptr .own ys=>ys.length = n∧ga ys = true∧K (gA r p (.row .own z (xs.set i (e.take c ++ ys ++ e.drop (c + n)))) s)
    | _=>False
   | none=>False)
  | _=>False)
 | _=>False
def placeOf : X→Nat×Path
 | .ref r p=>(r,p)
 | .aA r p _ _=>(r,p)
 | _=>(0,[])
def X.bare : X→Bool
 | .ref _ _=>false
 | .aA _ _ _ _=>false
 | .cut _ _ _ _=>false
 | .ptr _ cs=>iB cs
 | .agg cs=>iB cs
 | .au cs=>iB cs
 | .fn _ cs=>iB cs
 | _=>true
where
 iB : List X→Bool
 | []=>true
 | x :: l=>X.bare x && iB l
def l6 (s1 : ah) : Option AV→List X
 | none=>[]
 | some x=>match ax s1 x with
  | .fn _ cs=>eM s1 cs
  | _=>[]
def oJ (s1 : ah) (fv : Option AV) (f : FuncId) : Prop:=match fv with
 | none=>True
 | some x=>match ax s1 x with
  | .fn g _=>g = f
  | _=>False
def qG [Bs] (P : Program) (f : FuncId) (d : Option Nat) (as : List (AV×PM)) (fv : Option AV) (s : ah) (K : ah→Prop) : Prop :=
 X.bare.iB (bJ as s).1 = true ∧
 match di as with
 | none=>oJ (bJ as s).2 fv f∧AC P f (fy (bJ as s).2 .dead as (bJ as s).1 ++ l6 (bJ as s).2 fv) fun r _=>K (eR d r (bJ as s).2)
 | some (x,n)=>uH (placeOf (ax (bJ as s).2 x)).1 (placeOf (ax (bJ as s).2 x)).2 (bJ as s).2 n (ax (bJ as s).2 x) fun y back=>X.bare y = true∧oJ (gM (placeOf (ax (bJ as s).2 x)).1 (placeOf (ax (bJ as s).2 x)).2 .dead (bJ as s).2) fv f ∧
   AC P f (fy (gM (placeOf (ax (bJ as s).2 x)).1 (placeOf (ax (bJ as s).2 x)).2 .dead (bJ as s).2) y as (bJ as s).1 ++ l6 (gM (placeOf (ax (bJ as s).2 x)).1 (placeOf (ax (bJ as s).2 x)).2 .dead (bJ as s).2) fv)
    fun q ps=>back (jA as ps) fun s'=>K (eR d q s')
def A7 (lo hi : Nat) (xs : List (List X)) : List (List X):=xs.mapIdx fun i e=>if lo≤i∧i < hi then e.map (fun _=>.dead) else e
def Bi (lo hi : Nat) (z : List X) (xs : List (List X)) : List (List X):=xs.mapIdx fun i e=>if lo≤i∧i < hi then z else e
def cQ (x : X) (s : ah) : X×ah:=match x with
 | .cut r p lo hi=>(match look s r p with
  | some (.row .own z xs)=>(.row .own z ((xs.take hi).drop lo),gA r p (.row .own z (A7 lo hi xs)) s)
  | _=>(.dead,s))
 | x=>take .mv x s
def ak (P : Program) (f : FuncId) : Bool:=match P.funcs[f]? with
 | some fn=>!(fn.name == "runtime.NumGoroutine") && !fn.body.isNone
 | none=>false
def kK : List (List X)→Bool
 | (_ :: _) :: _=>true
 | _=>false
def aN [Bs] (P : Program) (o : bU) (s : ah) (K : ah→Prop) : Prop :=
 match o with
 | .mv d x=>K (put d (ax s x) s)
 | .aP d h x=>K (put d (take h (ax s x) s).1 (take h (ax s x) s).2)
 | .pick d c a b=>match ax s c with
  | .bool t=>K (put d (yV t (ax s a) (ax s b)) s)
  | _=>False
 | .un d op x=>vB op (ax s x)∧K (put d (JY op (ax s x)) s)
 | .bin d op x y=>sS op (ax s x) (ax s y)∧K (put d (Fm op (ax s x) (ax s y)) s)
 | .beq d neg x y=>match ax s x,ax s y with
  | .bool p,.bool q=>K (put d (.bool (xor neg (p == q))) s)
  | _,_=>False
 | .p6 d neg x=>match ax s x with
  | .row _ _ xs=>∀ b : Bool,(kK xs = true→b = false)→K (put d (.bool (xor neg b)) s)
  | _=>False
 | .kS d neg ks x y=>match ax s x,ax s y with
  | .agg p,.agg q=>∃ t,iZ ks p q = some t∧K (put d (.bool (xor neg t)) s)
  | _,_=>False
 | .conv d k x=>match ax s x with
  | .int _ n=>K (put d (.int k (k.wrap n)) s)
  | _=>False
 | .bytes d x=>match ax s x with
  | .str t=>K (put d (.row .own 1 (t.data.toList.map fun b=>[.int .u8 b.toNat])) s)
  | _=>False
 | .text d x=>∃ xs,rowAt s (ax s x) = some (1,xs)∧xs.length≤9223372036854775807∧∃ l : List UInt8,xs = l.map (fun b=>[.int .u8 b.toNat])∧K (put d (.str ⟨l.toArray⟩) s)
 | .box d h x=>0 < (cellsOf (take h (ax s x) s).1).length∧K (put d (.ptr .own (cellsOf (take h (ax s x) s).1)) (take h (ax s x) s).2)
 | .new d z=>K (put d (.ptr .own z) s)
 | .build d h z ps=>EB h (takes h (ps.map (·.2)) s).1∧vp (ps.map (·.1.2)) (takes h (ps.map (·.2)) s).1∧K (put d (.agg (tj z (ps.map (·.1.1)) (takes h (ps.map (·.2)) s).1)) (takes h (ps.map (·.2)) s).2)
 | .lit d h sz ps=>(∀ x∈(takes h ps s).1,(cellsOf x).length = sz∧ga (cellsOf x) = true)∧K (put d (.row .own sz ((takes h ps s).1.map cellsOf)) (takes h ps s).2)
 | .make d sz bytes z n=>match ax s n with
  | .int _ i=>0≤i∧i * bytes≤140737488355328∧K (put d (.row .own sz (List.replicate i.toNat z)) s)
  | _=>False
 | .load d sz agg a=>∃ cs,fB s (ax s a) = some cs∧sz≤cs.length∧K (put d (bif agg then .agg (cs.take sz) else cs.headD .dead) s)
 | .store sz h a x=>(cellsOf (take h (ax s x) s).1).length = sz∧(match ax (take h (ax s x) s).2 a with
  | .aA r p i c=>storable (take h (ax s x) s).2 r p i c (cellsOf (take h (ax s x) s).1)∧K (setCells r p i c (cellsOf (take h (ax s x) s).1) (take h (ax s x) s).2)
  | _=>False)
 | .cS d x=>match ax s x with
  | .aA r p i c=>K (put d (.aA r p i c) s)
  | .ptr m cs=>K (put d (.ptr m cs) s)
  | .fn f cs=>K (put d (.fn f cs) s)
  | _=>False
 | .ni d x off=>match ax s x with
  | .aA r p i c=>K (put d (.aA r p i (c + off)) s)
  | .ptr m cs=>K (put d (.ptr m (cs.drop off)) s)
  | _=>False
 | .me d x off sz agg=>match ax s x with
  | .agg cs=>off + sz≤cs.length∧K (put d (bif agg then .agg ((cs.drop off).take sz) else (cs.drop off).headD .dead) s)
  | _=>False
 | .dX d sz x i=>match ax s i with
  | .int _ n=>0≤n∧(match ax s x with
   | .row m z xs=>z = sz∧∃ e,xs[n.toNat]? = some e∧K (put d (.ptr m e) s)
   | .ref r p=>(match look s r p with
    | some (.row _ z xs)=>z = sz∧n.toNat < xs.length∧K (put d (.aA r p n.toNat 0) s)
    | _=>False)
   | .cut r p lo hi=>(match look s r p with
    | some (.row _ z _)=>z = sz∧lo + n.toNat < hi∧K (put d (.aA r p (lo + n.toNat) 0) s)
    | _=>False)
   | _=>False)
  | _=>False
 | .cM d x i=>match ax s x,ax s i with
  | .str t,.int _ n=>0≤n∧∃ b,t.data[n.toNat]? = some b∧K (put d (.int .u8 b.toNat) s)
  | _,_=>False
 | .oC d n sz agg x i=>match ax s x,ax s i with
  | .agg cs,.int _ j=>0≤j∧j < n∧cs.length = n * sz∧K (put d (bif agg then .agg ((cs.drop (j.toNat * sz)).take sz) else (cs.drop (j.toNat * sz)).headD .dead) s)
  | _,_=>False
 | .ext d x i=>match ax s x with
  | .au cs=>i < cs.length∧K (put d (cs.getD i .dead) s)
  | _=>False
 | .fo d x lo hi=>match ax s x with
  | .str t=>0≤asNat s lo 0∧asNat s lo 0≤asNat s hi t.size∧asNat s hi t.size≤t.size∧K (put d (.str (t.extract (asNat s lo 0).toNat (asNat s hi t.size).toNat)) s)
  | _=>False
 | .kL d sz x lo hi=>∃ xs,rowAt s (ax s x) = some (sz,xs)∧0≤asNat s lo 0∧asNat s lo 0≤asNat s hi xs.length∧asNat s hi xs.length≤xs.length∧(match ax s x with
  | .row m z _=>K (put d (.row m z ((xs.take (asNat s hi xs.length).toNat).drop (asNat s lo 0).toNat)) s)
  | .ref r p=>K (put d (.cut r p (asNat s lo 0).toNat (asNat s hi xs.length).toNat) s)
  | _=>False)
 | .lE d fz sz agg a=>∃ cs,fB s (ax s a) = some cs∧sz≤cs.length∧∃ s',ghost fz d (put d (bif agg then .agg (cs.take sz) else cs.headD .dead) s) = some s'∧K s'
 | .s9 sz z x=>match ax s x with
  | .cut r p lo hi=>(match look s r p with
   | some (.row .own z' xs)=>z' = sz∧K (gA r p (.row .own z' (Bi lo hi z xs)) s)
   | _=>False)
  | _=>False
 | .oH d f x as=>match ax s x with
  | .agg cs=>X.bare.iB (bK cs s).1 = true∧AC P f (.agg (bK cs s).1 :: fy (bK cs s).2 .dead as (as.map fun _=>.dead)) fun r ps=>match ps with
   | .agg ys :: _=>ga ys = true∧∃ s',kT cs ys (bK cs s).2 = some s'∧K (eR d r s')
   | _=>False
  | _=>False
 | .lJ d f cs=>K (put d (.fn f (cs.map (ax s))) s)
 | .len d x=>∃ z xs,rowAt s (ax s x) = some (z,xs)∧K (put d (.int .i64 xs.length) s)
 | .qk d x=>match ax s x with
  | .str t=>K (put d (.int .i64 t.size) s)
  | _=>False
 | .app d h sz bytes x y=>match (take .mv (ax s x) s).1 with
  | .row .own z xs=>z = sz∧(match h with
   | .mv=>(match (cQ (ax (take .mv (ax s x) s).2 y) (take .mv (ax s x) s).2).1 with
    | .row .own z' ys=>z' = sz∧(xs.length + ys.length) * bytes≤140737488355328∧K (put d (.row .own z (xs ++ ys)) (cQ (ax (take .mv (ax s x) s).2 y) (take .mv (ax s x) s).2).2)
    | _=>False)
   | _=>∃ ys,rowAt (take .mv (ax s x) s).2 (ax (take .mv (ax s x) s).2 y) = some (sz,ys)∧(xs.length + ys.length) * bytes≤140737488355328∧scalars ys∧K (put d (.row .own z (xs ++ ys)) (take .mv (ax s x) s).2))
  | _=>False
 | .mn d xs=>match xs.map (ax s) with
  | [.int k a,.int k' b]=>k = k'∧K (put d (.int k (if b < a then b else a)) s)
  | _=>False
 | .mx d xs=>match xs.map (ax s) with
  | [.int k a,.int k' b]=>k = k'∧K (put d (.int k (if b > a then b else a)) s)
  | _=>False
 | .call d f as=>qG P f d as none s K
 | .jl d x as=>match ax s x with
  | .fn f _=>ak P f = true∧qG P f d as (some x) s K
  | _=>False
def bU.dst : bU→Option Nat
 | .mv d _ | .aP d _ _ | .pick d _ _ _ | .un d _ _ | .bin d _ _ _ | .beq d _ _ _ | .kS d _ _ _ _ | .p6 d _ _ | .conv d _ _ | .bytes d _ | .text d _ | .box d _ _ | .new d _ | .build d _ _ _ | .lit d _ _ _
 | .make d _ _ _ _ | .load d _ _ _ | .cS d _ | .ni d _ _ | .me d _ _ _ _ | .dX d _ _ _ | .cM d _ _ | .oC d _ _ _ _ _ | .ext d _ _ | .fo d _ _ _
 | .kL d _ _ _ _ | .lJ d _ _ | .len d _ | .qk d _ | .app d _ _ _ _ _ | .mn d _ | .mx d _ | .lE d _ _ _ _=>some d
 | .call d _ _=>d
 | .jl d _ _=>d
 | .oH d _ _ _=>d
 | .store _ _ _ _=>none
 | .s9 _ _ _=>none
def mY [Bs] (P : Program) (g : G) (s : ah) (K : ah→Prop) : Prop:=match g with
 | ⟨none,o⟩=>aN P o s K
 | ⟨some (t,b),o⟩=>match get s t with
  | .bool v=>(v = b→aN P o ((t,.bool b) :: s) K)∧(v = !b→K (eR o.dst (.au []) ((t,.bool (!b)) :: s)))
  | .au []=>K (eR o.dst (.au []) s)
  | _=>False
def jj [Bs] (P : Program) : List G→ah→(Ex→ah→Prop)→Prop
 | [],s,Q=>Q .normal s
 | g :: l,s,Q=>mY P g s fun s'=>jj P l s' Q
def keep (ks : List Nat) (s : ah) : ah:=ks.map fun k=>(k,(get s k).only ks)
def gj [Bs] (P : Program) : DT→ah→(Ex→ah→Prop)→Prop
 | .nil ks,s,Q=>Q .normal (keep ks s)
 | .step _ g t,s,Q=>mY P g s fun s'=>gj P t s' Q
 | .alt a b,s,Q=>gj P a s Q∧gj P b s Q
 | .kp ks t,s,Q=>gj P t (keep ks s) Q
def dN [Bs] (P : Program) : A→ah→(Ex→ah→Prop)→Prop
 | .skip,s,Q=>Q .normal s
 | .ret,s,Q=>Q .ret s
 | .exit id,s,Q=>Q (.exit id) s
 | .ops l,s,Q=>jj P l s Q
 | .draw t,s,Q=>gj P t s Q
 | .seq a b,s,Q=>dN P a s fun e s'=>match e with
  | .normal=>dN P b s' Q
  | e=>Q e s'
 | .cond c a b,s,Q=>match ax s c with
  | .bool t=>(t = true→dN P a s Q)∧(t = false→dN P b s Q)
  | _=>False
 | .block id b,s,Q=>dN P b s fun e s'=>match e with
  | .exit i=>bif i == id then Q .normal s' else Q (.exit i) s'
  | e=>Q e s'
 | .loop b,s,Q=>∃ I : Nat→ah→Prop,(∃ n,I n s)∧∀ n s',I n s'→dN P b s' fun e s''=>match e with
  | .normal=>∃ m,m < n∧I m s''
  | e=>Q e s''
 | .pk ks b,s,Q=>dN P b s fun e s'=>match e with
  | .normal=>Q .normal (keep ks s')
  | e=>Q e s'
def vK [Bs] (P : Program) (t : DT) (Q : Ex→ah→Prop) : ah→Prop:=fun s=>gj P t s Q
def E8 [Bs] (P : Program) (l : List G) (Q : Ex→ah→Prop) : ah→Prop:=fun s=>jj P l s Q
def AD [Bs] (P : Program) (b : A) (Q : Ex→ah→Prop) : Ex→ah→Prop:=fun e s'=>match e with
  | .normal=>dN P b s' Q
  | e=>Q e s'
def Ay (id : Nat) (Q : Ex→ah→Prop) : Ex→ah→Prop:=fun e s'=>match e with
  | .exit i=>bif i == id then Q .normal s' else Q (.exit i) s'
  | e=>Q e s'
end M
namespace M
open Go
variable [Bs] {P : Program}
@[simp] theorem aiS (s : ah) (Q : Ex→ah→Prop) : dN P .skip s Q = Q .normal s:=rfl
@[simp] theorem aiQ (s : ah) (Q : Ex→ah→Prop) : dN P .ret s Q = Q .ret s:=rfl
@[simp] theorem aiO (i : Nat) (s : ah) (Q : Ex→ah→Prop) : dN P (.exit i) s Q = Q (.exit i) s:=rfl
@[simp] theorem aiP (l : List G) (s : ah) (Q : Ex→ah→Prop) : dN P (.ops l) s Q = jj P l s Q:=rfl
@[simp] theorem aiN (t : DT) (s : ah) (Q : Ex→ah→Prop) : dN P (.draw t) s Q = gj P t s Q:=rfl
@[simp] theorem ajO (ks : List Nat) (s : ah) (Q : Ex→ah→Prop) : gj P (.nil ks) s Q = Q .normal (keep ks s):=rfl
@[simp] theorem ajP (i : Nat) (o : bU) (t : DT) (s : ah) (Q : Ex→ah→Prop) : gj P (.step i ⟨none,o⟩ t) s Q = aN P o s (vK P t Q):=rfl
@[simp] theorem ajM (i t : Nat) (b : Bool) (o : bU) (l : DT) (s : ah) (Q : Ex→ah→Prop) : gj P (.step i ⟨some (t,b),o⟩ l) s Q = (match get s t with
  | .bool v=>(v = b→aN P o ((t,.bool b) :: s) (vK P l Q))∧(v = !b→vK P l Q (eR o.dst (.au []) ((t,.bool (!b)) :: s)))
  | .au []=>vK P l Q (eR o.dst (.au []) s)
  | _=>False):=rfl
@[simp] theorem ajL (a b : DT) (s : ah) (Q : Ex→ah→Prop) : gj P (.alt a b) s Q = (gj P a s Q∧gj P b s Q):=rfl
@[simp] theorem ajN (ks : List Nat) (t : DT) (s : ah) (Q : Ex→ah→Prop) : gj P (.kp ks t) s Q = gj P t (keep ks s) Q:=rfl
@[simp] theorem ajK (t : DT) (Q : Ex→ah→Prop) (s : ah) : vK P t Q s = gj P t s Q:=rfl
@[simp] theorem aiR (a b : A) (s : ah) (Q : Ex→ah→Prop) : dN P (.seq a b) s Q = dN P a s (AD P b Q):=rfl
@[simp] theorem aiL (i : Nat) (b : A) (s : ah) (Q : Ex→ah→Prop) : dN P (.block i b) s Q = dN P b s (Ay i Q):=rfl
@[simp] theorem aiM (c : AV) (a b : A) (s : ah) (Q : Ex→ah→Prop) : dN P (.cond c a b) s Q = (match ax s c with | .bool t=>(t = true→dN P a s Q)∧(t = false→dN P b s Q) | _=>False):=rfl
@[simp] theorem alE (b : A) (Q : Ex→ah→Prop) (s : ah) : AD P b Q .normal s = dN P b s Q:=rfl
@[simp] theorem alD (b : A) (Q : Ex→ah→Prop) (s : ah) (i : Nat) : AD P b Q (.exit i) s = Q (.exit i) s:=rfl
@[simp] theorem alF (b : A) (Q : Ex→ah→Prop) (s : ah) : AD P b Q .ret s = Q .ret s:=rfl
@[simp] theorem ai2 (i : Nat) (Q : Ex→ah→Prop) (s : ah) : Ay i Q .normal s = Q .normal s:=rfl
@[simp] theorem ai3 (i : Nat) (Q : Ex→ah→Prop) (s : ah) : Ay i Q .ret s = Q .ret s:=rfl
@[simp] theorem ai1 (i j : Nat) (Q : Ex→ah→Prop) (s : ah) : Ay i Q (.exit j) s = (bif j == i then Q .normal s else Q (.exit j) s):=rfl
@[simp] theorem alm (s : ah) (Q : Ex→ah→Prop) : jj P [] s Q = Q .normal s:=rfl
@[simp] theorem alj (o : bU) (l : List G) (s : ah) (Q : Ex→ah→Prop) : jj P (⟨none,o⟩ :: l) s Q = aN P o s (E8 P l Q):=rfl
@[simp] theorem alk (t : Nat) (b : Bool) (o : bU) (l : List G) (s : ah) (Q : Ex→ah→Prop) : jj P (⟨some (t,b),o⟩ :: l) s Q = (match get s t with
  | .bool v=>(v = b→aN P o ((t,.bool b) :: s) (E8 P l Q))∧(v = !b→jj P l (eR o.dst (.au []) ((t,.bool (!b)) :: s)) Q)
  | .au []=>jj P l (eR o.dst (.au []) s) Q
  | _=>False):=rfl
@[simp] theorem ali (l : List G) (Q : Ex→ah→Prop) (s : ah) : E8 P l Q s = jj P l s Q:=rfl
attribute [simp] aN get put eR pL X.gL ax alias gU fM vS qw look X.sub X.step X.putAt X.aU gM Pt move take PN bK cellsOf fB rowAt res jY mK uT eM mG setCell setCells
 iZ sS Fm vB JY yV cA ga takes jo tj EB vp storable asNat bJ fy di jA mZ X.dY X.nN pK gA uH placeOf X.bare X.bare.iB l6 oJ qG X.md X.dz X.bO X.kill X.fU X.pfx bU.dst scalar X.only X.mH keep
end M
namespace M
open Go Go.RowKit
namespace C
variable {w w' : World} {Z Z' : Md→Nat→Nat→Prop} {S : Nat→Nat→Prop}
theorem eC : ∀ (c : C),c.ok w Z→∀ b k,c.fp b k→b < w.heap.size
 | .row m sz A len cap e,h,b,k,hf=>by
  obtain ⟨h1,h2,h3,h4,h5⟩:=h
  rcases hf with ⟨hm,⟨o,hA⟩ | ⟨i,j,hi,hj,hf⟩⟩
  ·rcases h4 hm with ⟨hn,_⟩ | ⟨g,o',arr,t,fz,jq,hh,_⟩
   ·rw [hn] at hA; cases hA
   ·rw [jq] at hA
    injection hA with hA
    injection hA with e1 e2
    subst e1
    exact (Array.getElem?_eq_some_iff.1 hh).1
  ·exact eC (e i j) (h3 i j hi hj).2.2.2 b k hf
 | .ptr m g o n c,h,b,k,hf=>by
  obtain ⟨h1,h2,h3,h4⟩:=h
  rcases hf with ⟨_,⟨rfl,_⟩ | ⟨j,hj,hf⟩⟩
  ·exact h2
  ·exact eC (c j) (h3 j hj).2.2 b k hf
 | .agg n c,h,b,k,hf=>by
  obtain ⟨j,hj,hf⟩:=hf
  exact eC (c j) (h.1 j hj).2 b k hf
 | .au n c,h,b,k,hf=>by
  obtain ⟨j,hj,hf⟩:=hf
  exact eC (c j) (h.1 j hj).2 b k hf
 | .fn _ _ _,_,_,_,hf=>hf.elim
 | .dead _,_,_,_,hf=>hf.elim
 | .int _ _,_,_,_,hf=>hf.elim
 | .bool _,_,_,_,hf=>hf.elim
 | .str _,_,_,_,hf=>hf.elim
 | .ref _ _ _,_,_,_,hf=>hf.elim
 | .aA _ _ _ _ _,_,_,_,hf=>hf.elim
 | .cut _ _ _ _ _,_,_,_,hf=>hf.elim
theorem Mo {c : C} {m : Md} (hc : c.cell) (hf : c.fits m) {b k : Nat} (h : c.fp b k) : m = .own:=by
 cases c with
 | row m' sz A len cap e =>
  obtain ⟨hm,_⟩:=h
  subst hm
  rcases hf with h | h | ⟨_,h⟩
  ·exact h
  ·exact h.symm
  ·cases h
 | ptr m' g o n c =>
  obtain ⟨hm,_⟩:=h
  subst hm
  rcases hf with h | h | ⟨_,h⟩
  ·exact h
  ·exact h.symm
  ·cases h
 | agg n c=>exact hc.elim
 | au n c=>exact hc.elim
 | _=>exact h.elim
theorem jd {m : Md} {sz : Nat} {A : Option Ad} {len cap : Nat} {e : Nat→Nat→C} {i j : Nat} (h0 : (e i j).cell) (h1 : (e i j).fits m) (hi : i < len) (hj : j < sz) {b k : Nat} (hf : (e i j).fp b k) : (C.row m sz A len cap e).fp b k :=
 ⟨Mo h0 h1 hf,.inr ⟨i,j,hi,hj,hf⟩⟩
theorem jy {m : Md} {g o n : Nat} {c : Nat→C} {j : Nat} (h0 : (c j).cell) (h1 : (c j).fits m) (hj : j < n) {b k : Nat} (hf : (c j).fp b k) : (C.ptr m g o n c).fp b k :=
 ⟨Mo h0 h1 hf,.inr ⟨j,hj,hf⟩⟩
theorem eL (hE : Ext S w w') (hZ : ∀ m b k,Z m b k→¬ S b k) : ∀ (c : C),(∀ b k,c.fp b k→¬ S b k)→c.ok w Z→c.ok w' Z
 | .row m sz A len cap e,hS,h=>by
  obtain ⟨h1,h2,h3,h4,h5⟩:=h
  refine ⟨h1,fun i j hi hj=>?_,fun i j hi hj=>?_,fun hm=>?_,h5⟩
  ·obtain ⟨g,o,hA,hc,hz⟩:=h2 i j hi hj
   refine ⟨g,o,hA,hE.cell ?_ hc,hz⟩
   by_cases hm : m = .own
   ·exact hS _ _ ⟨hm,.inl ⟨o,hA⟩⟩
   ·exact hZ _ _ _ (hz hm)
  ·obtain ⟨a1,a2,a3,a4⟩:=h3 i j hi hj
   exact ⟨a1,a2,a3,eL hE hZ (e i j) (fun b k hf=>hS b k (jd a1 a3 hi hj hf)) a4⟩
  ·rcases h4 hm with h | ⟨g,o,arr,t,fz,hA,hh,hsz,hfr⟩
   ·exact .inl h
   ·have hg : g < w.heap.size:=(Array.getElem?_eq_some_iff.1 hh).1
    rcases hE.block g hg with e' | ⟨a1,a2,t',kq,e1,e2,e3,e4⟩
    ·exact .inr ⟨g,o,arr,t,fz,hA,e'.trans hh,hsz,fun k hk hk'=>(hE.frozen hg).trans (hfr k hk hk')⟩
    ·rw [hh] at e1
     injection e1 with e1
     injection e1 with q1 q2 q3
     subst q1
     exact .inr ⟨g,o,a2,t',kq,hA,e2,by omega,fun k hk hk'=>(hE.frozen hg).trans (hfr k hk hk')⟩
 | .ptr m g o n c,hS,h=>by
  obtain ⟨h1,h2,h3,h4⟩:=h
  refine ⟨fun j hj=>?_,Nat.lt_of_lt_of_le h2 hE.size,fun j hj=>?_,h4⟩
  ·obtain ⟨a1,a2,a3⟩:=h1 j hj
   refine ⟨hE.cell ?_ a1,a2,fun hm=>(hE.frozen h2).trans (a3 hm)⟩
   by_cases hm : m = .own
   ·exact hS _ _ ⟨hm,.inl ⟨rfl,by omega,by omega⟩⟩
   ·exact hZ _ _ _ (a2 hm)
  ·obtain ⟨a1,a3,a4⟩:=h3 j hj
   exact ⟨a1,a3,eL hE hZ (c j) (fun b k hf=>hS b k (jy a1 a3 hj hf)) a4⟩
 | .agg n c,hS,h=>⟨fun j hj=>⟨(h.1 j hj).1,eL hE hZ (c j) (fun b k hf=>hS b k ⟨j,hj,hf⟩) (h.1 j hj).2⟩,h.2⟩
 | .au n c,hS,h=>⟨fun j hj=>⟨(h.1 j hj).1,eL hE hZ (c j) (fun b k hf=>hS b k ⟨j,hj,hf⟩) (h.1 j hj).2⟩,h.2⟩
 | .fn f n c,hS,h=>fun j hj=>⟨eL hE hZ (c j) (fun b k hf=>((h j hj).2 b k hf).elim) (h j hj).1,(h j hj).2⟩
 | .dead _,_,h=>h
 | .int _ _,_,h=>h
 | .bool _,_,h=>h
 | .str _,_,h=>h
 | .ref _ _ _,_,h=>h
 | .aA _ _ _ _ _,_,h=>h
 | .cut _ _ _ _ _,_,h=>h
theorem fG (hZ : ∀ m b k,Z m b k→Z' m b k) : ∀ (c : C),c.ok w Z→c.ok w Z'
 | .row m sz A len cap e,h=>by
  obtain ⟨h1,h2,h3,h4,h5⟩:=h
  refine ⟨h1,fun i j hi hj=>?_,fun i j hi hj=>?_,h4,h5⟩
  ·obtain ⟨g,o,hA,hc,hz⟩:=h2 i j hi hj
   exact ⟨g,o,hA,hc,fun hm=>hZ _ _ _ (hz hm)⟩
  ·obtain ⟨a1,a2,a3,a4⟩:=h3 i j hi hj
   exact ⟨a1,a2,a3,fG hZ (e i j) a4⟩
 | .ptr m g o n c,h=>by
  obtain ⟨h1,h2,h3,h4⟩:=h
  refine ⟨fun j hj=>?_,h2,fun j hj=>?_,h4⟩
  ·obtain ⟨a1,a2,a3⟩:=h1 j hj
   exact ⟨a1,fun hm=>hZ _ _ _ (a2 hm),a3⟩
  ·obtain ⟨a1,a3,a4⟩:=h3 j hj
   exact ⟨a1,a3,fG hZ (c j) a4⟩
 | .agg n c,h=>⟨fun j hj=>⟨(h.1 j hj).1,fG hZ (c j) (h.1 j hj).2⟩,h.2⟩
 | .au n c,h=>⟨fun j hj=>⟨(h.1 j hj).1,fG hZ (c j) (h.1 j hj).2⟩,h.2⟩
 | .fn f n c,h=>fun j hj=>⟨fG hZ (c j) (h j hj).1,(h j hj).2⟩
 | .dead _,h=>h
 | .int _ _,h=>h
 | .bool _,h=>h
 | .str _,h=>h
 | .ref _ _ _,h=>h
 | .aA _ _ _ _ _,h=>h
 | .cut _ _ _ _ _,h=>h
def step : C→Nat×Nat→Option C
 | .row _ sz _ len _ e,q=>if q.1 < len∧q.2 < sz then some (e q.1 q.2) else none
 | .ptr _ _ _ n c,q=>if q.1 = 0∧q.2 < n then some (c q.2) else none
 | .agg n c,q=>if q.1 = 0∧q.2 < n then some (c q.2) else none
 | .au n c,q=>if q.1 = 0∧q.2 < n then some (c q.2) else none
 | _,_=>none
def sub (c : C) : Path→Option C
 | []=>some c
 | q :: p=>(c.step q).bind (·.sub p)
def bN (f : Nat→C) (j : Nat) (y : C) : Nat→C:=fun i=>if i = j then y else f i
def aU : C→Nat×Nat→C→C
 | .row m sz A len cap e,q,y=>.row m sz A len cap (fun i j=>if i = q.1∧j = q.2 then y else e i j)
 | .ptr m g o n c,q,y=>.ptr m g o n (bN c q.2 y)
 | .agg n c,q,y=>.agg n (bN c q.2 y)
 | .au n c,q,y=>.au n (bN c q.2 y)
 | c,_,_=>c
def putAt : Path→C→C→C
 | [],_,y=>y
 | q :: p,c,y=>match c.step q with
  | some z=>c.aU q (putAt p z y)
  | none=>c
theorem cD {α : Type} (f : Nat→α) (n i : Nat) : ((List.range n).map f)[i]? = if i < n then some (f i) else none:=by
 rw [List.getElem?_map]
 by_cases h : i < n
 ·rw [List.getElem?_range h,if_pos h]; rfl
 ·rw [List.getElem?_eq_none (by simpa using h),if_neg h]; rfl
theorem PE (c : C) (q : Nat×Nat) : c.er.step q = (c.step q).map er:=by
 cases c with
 | row m sz A len cap e =>
  simp only [er,X.step,step,cD]
  by_cases h1 : q.1 < len
  ·by_cases h2 : q.2 < sz
   ·simp [h1,h2,cD]
   ·simp [h1,h2,cD]
  ·simp [h1]
 | ptr m g o n c=>simp only [er,X.step,step,cD]; cases h0 : q.1 == 0 <;> by_cases h1 : q.2 < n <;> simp_all
 | agg n c=>simp only [er,X.step,step,cD]; cases h0 : q.1 == 0 <;> by_cases h1 : q.2 < n <;> simp_all
 | au n c=>simp only [er,X.step,step,cD]; cases h0 : q.1 == 0 <;> by_cases h1 : q.2 < n <;> simp_all
 | _=>rfl
theorem fI : ∀ (p : Path) (c : C),c.er.sub p = (c.sub p).map er
 | [],c=>rfl
 | q :: p,c=>by
  simp only [X.sub,sub,PE]
  cases h : c.step q with
  | none=>rfl
  | some d=>simpa using fI p d
theorem yE {α : Type} (f g : Nat→α) (n j : Nat) (y : α) (h : ∀ i,i < n→g i = if i = j then y else f i) : ((List.range n).map f).set j y = (List.range n).map g:=by
 apply List.ext_getElem?
 intro i
 rw [List.getElem?_set,cD,cD]
 simp only [List.length_map,List.length_range]
 by_cases hi : i < n
 ·by_cases hj : j = i
  ·subst hj; simp [hi,h j hi]
  ·have : i≠j:=fun e=>hj e.symm
   simp [hi,hj,h i hi,this]
 ·by_cases hj : j = i
  ·subst hj; simp [hi]
  ·simp [hi,hj]
theorem adE (c : C) (q : Nat×Nat) (y : C) : (c.aU q y).er = c.er.aU q y.er:=by
 cases c with
 | row m sz A len cap e =>
  simp only [aU,er,X.aU]
  congr 1
  apply List.ext_getElem?
  intro i
  rw [List.getElem?_modify,cD,cD]
  by_cases hi : i < len
  ·rw [if_pos hi,if_pos hi]
   show some _ = some _
   congr 1
   by_cases hq : q.1 = i
   ·subst hq
    simp only [if_true]
    symm
    apply yE
    intro j hj
    by_cases hj' : j = q.2 <;> simp [hj']
   ·have mq : i≠q.1:=fun e=>hq e.symm
    simp [hq,mq]
  ·simp [hi]
 | ptr m g o n c =>
  simp only [aU,er,X.aU]
  congr 1
  symm
  apply yE
  intro i hi
  unfold bN
  split <;> rfl
 | agg n c =>
  simp only [aU,er,X.aU]
  congr 1
  symm
  apply yE
  intro i hi
  unfold bN
  split <;> rfl
 | au n c =>
  simp only [aU,er,X.aU]
  congr 1
  symm
  apply yE
  intro i hi
  unfold bN
  split <;> rfl
 | _=>rfl
theorem IP : ∀ (p : Path) (c y : C),(putAt p c y).er = X.putAt p c.er y.er
 | [],c,y=>rfl
 | q :: p,c,y=>by
  simp only [putAt,X.putAt,PE]
  cases h : c.step q with
  | none=>rfl
  | some d=>simp only [Option.map_some,adE,IP p d y]
end C
end M
namespace M
open Go Go.RowKit
namespace C
variable {w w' : World} {Z Z' : Md→Nat→Nat→Prop} {S : Nat→Nat→Prop}
theorem JI {c z : C} {q : Nat×Nat} (h : c.step q = some z) (ho : c.ok w Z) {b k : Nat} (hf : z.fp b k) : c.fp b k:=by
 cases c with
 | row m sz A len cap e =>
  simp only [step] at h
  split at h
  ·rename_i hq
   injection h with h
   subst h
   obtain ⟨a1,a2,a3,a4⟩:=ho.2.2.1 _ _ hq.1 hq.2
   exact jd a1 a3 hq.1 hq.2 hf
  ·cases h
 | ptr m g o n c =>
  simp only [step] at h
  split at h
  ·rename_i hq
   injection h with h
   subst h
   obtain ⟨a1,a3,a4⟩:=ho.2.2.1 _ hq.2
   exact jy a1 a3 hq.2 hf
  ·cases h
 | agg n c =>
  simp only [step] at h
  split at h
  ·rename_i hq
   injection h with h
   subst h
   exact ⟨q.2,hq.2,hf⟩
  ·cases h
 | au n c =>
  simp only [step] at h
  split at h
  ·rename_i hq
   injection h with h
   subst h
   exact ⟨q.2,hq.2,hf⟩
  ·cases h
 | _=>simp [step] at h
theorem sy {c z : C} {q : Nat×Nat} (h : c.step q = some z) (ho : c.ok w Z) : z.ok w Z:=by
 cases c with
 | row m sz A len cap e =>
  simp only [step] at h
  split at h
  ·rename_i hq
   injection h with h
   subst h
   exact (ho.2.2.1 _ _ hq.1 hq.2).2.2.2
  ·cases h
 | ptr m g o n c =>
  simp only [step] at h
  split at h
  ·rename_i hq
   injection h with h
   subst h
   exact (ho.2.2.1 _ hq.2).2.2
  ·cases h
 | agg n c =>
  simp only [step] at h
  split at h
  ·rename_i hq
   injection h with h
   subst h
   exact (ho.1 _ hq.2).2
  ·cases h
 | au n c =>
  simp only [step] at h
  split at h
  ·rename_i hq
   injection h with h
   subst h
   exact (ho.1 _ hq.2).2
  ·cases h
 | _=>simp [step] at h
theorem gd : ∀ (p : Path) {c d : C},c.sub p = some d→c.ok w Z→d.ok w Z
 | [],c,d,h,ho=>by simp only [sub] at h; injection h with h; subst h; exact ho
 | q :: p,c,d,h,ho=>by
  simp only [sub] at h
  cases hs : c.step q with
  | none=>rw [hs] at h; cases h
  | some z=>rw [hs] at h; exact gd p h (sy hs ho)
theorem fJ : ∀ (p : Path) {c d : C},c.sub p = some d→c.ok w Z→∀ {b k : Nat},d.fp b k→c.fp b k
 | [],c,d,h,_,b,k,hf=>by simp only [sub] at h; injection h with h; subst h; exact hf
 | q :: p,c,d,h,ho,b,k,hf=>by
  simp only [sub] at h
  cases hs : c.step q with
  | none=>rw [hs] at h; cases h
  | some z=>rw [hs] at h; exact JI hs ho (fJ p h (sy hs ho) hf)
structure gi (c c' : C) : Prop where
 val : c'.val = c.val
 cell : c.cell→c'.cell
 ff : c.ff→c'.ff
 cA : c.cA→c'.cA
 fits : ∀ m,c.fits m→c'.fits m
theorem gi.aU (c : C) (q : Nat×Nat) (z z' : C) (hs : c.step q = some z) (hv : z'.val = z.val) : gi c (c.aU q z'):=by
 have list : ∀ (n : Nat) (f : Nat→C),f q.2 = z→((List.range n).map fun j=>(bN f q.2 z' j).val) = ((List.range n).map fun j=>(f j).val):=by
  intro n f hf
  apply List.map_congr_left
  intro j _
  unfold bN
  split
  ·rename_i e; subst e; rw [hv,hf]
  ·rfl
 cases c with
 | row m sz A len cap e=>exact ⟨rfl,fun h=>h,fun h=>h,fun h=>h,fun m h=>h⟩
 | ptr m g o n c=>exact ⟨rfl,fun h=>h,fun h=>h,fun h=>h,fun m h=>h⟩
 | agg n c =>
  simp only [step] at hs
  split at hs
  ·injection hs with hs
   exact ⟨by simp only [C.aU,C.val]; rw [list n c hs],fun h=>h,fun h=>h,fun h=>h,fun m h=>h⟩
  ·cases hs
 | au n c =>
  simp only [step] at hs
  split at hs
  ·injection hs with hs
   exact ⟨by simp only [C.aU,C.val]; rw [list n c hs],fun h=>h,fun h=>h,fun h=>h,fun m h=>h⟩
  ·cases hs
 | _=>simp [step] at hs
theorem yR (hM : ∀ m b k,Z m b k→Z' m b k) (hE : Ext S w w') (hZ : ∀ m b k,Z m b k→¬ S b k) : ∀ (p : Path) (c d d' : C),c.ok w Z→c.sub p = some d→d'.ok w' Z'→gi d d' →
  (∀ b k,S b k→d.fp b k∨¬ c.fp b k)→(∀ b k,d'.fp b k→d.fp b k∨¬ c.fp b k) →
  (putAt p c d').ok w' Z'∧(∀ b k,(putAt p c d').fp b k→d'.fp b k∨(c.fp b k∧¬ d.fp b k))∧gi c (putAt p c d')
 | [],c,d,d',hc,hs,hd,hl,hS,hF=>by
  simp only [sub] at hs
  injection hs with hs
  subst hs
  exact ⟨hd,fun b k h=>.inl h,hl⟩
 | q :: p,c,d,d',hc,hs,hd,hl,hS,hF=>by
  simp only [sub] at hs
  cases hst : c.step q with
  | none=>rw [hst] at hs; cases hs
  | some z =>
   rw [hst] at hs
   have hs' : z.sub p = some d:=hs
   obtain ⟨i1,i2,i3⟩:=yR hM hE hZ p z d d' (sy hst hc) hs' hd hl (fun b k h=>(hS b k h).imp id (fun hn hz=>hn (JI hst hc hz))) (fun b k h=>(hF b k h).imp id (fun hn hz=>hn (JI hst hc hz)))
   simp only [putAt,hst]
   generalize eH : putAt p z d' = z' at i1 i2 i3
   have pn:=gi.aU c q z z' hst i3.val
   have jJ : ∀ {b k},d.fp b k→z.fp b k:=fun h=>fJ p hs' (sy hst hc) h
   have BA : ∀ (y : C),(∀ b k,y.fp b k→c.fp b k)→(∀ b k,y.fp b k→¬ z.fp b k)→∀ b k,y.fp b k→¬ S b k:=fun y hy hyz b k Nz wF=>by
    rcases hS b k wF with h | h
    ·exact hyz b k Nz (jJ h)
    ·exact h (hy b k Nz)
   cases c with
   | row m sz A len cap e =>
    simp only [step] at hst
    split at hst
    ·rename_i hq
     injection hst with hst
     obtain ⟨h1,h2,h3,h4,h5⟩:=hc
     have eO : ∀ b k,z.fp b k→(m = .own→∀ o,A≠some (b,o,none))∧∀ i' j',i' < len→j' < sz→(q.1,q.2)≠(i',j')→¬ (e i' j').fp b k:=fun b k h=>h5 q.1 q.2 hq.1 hq.2 b k (by rw [hst]; exact h)
     have hval : ∀ i j,(if i = q.1∧j = q.2 then z' else e i j).val = (e i j).val:=by
      intro i j
      split
      ·rename_i h; obtain ⟨rfl,rfl⟩:=h; rw [hst]; exact i3.val
      ·rfl
     have jP : ∀ b k,z'.fp b k→(m = .own→∀ o,A≠some (b,o,none))∧∀ i' j',i' < len→j' < sz→(q.1,q.2)≠(i',j')→¬ (e i' j').fp b k:=by
      intro b k h
      rcases i2 b k h with h | ⟨h,_⟩
      ·rcases hF b k h with h | h
       ·exact eO b k (jJ h)
       ·exact ⟨fun hm o hA=>h ⟨hm,.inl ⟨o,hA⟩⟩,fun i' j' hi hj _ hf=>h (jd (h3 i' j' hi hj).1 (h3 i' j' hi hj).2.2.1 hi hj hf)⟩
      ·exact eO b k h
     refine ⟨⟨h1,fun i j hi hj=>?_,fun i j hi hj=>?_,fun hm=>?_,fun i j hi hj b k hf=>?_⟩,fun b k hf=>?_,pn⟩
     ·obtain ⟨g,o,hA,hcell,hz⟩:=h2 i j hi hj
      refine ⟨g,o,hA,?_,fun hm=>hM _ _ _ (hz hm)⟩
      rw [hval]
      refine hE.cell ?_ hcell
      by_cases hm : m = .own
      ·intro wF
       rcases hS _ _ wF with h | h
       ·exact (eO _ _ (jJ h)).1 hm o hA
       ·exact h ⟨hm,.inl ⟨o,hA⟩⟩
      ·exact hZ _ _ _ (hz hm)
     ·obtain ⟨a1,a2,a3,a4⟩:=h3 i j hi hj
      by_cases hij : i = q.1∧j = q.2
      ·obtain ⟨rfl,rfl⟩:=hij
       simp only [and_self,if_true]
       rw [hst] at a1 a2 a3
       exact ⟨i3.cell a1,i3.cA a2,i3.fits _ a3,i1⟩
      ·simp only [if_neg hij]
       refine ⟨a1,a2,a3,fG hM _ (eL hE hZ _ (BA _ (fun b k hf=>jd a1 a3 hi hj hf) fun b k hf iJ=>?_) a4)⟩
       exact (eO b k iJ).2 i j hi hj (fun e=>hij (by simpa using (Prod.mk.injEq _ _ _ _ ▸ e.symm : i = q.1∧j = q.2))) hf
     ·rcases h4 hm with h | ⟨g,o,arr,t,fz,hA,hh,hsz,hfr⟩
      ·exact .inl h
      ·have hg : g < w.heap.size:=(Array.getElem?_eq_some_iff.1 hh).1
       rcases hE.block g hg with e' | ⟨a1,a2,t',kq,e1,e2,e3,e4⟩
       ·exact .inr ⟨g,o,arr,t,fz,hA,e'.trans hh,hsz,fun k hk hk'=>(hE.frozen hg).trans (hfr k hk hk')⟩
       ·rw [hh] at e1
        injection e1 with e1
        injection e1 with q1 q2 q3
        subst q1
        exact .inr ⟨g,o,a2,t',kq,hA,e2,by omega,fun k hk hk'=>(hE.frozen hg).trans (hfr k hk hk')⟩
     ·by_cases hij : i = q.1∧j = q.2
      ·obtain ⟨rfl,rfl⟩:=hij
       simp only [and_self,if_true] at hf
       refine ⟨(jP b k hf).1,fun i' j' hi' hj' hne=>?_⟩
       show ¬ (if i' = q.1∧j' = q.2 then z' else e i' j').fp b k
       rw [if_neg (fun h=>hne (by rw [h.1,h.2]))]
       exact (jP b k hf).2 i' j' hi' hj' hne
      ·simp only [if_neg hij] at hf
       refine ⟨(h5 i j hi hj b k hf).1,fun i' j' hi' hj' hne=>?_⟩
       show ¬ (if i' = q.1∧j' = q.2 then z' else e i' j').fp b k
       by_cases hij' : i' = q.1∧j' = q.2
       ·obtain ⟨rfl,rfl⟩:=hij'
        simp only [and_self,if_true]
        intro hf'
        exact (jP b k hf').2 i j hi hj (fun e=>hij (by simpa using (Prod.mk.injEq _ _ _ _ ▸ e.symm : i = q.1∧j = q.2))) hf
       ·rw [if_neg hij']
        exact (h5 i j hi hj b k hf).2 i' j' hi' hj' hne
     ·rcases hf with ⟨hm,h | ⟨i,j,hi,hj,hf⟩⟩
      ·refine .inr ⟨⟨hm,.inl h⟩,fun hd=>?_⟩
       obtain ⟨o,hA⟩:=h
       exact (eO b k (jJ hd)).1 hm o hA
      ·by_cases hij : i = q.1∧j = q.2
       ·obtain ⟨rfl,rfl⟩:=hij
        simp only [and_self,if_true] at hf
        rcases i2 b k hf with h | ⟨h,hn⟩
        ·exact .inl h
        ·exact .inr ⟨⟨hm,.inr ⟨_,_,hi,hj,by rw [hst]; exact h⟩⟩,hn⟩
       ·simp only [if_neg hij] at hf
        exact .inr ⟨⟨hm,.inr ⟨i,j,hi,hj,hf⟩⟩,fun hd=>(eO b k (jJ hd)).2 i j hi hj (fun e=>hij (by simpa using (Prod.mk.injEq _ _ _ _ ▸ e.symm : i = q.1∧j = q.2))) hf⟩
    ·cases hst
   | ptr m g o n c =>
    simp only [step] at hst
    split at hst
    ·rename_i hq
     injection hst with hst
     obtain ⟨h1,h2,h3,h4⟩:=hc
     have eO : ∀ b k,z.fp b k→(m = .own→¬ (b = g∧o≤k∧k < o + n))∧∀ j',j' < n→q.2≠j'→¬ (c j').fp b k:=fun b k h=>h4 q.2 hq.2 b k (by rw [hst]; exact h)
     have hval : ∀ j,(bN c q.2 z' j).val = (c j).val:=by
      intro j
      unfold bN
      split
      ·rename_i h; subst h; rw [hst]; exact i3.val
      ·rfl
     have jP : ∀ b k,z'.fp b k→(m = .own→¬ (b = g∧o≤k∧k < o + n))∧∀ j',j' < n→q.2≠j'→¬ (c j').fp b k:=by
      intro b k h
      rcases i2 b k h with h | ⟨h,_⟩
      ·rcases hF b k h with h | h
       ·exact eO b k (jJ h)
       ·exact ⟨fun hm hA=>h ⟨hm,.inl hA⟩,fun j' hj _ hf=>h (jy (h3 j' hj).1 (h3 j' hj).2.1 hj hf)⟩
      ·exact eO b k h
     refine ⟨⟨fun j hj=>?_,Nat.lt_of_lt_of_le h2 hE.size,fun j hj=>?_,fun j hj b k hf=>?_⟩,fun b k hf=>?_,pn⟩
     ·obtain ⟨a1,a2,a3⟩:=h1 j hj
      refine ⟨?_,fun hm=>hM _ _ _ (a2 hm),fun hm=>(hE.frozen h2).trans (a3 hm)⟩
      rw [hval]
      refine hE.cell ?_ a1
      by_cases hm : m = .own
      ·intro wF
       rcases hS _ _ wF with h | h
       ·exact (eO _ _ (jJ h)).1 hm ⟨rfl,by omega,by omega⟩
       ·exact h ⟨hm,.inl ⟨rfl,by omega,by omega⟩⟩
      ·exact hZ _ _ _ (a2 hm)
     ·obtain ⟨a1,a3,a4⟩:=h3 j hj
      unfold bN
      by_cases hij : j = q.2
      ·subst hij
       simp only [if_true]
       rw [hst] at a1 a3
       exact ⟨i3.cell a1,i3.fits _ a3,i1⟩
      ·simp only [if_neg hij]
       refine ⟨a1,a3,fG hM _ (eL hE hZ _ (BA _ (fun b k hf=>jy a1 a3 hj hf) fun b k hf iJ=>?_) a4)⟩
       exact (eO b k iJ).2 j hj (fun e=>hij e.symm) hf
     ·unfold bN at hf ⊢
      by_cases hij : j = q.2
      ·subst hij
       simp only [if_true] at hf
       refine ⟨(jP b k hf).1,fun j' hj' hne=>?_⟩
       rw [if_neg (fun h=>hne h.symm)]
       exact (jP b k hf).2 j' hj' hne
      ·simp only [if_neg hij] at hf
       refine ⟨(h4 j hj b k hf).1,fun j' hj' hne=>?_⟩
       by_cases hij' : j' = q.2
       ·subst hij'
        simp only [if_true]
        intro hf'
        exact (jP b k hf').2 j hj (fun e=>hij e.symm) hf
       ·rw [if_neg hij']
        exact (h4 j hj b k hf).2 j' hj' hne
     ·rcases hf with ⟨hm,h | ⟨j,hj,hf⟩⟩
      ·refine .inr ⟨⟨hm,.inl h⟩,fun hd=>?_⟩
       exact (eO b k (jJ hd)).1 hm h
      ·unfold bN at hf
       by_cases hij : j = q.2
       ·subst hij
        simp only [if_true] at hf
        rcases i2 b k hf with h | ⟨h,hn⟩
        ·exact .inl h
        ·exact .inr ⟨⟨hm,.inr ⟨_,hj,by rw [hst]; exact h⟩⟩,hn⟩
       ·simp only [if_neg hij] at hf
        exact .inr ⟨⟨hm,.inr ⟨j,hj,hf⟩⟩,fun hd=>(eO b k (jJ hd)).2 j hj (fun e=>hij e.symm) hf⟩
    ·cases hst
   | agg n c =>
    simp only [step] at hst
    split at hst
    ·rename_i hq
     injection hst with hst
     obtain ⟨h3,h4⟩:=hc
     have eO : ∀ b k,z.fp b k→∀ j',j' < n→q.2≠j'→¬ (c j').fp b k:=fun b k h=>h4 q.2 hq.2 b k (by rw [hst]; exact h)
     have jP : ∀ b k,z'.fp b k→∀ j',j' < n→q.2≠j'→¬ (c j').fp b k:=by
      intro b k h
      rcases i2 b k h with h | ⟨h,_⟩
      ·rcases hF b k h with h | h
       ·exact eO b k (jJ h)
       ·exact fun j' hj _ hf=>h ⟨j',hj,hf⟩
      ·exact eO b k h
     refine ⟨⟨fun j hj=>?_,fun j hj b k hf=>?_⟩,fun b k hf=>?_,pn⟩
     ·obtain ⟨a1,a4⟩:=h3 j hj
      unfold bN
      by_cases hij : j = q.2
      ·subst hij
       simp only [if_true]
       rw [hst] at a1
       exact ⟨i3.cell a1,i1⟩
      ·simp only [if_neg hij]
       refine ⟨a1,fG hM _ (eL hE hZ _ (BA _ (fun b k hf=>⟨j,hj,hf⟩) fun b k hf iJ=>?_) a4)⟩
       exact eO b k iJ j hj (fun e=>hij e.symm) hf
     ·unfold bN at hf ⊢
      by_cases hij : j = q.2
      ·subst hij
       simp only [if_true] at hf
       intro j' hj' hne
       rw [if_neg (fun h=>hne h.symm)]
       exact jP b k hf j' hj' hne
      ·simp only [if_neg hij] at hf
       intro j' hj' hne
       by_cases hij' : j' = q.2
       ·subst hij'
        simp only [if_true]
        intro hf'
        exact jP b k hf' j hj (fun e=>hij e.symm) hf
       ·rw [if_neg hij']
        exact h4 j hj b k hf j' hj' hne
     ·obtain ⟨j,hj,hf⟩:=hf
      unfold bN at hf
      by_cases hij : j = q.2
      ·subst hij
       simp only [if_true] at hf
       rcases i2 b k hf with h | ⟨h,hn⟩
       ·exact .inl h
       ·exact .inr ⟨⟨_,hj,by rw [hst]; exact h⟩,hn⟩
      ·simp only [if_neg hij] at hf
       exact .inr ⟨⟨j,hj,hf⟩,fun hd=>eO b k (jJ hd) j hj (fun e=>hij e.symm) hf⟩
    ·cases hst
   | au n c =>
    simp only [step] at hst
    split at hst
    ·rename_i hq
     injection hst with hst
     obtain ⟨h3,h4⟩:=hc
     have eO : ∀ b k,z.fp b k→∀ j',j' < n→q.2≠j'→¬ (c j').fp b k:=fun b k h=>h4 q.2 hq.2 b k (by rw [hst]; exact h)
     have jP : ∀ b k,z'.fp b k→∀ j',j' < n→q.2≠j'→¬ (c j').fp b k:=by
      intro b k h
      rcases i2 b k h with h | ⟨h,_⟩
      ·rcases hF b k h with h | h
       ·exact eO b k (jJ h)
       ·exact fun j' hj _ hf=>h ⟨j',hj,hf⟩
      ·exact eO b k h
     refine ⟨⟨fun j hj=>?_,fun j hj b k hf=>?_⟩,fun b k hf=>?_,pn⟩
     ·obtain ⟨a1,a4⟩:=h3 j hj
      unfold bN
      by_cases hij : j = q.2
      ·subst hij
       simp only [if_true]
       rw [hst] at a1
       exact ⟨i3.ff a1,i1⟩
      ·simp only [if_neg hij]
       refine ⟨a1,fG hM _ (eL hE hZ _ (BA _ (fun b k hf=>⟨j,hj,hf⟩) fun b k hf iJ=>?_) a4)⟩
       exact eO b k iJ j hj (fun e=>hij e.symm) hf
     ·unfold bN at hf ⊢
      by_cases hij : j = q.2
      ·subst hij
       simp only [if_true] at hf
       intro j' hj' hne
       rw [if_neg (fun h=>hne h.symm)]
       exact jP b k hf j' hj' hne
      ·simp only [if_neg hij] at hf
       intro j' hj' hne
       by_cases hij' : j' = q.2
       ·subst hij'
        simp only [if_true]
        intro hf'
        exact jP b k hf' j hj (fun e=>hij e.symm) hf
       ·rw [if_neg hij']
        exact h4 j hj b k hf j' hj' hne
     ·obtain ⟨j,hj,hf⟩:=hf
      unfold bN at hf
      by_cases hij : j = q.2
      ·subst hij
       simp only [if_true] at hf
       rcases i2 b k hf with h | ⟨h,hn⟩
       ·exact .inl h
       ·exact .inr ⟨⟨_,hj,by rw [hst]; exact h⟩,hn⟩
      ·simp only [if_neg hij] at hf
       exact .inr ⟨⟨j,hj,hf⟩,fun hd=>eO b k (jJ hd) j hj (fun e=>hij e.symm) hf⟩
    ·cases hst
   | _=>simp [step] at hst
end C
end M
namespace M
open Go Go.RowKit
namespace X
theorem ua (r : Nat) (p : Path) {α : Type} (f : α→X) : ∀ l : List α,fU r p (l.map f) = l.map fun a=>(f a).kill r p
 | []=>rfl
 | a :: l=>by simp only [List.map_cons,fU,ua r p f l]
theorem yS (ks : List Nat) {α : Type} (f : α→X) : ∀ l : List α,mH ks (l.map f) = l.map fun a=>(f a).only ks
 | []=>rfl
 | a :: l=>by simp only [List.map_cons,mH,yS ks f l]
end X
namespace C
variable {w w' : World} {Z Z' : Md→Nat→Nat→Prop} {S : Nat→Nat→Prop}
def ay (t : Nat→Path→Bool) : C→C
 | .ref v s q=>bif t s q then .dead v else .ref v s q
 | .aA v s q i c=>bif t s q then .dead v else .aA v s q i c
 | .cut v s q lo hi=>bif t s q then .dead v else .cut v s q lo hi
 | .ptr m g o n c=>.ptr m g o n fun j=>(c j).ay t
 | .agg n c=>.agg n fun j=>(c j).ay t
 | .au n c=>.au n fun j=>(c j).ay t
 | .fn f n c=>.fn f n fun j=>(c j).ay t
 | c=>c
def bA (r : Nat) (p : Path) : Nat→Path→Bool:=fun s q=>s == r && X.pfx p q
def others (ks : List Nat) : Nat→Path→Bool:=fun s _=>!ks.contains s
theorem mB (r : Nat) (p : Path) : ∀ c : C,(c.ay (bA r p)).er = c.er.kill r p
 | .ref v s q=>by simp only [ay,er,X.kill,bA]; cases s == r && X.pfx p q <;> rfl
 | .aA v s q i c=>by simp only [ay,er,X.kill,bA]; cases s == r && X.pfx p q <;> rfl
 | .cut v s q i c=>by simp only [ay,er,X.kill,bA]; cases s == r && X.pfx p q <;> rfl
 | .ptr m g o n c=>by simp only [ay,er,X.kill,X.ua]; congr 1; exact List.map_congr_left fun j _=>mB r p (c j)
 | .agg n c=>by simp only [ay,er,X.kill,X.ua]; congr 1; exact List.map_congr_left fun j _=>mB r p (c j)
 | .au n c=>by simp only [ay,er,X.kill,X.ua]; congr 1; exact List.map_congr_left fun j _=>mB r p (c j)
 | .fn f n c=>by simp only [ay,er,X.kill,X.ua]; congr 1; exact List.map_congr_left fun j _=>mB r p (c j)
 | .dead _=>by simp only [ay,er,X.kill]
 | .int _ _=>by simp only [ay,er,X.kill]
 | .bool _=>by simp only [ay,er,X.kill]
 | .str _=>by simp only [ay,er,X.kill]
 | .row _ _ _ _ _ _=>by simp only [ay,er,X.kill]
theorem yT (ks : List Nat) : ∀ c : C,(c.ay (others ks)).er = c.er.only ks
 | .ref v s q=>by simp only [ay,er,X.only,others]; cases ks.contains s <;> rfl
 | .aA v s q i c=>by simp only [ay,er,X.only,others]; cases ks.contains s <;> rfl
 | .cut v s q i c=>by simp only [ay,er,X.only,others]; cases ks.contains s <;> rfl
 | .ptr m g o n c=>by simp only [ay,er,X.only,X.yS]; congr 1; exact List.map_congr_left fun j _=>yT ks (c j)
 | .agg n c=>by simp only [ay,er,X.only,X.yS]; congr 1; exact List.map_congr_left fun j _=>yT ks (c j)
 | .au n c=>by simp only [ay,er,X.only,X.yS]; congr 1; exact List.map_congr_left fun j _=>yT ks (c j)
 | .fn f n c=>by simp only [ay,er,X.only,X.yS]; congr 1; exact List.map_congr_left fun j _=>yT ks (c j)
 | .dead _=>by simp only [ay,er,X.only]
 | .int _ _=>by simp only [ay,er,X.only]
 | .bool _=>by simp only [ay,er,X.only]
 | .str _=>by simp only [ay,er,X.only]
 | .row _ _ _ _ _ _=>by simp only [ay,er,X.only]
section
variable (t : Nat→Path→Bool)
theorem iu : ∀ c : C,(c.ay t).val = c.val
 | .ref v s q=>by simp only [ay]; cases t s q <;> rfl
 | .aA v s q i c=>by simp only [ay]; cases t s q <;> rfl
 | .cut v s q i c=>by simp only [ay]; cases t s q <;> rfl
 | .ptr m g o n c=>rfl
 | .agg n c=>by simp only [ay,val]; congr 2; exact List.map_congr_left fun j _=>iu (c j)
 | .au n c=>by simp only [ay,val]; congr 2; exact List.map_congr_left fun j _=>iu (c j)
 | .fn f n c=>by simp only [ay,val]; congr 2; exact List.map_congr_left fun j _=>iu (c j)
 | .dead _=>rfl
 | .int _ _=>rfl
 | .bool _=>rfl
 | .str _=>rfl
 | .row _ _ _ _ _ _=>rfl
theorem cu : ∀ (c : C) (b k : Nat),(c.ay t).fp b k↔c.fp b k
 | .ref v s q,b,k=>by simp only [ay]; cases t s q <;> exact Iff.rfl
 | .aA v s q i c,b,k=>by simp only [ay]; cases t s q <;> exact Iff.rfl
 | .cut v s q i c,b,k=>by simp only [ay]; cases t s q <;> exact Iff.rfl
 | .ptr m g o n c,b,k=>and_congr_right fun _=>or_congr_right (exists_congr fun j=>and_congr_right fun _=>cu (c j) b k)
 | .agg n c,b,k=>exists_congr fun j=>and_congr_right fun _=>cu (c j) b k
 | .au n c,b,k=>exists_congr fun j=>and_congr_right fun _=>cu (c j) b k
 | .fn f n c,b,k=>Iff.rfl
 | .dead _,_,_=>Iff.rfl
 | .int _ _,_,_=>Iff.rfl
 | .bool _,_,_=>Iff.rfl
 | .str _,_,_=>Iff.rfl
 | .row _ _ _ _ _ _,_,_=>Iff.rfl
theorem DB (c : C) (h : c.cell) : (c.ay t).cell:=by
 cases c with
 | ref v s q=>simp only [ay]; cases t s q <;> exact h
 | aA v s q i c=>simp only [ay]; cases t s q <;> exact h
 | cut v s q i c=>simp only [ay]; cases t s q <;> exact h
 | agg=>exact h.elim
 | au=>exact h.elim
 | _=>exact h
theorem acI (c : C) (h : c.ff) : (c.ay t).ff:=by
 cases c with
 | ref v s q=>simp only [ay]; cases t s q <;> exact h
 | aA v s q i c=>simp only [ay]; cases t s q <;> exact h
 | cut v s q i c=>simp only [ay]; cases t s q <;> exact h
 | au=>exact h.elim
 | _=>exact h
theorem acH (m : Md) (c : C) (h : c.fits m) : (c.ay t).fits m:=by
 cases c with
 | ref v s q=>simp only [ay]; cases t s q <;> trivial
 | aA v s q i c=>simp only [ay]; cases t s q <;> trivial
 | cut v s q i c=>simp only [ay]; cases t s q <;> trivial
 | _=>exact h
theorem uO (c : C) (h : c.cA) : c.ay t = c:=by
 cases c with
 | ref v s q=>exact h.elim
 | aA v s q i c=>exact h.elim
 | cut v s q i c=>exact h.elim
 | ptr=>exact h.elim
 | agg=>exact h.elim
 | au=>exact h.elim
 | fn=>exact h.elim
 | _=>rfl
theorem kH : ∀ c : C,c.ok w Z→(c.ay t).ok w Z
 | .ref v s q,h=>by simp only [ay]; cases t s q <;> trivial
 | .aA v s q i c,h=>by simp only [ay]; cases t s q <;> trivial
 | .cut v s q i c,h=>by simp only [ay]; cases t s q <;> trivial
 | .ptr m g o n c,h=>by
  obtain ⟨h1,h2,h3,h4⟩:=h
  refine ⟨fun j hj=>?_,h2,fun j hj=>⟨DB t _ (h3 j hj).1,acH t _ _ (h3 j hj).2.1,kH (c j) (h3 j hj).2.2⟩,fun j hj b k hf=>?_⟩
  ·rw [iu]; exact h1 j hj
  ·rw [cu] at hf
   exact ⟨(h4 j hj b k hf).1,fun j' hj' hne=>by rw [cu]; exact (h4 j hj b k hf).2 j' hj' hne⟩
 | .agg n c,h=>⟨fun j hj=>⟨DB t _ (h.1 j hj).1,kH (c j) (h.1 j hj).2⟩,fun j hj b k hf j' hj' hne=>by rw [cu] at hf ⊢; exact h.2 j hj b k hf j' hj' hne⟩
 | .au n c,h=>⟨fun j hj=>⟨acI t _ (h.1 j hj).1,kH (c j) (h.1 j hj).2⟩,fun j hj b k hf j' hj' hne=>by rw [cu] at hf ⊢; exact h.2 j hj b k hf j' hj' hne⟩
 | .fn f n c,h=>fun j hj=>⟨kH (c j) (h j hj).1,fun b k hf=>by rw [cu] at hf; exact (h j hj).2 b k hf⟩
 | .dead _,h=>h
 | .int _ _,h=>h
 | .bool _,h=>h
 | .str _,h=>h
 | .row _ _ _ _ _ _,h=>h
theorem iq : ∀ (q : Path) (c y : C),c.ok w Z→c.sub q = some y→(c.ay t).sub q = some (y.ay t)
 | [],c,y,ho,h=>by simp only [sub] at h ⊢; injection h with h; rw [h]
 | q :: p,c,y,ho,h=>by
  simp only [sub] at h ⊢
  cases hs : c.step q with
  | none=>rw [hs] at h; cases h
  | some z =>
   rw [hs] at h
   have hz : (z.ay t).sub p = some (y.ay t):=iq p z y (sy hs ho) h
   suffices hst : (c.ay t).step q = some (z.ay t) by rw [hst]; exact hz
   cases c with
   | row m sz A len cap e =>
    simp only [step] at hs
    split at hs
    ·rename_i hq
     injection hs with hs
     have:=uO t z (by rw [← hs]; exact (ho.2.2.1 _ _ hq.1 hq.2).2.1)
     simp only [ay,step,if_pos hq,hs,this]
    ·cases hs
   | ptr m g o n c =>
    simp only [step] at hs
    split at hs
    ·rename_i hq
     injection hs with hs
     simp only [ay,step,if_pos hq,hs]
    ·cases hs
   | agg n c =>
    simp only [step] at hs
    split at hs
    ·rename_i hq
     injection hs with hs
     simp only [ay,step,if_pos hq,hs]
    ·cases hs
   | au n c =>
    simp only [step] at hs
    split at hs
    ·rename_i hq
     injection hs with hs
     simp only [ay,step,if_pos hq,hs]
    ·cases hs
   | _=>simp [step] at hs
end
inductive fu : C→C→Prop where
 | row (m m' : Md) (sz : Nat) (A : Option Ad) (len cap : Nat) (e e' : Nat→Nat→C) : fu (.row m sz A len cap e) (.row m' sz A len cap e')
 | ptr (m m' : Md) (g o n : Nat) (c c' : Nat→C) : fu (.ptr m g o n c) (.ptr m' g o n c')
theorem fu.off (t : Nat→Path→Bool) {y z : C} (h : fu y z) : fu y (z.ay t):=by
 cases h with
 | row=>exact .row ..
 | ptr=>exact .ptr ..
theorem fu.trans {x y z : C} (h : fu x y) (h' : fu y z) : fu x z:=by
 cases h <;> cases h' <;> constructor
def free (t : Nat→Path→Bool) : C→Prop
 | .ref _ s q=>t s q = false
 | .aA _ s q _ _=>t s q = false
 | .cut _ s q _ _=>t s q = false
 | .ptr _ _ _ n c=>∀ j,j < n→(c j).free t
 | .agg n c=>∀ j,j < n→(c j).free t
 | .au n c=>∀ j,j < n→(c j).free t
 | .fn _ n c=>∀ j,j < n→(c j).free t
 | _=>True
theorem fF (t : Nat→Path→Bool) : ∀ c : C,(c.ay t).free t
 | .ref v s q=>by simp only [ay]; cases h : t s q <;> simp [free,h]
 | .aA v s q i c=>by simp only [ay]; cases h : t s q <;> simp [free,h]
 | .cut v s q i c=>by simp only [ay]; cases h : t s q <;> simp [free,h]
 | .ptr m g o n c=>fun j _=>fF t (c j)
 | .agg n c=>fun j _=>fF t (c j)
 | .au n c=>fun j _=>fF t (c j)
 | .fn f n c=>fun j _=>fF t (c j)
 | .dead _=>trivial
 | .int _ _=>trivial
 | .bool _=>trivial
 | .str _=>trivial
 | .row _ _ _ _ _ _=>trivial
def rf (G : Nat→C) : C→Prop
 | .ref v s p=>∃ y z,(G s).sub p = some y∧fu z y∧y.val = v∧∃ m sz A len cap e,z = .row m sz A len cap e
 | .aA v s p i c=>∃ y,(G s).sub p = some y∧((∃ m sz g o len cap e,y = .row m sz (some (g,o,none)) len cap e∧v = .pointer (some ⟨g,o + i * sz + c,none⟩))∨∃ m g o n cc,y = .ptr m g o n cc∧i = 0∧v = .pointer (some ⟨g,o + c,none⟩))
 | .cut v s p lo hi=>∃ m sz A len cap e A' cap',(G s).sub p = some (.row m sz A len cap e)∧v = .slice (Option.map (fun q : Ad=>⟨q.1,q.2.1,q.2.2⟩) A') (hi - lo) cap'∧lo≤hi∧hi≤len∧hi - lo≤cap'∧(lo < hi→A' = A.map fun q=>iA (lo * sz) q)∧lo + cap' = cap∧((A' = A∧cap' = 0)∨A' = A.map fun q=>iA (lo * sz) q)
 | .ptr _ _ _ n c=>∀ j,j < n→(c j).rf G
 | .agg n c=>∀ j,j < n→(c j).rf G
 | .au n c=>∀ j,j < n→(c j).rf G
 | .fn _ n c=>∀ j,j < n→(c j).rf G
 | _=>True
theorem jZ {G G' : Nat→C} (t : Nat→Path→Bool) (h : ∀ s q y,t s q = false→(G s).sub q = some y→(∃ z,fu y z∧(G' s).sub q = some z)∨∀ z,¬ fu z y) : ∀ c : C,c.free t→c.rf G→c.rf G'
 | .ref v s p,hf,hr=>by
  obtain ⟨y,z,hs,hF,hv,m,sz,A,len,cap,e,rfl⟩:=hr
  rcases h s p y hf hs with ⟨z',eH,hs'⟩ | hno
  ·refine ⟨z',_,hs',hF.trans eH,?_,m,sz,A,len,cap,e,rfl⟩
   cases hF; cases eH; exact hv
  ·exact (hno _ hF).elim
 | .aA v s p i c,hf,hr=>by
  obtain ⟨y,hs,hy⟩:=hr
  rcases h s p y hf hs with ⟨z',eH,hs'⟩ | hno
  ·refine ⟨z',hs',?_⟩
   rcases hy with ⟨m,sz,g,o,len,cap,e,rfl,hv⟩ | ⟨m,g,o,n,cc,rfl,hv⟩
   ·cases eH; exact .inl ⟨_,_,_,_,_,_,_,rfl,hv⟩
   ·cases eH; exact .inr ⟨_,_,_,_,_,rfl,hv⟩
  ·rcases hy with ⟨m,sz,g,o,len,cap,e,rfl,hv⟩ | ⟨m,g,o,n,cc,rfl,hv⟩
   ·exact (hno _ (.row m m sz (some (g,o,none)) len cap e e)).elim
   ·exact (hno _ (.ptr m m g o n cc cc)).elim
 | .cut v s p lo hi,hf,hr=>by
  obtain ⟨m,sz,A,len,cap,e,A',cap',hs,hv⟩:=hr
  rcases h s p _ hf hs with ⟨z',eH,hs'⟩ | hno
  ·cases eH; exact ⟨_,_,_,_,_,_,A',cap',hs',hv⟩
  ·exact (hno _ (.row m m sz A len cap e e)).elim
 | .ptr m g o n c,hf,hr=>fun j hj=>jZ t h (c j) (hf j hj) (hr j hj)
 | .agg n c,hf,hr=>fun j hj=>jZ t h (c j) (hf j hj) (hr j hj)
 | .au n c,hf,hr=>fun j hj=>jZ t h (c j) (hf j hj) (hr j hj)
 | .fn f n c,hf,hr=>fun j hj=>jZ t h (c j) (hf j hj) (hr j hj)
 | .dead _,_,_=>trivial
 | .int _ _,_,_=>trivial
 | .bool _,_,_=>trivial
 | .str _,_,_=>trivial
 | .row _ _ _ _ _ _,_,_=>trivial
theorem lN {G : Nat→C} (t : Nat→Path→Bool) : ∀ c : C,c.rf G→(c.ay t).rf G
 | .ref v s q,h=>by simp only [ay]; cases t s q <;> first | exact h | trivial
 | .aA v s q i c,h=>by simp only [ay]; cases t s q <;> first | exact h | trivial
 | .cut v s q i c,h=>by simp only [ay]; cases t s q <;> first | exact h | trivial
 | .ptr m g o n c,h=>fun j hj=>lN t (c j) (h j hj)
 | .agg n c,h=>fun j hj=>lN t (c j) (h j hj)
 | .au n c,h=>fun j hj=>lN t (c j) (h j hj)
 | .fn f n c,h=>fun j hj=>lN t (c j) (h j hj)
 | .dead _,_=>trivial
 | .int _ _,_=>trivial
 | .bool _,_=>trivial
 | .str _,_=>trivial
 | .row _ _ _ _ _ _,_=>trivial
theorem self (y z : C) (t : Path) (h : z.sub t = some y) : (∃ z',fu y z'∧z.sub t = some z')∨∀ z,¬ fu z y:=by
 cases y with
 | row m sz A len cap e=>exact .inl ⟨_,.row m m sz A len cap e e,h⟩
 | ptr m g o n c=>exact .inl ⟨_,.ptr m m g o n c c,h⟩
 | _=>exact .inr fun z hz=>by cases hz
theorem EE : ∀ (p q : Path) (c d' y : C),X.pfx p q = false→c.sub q = some y→(∃ z,fu y z∧(putAt p c d').sub q = some z)∨∀ z,¬ fu z y
 | [],q,c,d',y,h,hs=>by simp [X.pfx] at h
 | r :: p,[],c,d',y,h,hs=>by
  simp only [sub] at hs
  injection hs with hs
  subst hs
  simp only [putAt,sub]
  cases hst : c.step r with
  | none =>
   cases c with
   | row m sz A len cap e=>exact .inl ⟨_,.row m m sz A len cap e _,rfl⟩
   | ptr m g o n c=>exact .inl ⟨_,.ptr m m g o n c _,rfl⟩
   | _=>exact .inr fun z hz=>by cases hz
  | some z =>
   cases c with
   | row m sz A len cap e=>exact .inl ⟨_,.row m m sz A len cap e _,rfl⟩
   | ptr m g o n c=>exact .inl ⟨_,.ptr m m g o n c _,rfl⟩
   | _=>exact .inr fun z hz=>by cases hz
 | r :: p,q :: t,c,d',y,h,hs=>by
  simp only [sub] at hs ⊢
  cases cl : c.step q with
  | none=>rw [cl] at hs; cases hs
  | some z =>
   rw [cl] at hs
   have hs' : z.sub t = some y:=hs
   simp only [putAt]
   cases jM : c.step r with
   | none=>simp only [cl]; exact self y z t hs'
   | some z0 =>
    simp only
    by_cases BN : r.1 = q.1∧r.2 = q.2
    ·have aaS : r = q:=by cases r; cases q; simp only at BN; rw [BN.1,BN.2]
     subst aaS
     rw [cl] at jM
     injection jM with jM
     subst jM
     have hp : X.pfx p t = false:=by simpa [X.pfx] using h
     have : (c.aU r (putAt p z d')).step r = some (putAt p z d'):=by
      cases c with
      | row m sz A len cap e =>
       simp only [step] at cl
       split at cl
       ·rename_i hq; simp [aU,step,hq]
       ·cases cl
      | ptr m g o n c =>
       simp only [step] at cl
       split at cl
       ·rename_i hq; simp [aU,step,hq,bN]
       ·cases cl
      | agg n c =>
       simp only [step] at cl
       split at cl
       ·rename_i hq; simp [aU,step,hq,bN]
       ·cases cl
      | au n c =>
       simp only [step] at cl
       split at cl
       ·rename_i hq; simp [aU,step,hq,bN]
       ·cases cl
      | _=>simp [step] at cl
     rw [this]
     exact EE p t z d' y hp hs'
    ·by_cases h2 : r.2 = q.2
     ·have h1 : r.1≠q.1:=fun e=>BN ⟨e,h2⟩
      cases c with
      | row m sz A len cap e =>
       simp only [step] at cl
       split at cl
       ·rename_i hq
        have : ((C.row m sz A len cap e).aU r (putAt p z0 d')).step q = some z:=by
         simp only [aU,step,if_pos hq]
         rw [if_neg (fun e=>h1 e.1.symm)]
         exact cl
        rw [this]; exact self y z t hs'
       ·cases cl
      | ptr m g o n c =>
       simp only [step] at cl jM
       split at cl
       ·split at jM
        ·rename_i hq hr; exact (h1 (hr.1.trans hq.1.symm)).elim
        ·cases jM
       ·cases cl
      | agg n c =>
       simp only [step] at cl jM
       split at cl
       ·split at jM
        ·rename_i hq hr; exact (h1 (hr.1.trans hq.1.symm)).elim
        ·cases jM
       ·cases cl
      | au n c =>
       simp only [step] at cl jM
       split at cl
       ·split at jM
        ·rename_i hq hr; exact (h1 (hr.1.trans hq.1.symm)).elim
        ·cases jM
       ·cases cl
      | _=>simp [step] at cl
     ·have : (c.aU r (putAt p z0 d')).step q = some z:=by
       cases c with
       | row m sz A len cap e =>
        simp only [step] at cl
        split at cl
        ·rename_i hq
         simp only [aU,step,if_pos hq]
         rw [if_neg (fun e=>h2 e.2.symm)]
         exact cl
        ·cases cl
       | ptr m g o n c =>
        simp only [step] at cl
        split at cl
        ·rename_i hq
         simp only [aU,step,if_pos hq,bN]
         rw [if_neg (fun e=>h2 e.symm)]
         exact cl
        ·cases cl
       | agg n c =>
        simp only [step] at cl
        split at cl
        ·rename_i hq
         simp only [aU,step,if_pos hq,bN]
         rw [if_neg (fun e=>h2 e.symm)]
         exact cl
        ·cases cl
       | au n c =>
        simp only [step] at cl
        split at cl
        ·rename_i hq
         simp only [aU,step,if_pos hq,bN]
         rw [if_neg (fun e=>h2 e.symm)]
         exact cl
        ·cases cl
       | _=>simp [step] at cl
      rw [this]; exact self y z t hs'
end C
end M
namespace M
open Go Go.RowKit
theorem MJ (r : Nat) (p : Path) (t : Nat) : ∀ s : ah,get (pL r p s) t = (get s t).kill r p
 | []=>rfl
 | (k,v) :: s=>by
  simp only [pL,get]
  cases k == t with
  | true=>rfl
  | false=>exact MJ r p t s
theorem tn (k : Nat) (v : X) (s : ah) (t : Nat) : get ((k,v) :: s) t = if t = k then v else get s t:=by
 simp only [get]
 by_cases h : t = k
 ·subst h; simp
 ·have : (k == t) = false:=by simpa using fun e=>h e.symm
  rw [this,if_neg h]; rfl
structure Inv (w : World) (zl zb : Nat→Nat→Prop) (G : Nat→C) (s : ah) : Prop where
 er : ∀ t,(G t).er = get s t
 ok : ∀ t,(G t).ok w (Zf zl zb)
 sep : ∀ t u,t≠u→∀ b k,(G t).fp b k→¬ (G u).fp b k
 fz : ∀ t b k,(G t).fp b k→¬ zl b k∧¬ zb b k
 rf : ∀ t,(G t).rf G
 cm : ∀ b k,zl b k∨zb b k→b < w.heap.size
theorem Fb {zl zb : Nat→Nat→Prop} {n : Nat} (h : ∀ b k,zl b k∨zb b k→b < n) : ∀ m b k,Zf zl zb m b k→b < n
 | .own,b,k,hz=>hz.elim
 | .sl,b,k,hz=>h b k (.inl hz)
 | .af,b,k,hz=>h b k hz
namespace Inv
variable {w w' : World} {zl zb : Nat→Nat→Prop} {G : Nat→C} {s : ah}
theorem vI (h : Inv w zl zb G s) (t : Nat) : ∀ m b k,Zf zl zb m b k→¬ (G t).fp b k
 | .own,b,k,hz=>hz.elim
 | .sl,b,k,hz=>fun hf=>(h.fz t b k hf).1 hz
 | .af,b,k,hz=>fun hf=>by
  rcases hz with hz | hz
  ·exact (h.fz t b k hf).1 hz
  ·exact (h.fz t b k hf).2 hz
theorem off (h : Inv w zl zb G s) (f : Nat→Path→Bool) {s' : ah} (hs : ∀ t,((G t).ay f).er = get s' t) : Inv w zl zb (fun t=>(G t).ay f) s' where
 er:=hs
 ok:=fun t=>C.kH f _ (h.ok t)
 sep:=fun t u hne b k hf=>by rw [C.cu] at hf ⊢; exact h.sep t u hne b k hf
 fz:=fun t b k hf=>by rw [C.cu] at hf; exact h.fz t b k hf
 rf:=fun t=>C.jZ f (fun s' q y hf hs=>by
   rcases C.self y _ q hs with ⟨z,hz,wW⟩ | hno
   ·exact .inl ⟨_,hz.off f,C.iq f q _ _ (h.ok s') wW⟩
   ·exact .inr hno) _ (C.fF f _) (C.lN f _ (h.rf t))
 cm:=h.cm
theorem kill (h : Inv w zl zb G s) (r : Nat) (p : Path) : Inv w zl zb (fun t=>(G t).ay (C.bA r p)) (pL r p s) :=
 h.off _ fun t=>by rw [C.mB,MJ,h.er]
theorem world (h : Inv w zl zb G s) {S : Nat→Nat→Prop} (hE : Ext S w w') (hS : ∀ b k,S b k→w.heap.size≤b) : Inv w' zl zb G s where
 er:=h.er
 ok:=fun t=>C.eL hE (fun m b k hz hs=>by have:=Fb h.cm m b k hz; have:=hS b k hs; omega) _ (fun b k hf hs=>by have:=C.eC _ (h.ok t) b k hf; have:=hS b k hs; omega) (h.ok t)
 sep:=h.sep
 fz:=h.fz
 rf:=h.rf
 cm:=fun b k hz=>Nat.lt_of_lt_of_le (h.cm b k hz) hE.size
theorem vC (h : Inv w zl zb G s) {d : Nat} (hd : (get s d).gL = false) : ∀ c : C,c.rf G→c.free (C.bA d [])
 | .ref v r p,hr=>by
  obtain ⟨y,z,hs,hF,_⟩:=hr
  simp only [C.free,C.bA,X.pfx,Bool.and_true]
  by_cases e : r = d
  ·subst e
   exact (no h hd hs (by cases hF <;> rfl)).elim
  ·simpa using e
 | .aA v r p i c,hr=>by
  obtain ⟨y,hs,hy⟩:=hr
  simp only [C.free,C.bA,X.pfx,Bool.and_true]
  by_cases e : r = d
  ·subst e
   refine (no h hd hs ?_).elim
   rcases hy with ⟨m,sz,g,o,len,cap,e,rfl,hv⟩ | ⟨m,g,o,n,cc,rfl,hv⟩ <;> rfl
  ·simpa using e
 | .cut v r p lo hi,hr=>by
  obtain ⟨m,sz,A,len,cap,e,A',cap',hs,_⟩:=hr
  simp only [C.free,C.bA,X.pfx,Bool.and_true]
  by_cases e : r = d
  ·subst e
   exact (no h hd hs rfl).elim
  ·simpa using e
 | .ptr m g o n c,hr=>fun j hj=>vC h hd (c j) (hr j hj)
 | .agg n c,hr=>fun j hj=>vC h hd (c j) (hr j hj)
 | .au n c,hr=>fun j hj=>vC h hd (c j) (hr j hj)
 | .fn f n c,hr=>fun j hj=>vC h hd (c j) (hr j hj)
 | .dead _,_=>trivial
 | .int _ _,_=>trivial
 | .bool _,_=>trivial
 | .str _,_=>trivial
 | .row _ _ _ _ _ _,_=>trivial
where
 no {r : Nat} {p : Path} {y : C} (h : Inv w zl zb G s) (hd : (get s r).gL = false) (hs : (G r).sub p = some y) (hy : y.er.gL = true) : False:=by
  rw [← h.er] at hd
  cases p with
  | nil =>
   simp only [C.sub] at hs
   injection hs with hs
   rw [hs,hy] at hd
   cases hd
  | cons q p =>
   simp only [C.sub] at hs
   cases hc : G r with
   | row=>rw [hc] at hd; simp [C.er,X.gL] at hd
   | ptr=>rw [hc] at hd; simp [C.er,X.gL] at hd
   | agg=>rw [hc] at hd; simp [C.er,X.gL] at hd
   | au=>rw [hc] at hd; simp [C.er,X.gL] at hd
   | _=>rw [hc] at hs; simp [C.step] at hs
end Inv
def eN (G : Nat→C) (d : Nat) (c : C) : Nat→C:=fun t=>if t = d then c else G t
theorem cR (G : Nat→C) (d : Nat) (c : C) : eN G d c d = c:=by simp [eN]
theorem cI (G : Nat→C) {d t : Nat} (c : C) (h : t≠d) : eN G d c t = G t:=by simp [eN,h]
namespace Inv
variable {w w' : World} {zl zb : Nat→Nat→Prop} {G : Nat→C} {s : ah}
theorem OW (h : Inv w zl zb G s) (d : Nat) (c : C) (hfree : ∀ t,t≠d→(G t).free (C.bA d [])) (hok : c.ok w (Zf zl zb)) (hsep : ∀ t,t≠d→∀ b k,c.fp b k→¬ (G t).fp b k)
  (hfz : ∀ b k,c.fp b k→¬ zl b k∧¬ zb b k) (hrf : c.rf G) (hU : c.free (C.bA d [])) : Inv w zl zb (eN G d c) ((d,c.er) :: s) where
 er:=fun t=>by
  rw [tn]
  by_cases e : t = d
  ·subst e; rw [cR,if_pos rfl]
  ·rw [cI _ _ e,if_neg e]; exact h.er t
 ok:=fun t=>by
  by_cases e : t = d
  ·subst e; rw [cR]; exact hok
  ·rw [cI _ _ e]; exact h.ok t
 sep:=fun t u hne b k hf=>by
  by_cases e : t = d
  ·subst e
   rw [cR] at hf
   rw [cI _ _ (fun e=>hne e.symm)]
   exact hsep u (fun e=>hne e.symm) b k hf
  ·rw [cI _ _ e] at hf
   by_cases e' : u = d
   ·subst e'
    rw [cR]
    exact fun hc=>hsep t e b k hc hf
   ·rw [cI _ _ e']; exact h.sep t u hne b k hf
 fz:=fun t b k hf=>by
  by_cases e : t = d
  ·subst e; rw [cR] at hf; exact hfz b k hf
  ·rw [cI _ _ e] at hf; exact h.fz t b k hf
 rf:=fun t=>by
  have key : ∀ c' : C,c'.free (C.bA d [])→c'.rf G→c'.rf (eN G d c):=fun c' hf hr=>C.jZ (C.bA d []) (fun s' q y hk hs=>by
   have hne : s'≠d:=by
    intro e
    subst e
    simp [C.bA,X.pfx] at hk
   rw [cI _ _ hne]
   exact C.self y _ q hs) c' hf hr
  by_cases e : t = d
  ·subst e; rw [cR]; exact key c hU hrf
  ·rw [cI _ _ e]; exact key _ (hfree t e) (h.rf t)
 cm:=h.cm
theorem put (h : Inv w zl zb G s) (d : Nat) (c : C) (hok : c.ok w (Zf zl zb)) (hsep : ∀ t,t≠d→∀ b k,c.fp b k→¬ (G t).fp b k)
  (hfz : ∀ b k,c.fp b k→¬ zl b k∧¬ zb b k) (hrf : c.rf G) :
  ∃ G',Inv w zl zb G' (M.put d c.er s)∧(G' d).val = c.val∧(∀ t,t≠d→(G' t).val = (G t).val)∧(∀ b k,(G' d).fp b k→c.fp b k)∧∀ t,t≠d→∀ b k,(G' t).fp b k→(G t).fp b k:=by
 unfold M.put
 cases hr : (get s d).gL with
 | false =>
  refine ⟨eN G d c,h.OW d c (fun t _=>h.vC hr _ (h.rf t)) hok hsep hfz hrf (h.vC hr _ hrf),by rw [cR],fun t e=>by rw [cI _ _ e],fun b k hf=>by rwa [cR] at hf,fun t e b k hf=>by rwa [cI _ _ e] at hf⟩
 | true =>
  have h1:=h.kill d []
  have hc : (c.ay (C.bA d [])).rf fun t=>(G t).ay (C.bA d []):=C.jZ (C.bA d []) (fun s' q y hf hs=>by
   rcases C.self y _ q hs with ⟨z,hz,wW⟩ | hno
   ·exact .inl ⟨_,hz.off _,C.iq _ q _ _ (h.ok s') wW⟩
   ·exact .inr hno) _ (C.fF _ _) (C.lN _ _ hrf)
  have h2:=h1.OW d (c.ay (C.bA d [])) (fun t _=>C.fF _ _) (C.kH _ _ hok) (fun t e b k hf=>by rw [C.cu] at hf ⊢; exact hsep t e b k hf) (fun b k hf=>by rw [C.cu] at hf; exact hfz b k hf) hc (C.fF _ _)
  rw [C.mB] at h2
  refine ⟨_,h2,by rw [cR,C.iu],fun t e=>by rw [cI _ _ e,C.iu],fun b k hf=>by rw [cR,C.cu] at hf; exact hf,fun t e b k hf=>by rw [cI _ _ e,C.cu] at hf; exact hf⟩
theorem Ey (h : Inv w zl zb G s) (r : Nat) (p q : Path) (d d' y : C) {S : Nat→Nat→Prop} (hq : C.putAt q (G r) y = C.putAt p (G r) d') (hfree : ∀ t,(G t).free (C.bA r q)) (hE : Ext S w w') (hsub : (G r).sub p = some d)
  (hS : ∀ b k,S b k→d.fp b k∨w.heap.size≤b) (hok : d'.ok w' (Zf zl zb)) (hl : C.gi d d') (hrf : y.rf G) (hdf : y.free (C.bA r q))
  (bV : ∀ b k,d'.fp b k→d.fp b k∨((∀ t,¬ (G t).fp b k)∧¬ zl b k∧¬ zb b k)) :
  (Inv w' zl zb (eN G r (C.putAt p (G r) d')) ((r,X.putAt q (get s r) y.er) :: s)∧(∀ t,(eN G r (C.putAt p (G r) d') t).val = (G t).val) ∧
   ∀ t b k,(eN G r (C.putAt p (G r) d') t).fp b k→(t = r∧d'.fp b k)∨(G t).fp b k)∧∀ c' : C,c'.free (C.bA r q)→c'.rf G→c'.rf (eN G r (C.putAt p (G r) d')):=by
 have aX : ∀ {b k},d.fp b k→(G r).fp b k:=fun hf=>C.fJ p hsub (h.ok r) hf
 have hZ : ∀ m b k,Zf zl zb m b k→¬ S b k:=fun m b k hz hs=>by
  rcases hS b k hs with hs | hs
  ·exact h.vI r m b k hz (aX hs)
  ·have:=Fb h.cm m b k hz; omega
 obtain ⟨i1,i2,i3⟩:=C.yR (fun _ _ _ h=>h) hE hZ p (G r) d d' (h.ok r) hsub hok hl (fun b k hs=>(hS b k hs).imp id fun hb hf=>by have:=C.eC _ (h.ok r) b k hf; omega) (fun b k hf=>(bV b k hf).imp id fun hn=>hn.1 r)
 have GV : ∀ b k,(C.putAt p (G r) d').fp b k→d'.fp b k∨(G r).fp b k:=fun b k hf=>(i2 b k hf).imp id fun hh=>hh.1
 have hr' : ∀ t,t≠r→∀ b k,(C.putAt p (G r) d').fp b k→¬ (G t).fp b k:=fun t e b k hf=>by
  rcases GV b k hf with hf | hf
  ·rcases bV b k hf with hf | hf
   ·exact h.sep r t (fun e'=>e e'.symm) b k (aX hf)
   ·exact hf.1 t
  ·exact h.sep r t (fun e'=>e e'.symm) b k hf
 have key : ∀ c' : C,c'.free (C.bA r q)→c'.rf G→c'.rf (eN G r (C.putAt p (G r) d')):=fun c' hf hr=>C.jZ (C.bA r q) (fun s' q' y' hk hs=>by
  by_cases e : s' = r
  ·subst e
   rw [cR,← hq]
   exact C.EE q q' (G s') y y' (by simpa [C.bA] using hk) hs
  ·rw [cI _ _ e]
   exact C.self y' _ q' hs) c' hf hr
 refine ⟨⟨⟨fun t=>?_,fun t=>?_,fun t u hne b k hf=>?_,fun t b k hf=>?_,fun t=>?_,fun b k hz=>Nat.lt_of_lt_of_le (h.cm b k hz) hE.size⟩,fun t=>?_,fun t b k hf=>?_⟩,key⟩
 ·rw [tn]
  by_cases e : t = r
  ·subst e; rw [cR,if_pos rfl,← hq,C.IP,h.er]
  ·rw [cI _ _ e,if_neg e]; exact h.er t
 ·by_cases e : t = r
  ·subst e; rw [cR]; exact i1
  ·rw [cI _ _ e]
   refine C.eL hE hZ _ (fun b k hf hs=>?_) (h.ok t)
   rcases hS b k hs with hs | hs
   ·exact h.sep t r e b k hf (aX hs)
   ·have:=C.eC _ (h.ok t) b k hf; omega
 ·by_cases e : t = r
  ·subst e
   rw [cR] at hf
   rw [cI _ _ (fun e=>hne e.symm)]
   exact hr' u (fun e=>hne e.symm) b k hf
  ·rw [cI _ _ e] at hf
   by_cases e' : u = r
   ·subst e'
    rw [cR]
    exact fun hc=>hr' t e b k hc hf
   ·rw [cI _ _ e']; exact h.sep t u hne b k hf
 ·by_cases e : t = r
  ·subst e
   rw [cR] at hf
   rcases GV b k hf with hf | hf
   ·rcases bV b k hf with hf | hf
    ·exact h.fz t b k (aX hf)
    ·exact hf.2
   ·exact h.fz t b k hf
  ·rw [cI _ _ e] at hf; exact h.fz t b k hf
 ·by_cases e : t = r
  ·subst e
   rw [cR]
   have inner : ∀ (p' : Path) (c' : C),c'.free (C.bA t q)→c'.rf G→(C.putAt p' c' y).rf (eN G t (C.putAt p (G t) d')):=by
    intro p'
    induction p' with
    | nil=>intro c' _ _; exact key y hdf hrf
    | cons x p' ih =>
     intro c' hU ia
     simp only [C.putAt]
     cases hst : c'.step x with
     | none=>exact key c' hU ia
     | some z =>
      cases c' with
      | row m sz A len cap e=>trivial
      | ptr m g o n c =>
       simp only [C.step] at hst
       split at hst
       ·rename_i hq
        injection hst with hst
        intro j hj
        simp only [C.bN]
        split
        ·exact ih z (by rw [← hst]; exact hU _ hq.2) (by rw [← hst]; exact ia _ hq.2)
        ·exact key _ (hU j hj) (ia j hj)
       ·cases hst
      | agg n c =>
       simp only [C.step] at hst
       split at hst
       ·rename_i hq
        injection hst with hst
        intro j hj
        simp only [C.bN]
        split
        ·exact ih z (by rw [← hst]; exact hU _ hq.2) (by rw [← hst]; exact ia _ hq.2)
        ·exact key _ (hU j hj) (ia j hj)
       ·cases hst
      | au n c =>
       simp only [C.step] at hst
       split at hst
       ·rename_i hq
        injection hst with hst
        intro j hj
        simp only [C.bN]
        split
        ·exact ih z (by rw [← hst]; exact hU _ hq.2) (by rw [← hst]; exact ia _ hq.2)
        ·exact key _ (hU j hj) (ia j hj)
       ·cases hst
      | _=>simp [C.step] at hst
   rw [← hq] at *
   exact inner q (G t) (hfree t) (h.rf t)
  ·rw [cI _ _ e]; exact key _ (hfree t) (h.rf t)
 ·by_cases e : t = r
  ·subst e; rw [cR]; exact i3.val
  ·rw [cI _ _ e]
 ·by_cases e : t = r
  ·subst e
   rw [cR] at hf
   exact (GV b k hf).imp (fun hh=>⟨rfl,hh⟩) id
  ·rw [cI _ _ e] at hf; exact .inr hf
theorem Pr (h : Inv w zl zb G s) (r : Nat) (p : Path) (d d' : C) {S : Nat→Nat→Prop} (hfree : ∀ t,(G t).free (C.bA r p)) (hE : Ext S w w') (hsub : (G r).sub p = some d)
  (hS : ∀ b k,S b k→d.fp b k∨w.heap.size≤b) (hok : d'.ok w' (Zf zl zb)) (hl : C.gi d d') (hrf : d'.rf G) (hdf : d'.free (C.bA r p))
  (bV : ∀ b k,d'.fp b k→d.fp b k∨((∀ t,¬ (G t).fp b k)∧¬ zl b k∧¬ zb b k)) :
  (Inv w' zl zb (eN G r (C.putAt p (G r) d')) ((r,X.putAt p (get s r) d'.er) :: s)∧(∀ t,(eN G r (C.putAt p (G r) d') t).val = (G t).val) ∧
   ∀ t b k,(eN G r (C.putAt p (G r) d') t).fp b k→(t = r∧d'.fp b k)∨(G t).fp b k)∧∀ c' : C,c'.free (C.bA r p)→c'.rf G→c'.rf (eN G r (C.putAt p (G r) d')) :=
 h.Ey r p p d d' d' rfl hfree hE hsub hS hok hl hrf hdf bV
theorem oK {c : C} (h : c.cell) : c.val.oneCell' = true:=by
 cases c with
 | agg=>exact h.elim
 | au=>exact h.elim
 | dead=>exact h
 | ref=>exact h
 | aA=>exact h
 | cut=>exact h
 | _=>rfl
theorem Dg (d : C) : C.gi d (.dead d.val) where
 val:=rfl
 cell:=fun h=>oK h
 ff:=fun _=>trivial
 cA:=fun _=>trivial
 fits:=fun _ _=>trivial
theorem sA (h : Inv w zl zb G s) (r : Nat) (p : Path) (y : C) (hsub : (G r).sub p = some y) :
  ∃ (c : C) (G' : Nat→C),c.er = y.er.kill r p∧c.val = y.val∧Inv w zl zb G' (gM r p .dead s)∧c.ok w (Zf zl zb)∧c.rf G'∧(c.cell↔y.cell)∧(y.cA→c = y)∧(∀ t b k,c.fp b k→¬ (G' t).fp b k)∧(∀ b k,c.fp b k→(G r).fp b k) ∧
   (∀ t,(G' t).val = (G t).val)∧(∀ t b k,(G' t).fp b k→(G t).fp b k)∧∀ b k,c.fp b k↔y.fp b k:=by
 have h1:=h.kill r p
 have hs1 : ((G r).ay (C.bA r p)).sub p = some (y.ay (C.bA r p)):=C.iq _ p _ _ (h.ok r) hsub
 have nE:=C.gd p hsub (h.ok r)
 obtain ⟨⟨i1,i2,i3⟩,_⟩:=h1.Pr r p (y.ay (C.bA r p)) (.dead (y.ay (C.bA r p)).val) (S:=fun _ _=>False) (fun t=>C.fF _ _) (Ext.refl _ _) hs1 (fun _ _ hf=>hf.elim) trivial (Dg _) trivial trivial (fun _ _ hf=>hf.elim)
 have aaO : y.rf G:=z8 p (h.ok r) hsub (h.rf r)
 refine ⟨y.ay (C.bA r p),_,C.mB r p y,C.iu _ y,i1,C.kH _ _ nE,?_,?_,fun hs=>C.uO _ _ hs,?_,?_,fun t=>(i2 t).trans (C.iu _ _),fun t b k hf=>?_,fun b k=>C.cu _ y b k⟩
 ·refine C.jZ (C.bA r p) (fun s' q z hk hs=>?_) _ (C.fF _ _) (C.lN _ _ aaO)
  by_cases e : s' = r
  ·subst e
   rw [cR]
   rcases C.self z _ q hs with ⟨z',eH,hs'⟩ | hno
   ·have hs2:=C.iq (C.bA s' p) q _ _ (h.ok s') hs'
    rcases C.EE p q _ (.dead (y.ay (C.bA s' p)).val) _ (by simpa [C.bA] using hk) hs2 with ⟨z'',aa0,wW⟩ | hno
    ·exact .inl ⟨z'',(eH.off _).trans aa0,wW⟩
    ·exact (hno _ ((eH.off _))).elim
   ·exact .inr hno
  ·rw [cI _ _ e]
   rcases C.self z _ q hs with ⟨z',eH,hs'⟩ | hno
   ·exact .inl ⟨_,eH.off _,C.iq _ q _ _ (h.ok s') hs'⟩
   ·exact .inr hno
 ·cases y with
  | ref v s q=>simp only [C.ay]; cases C.bA r p s q <;> exact Iff.rfl
  | aA v s q i c=>simp only [C.ay]; cases C.bA r p s q <;> exact Iff.rfl
  | cut v s q i c=>simp only [C.ay]; cases C.bA r p s q <;> exact Iff.rfl
  | _=>exact Iff.rfl
 ·intro t b k hf hf'
  rw [C.cu] at hf
  have Hi:=C.fJ p hsub (h.ok r) hf
  have hG' : Inv w zl zb (eN (fun t=>(G t).ay (C.bA r p)) r (C.putAt p ((G r).ay (C.bA r p)) (.dead (y.ay (C.bA r p)).val))) (gM r p .dead s):=i1
  by_cases e : t = r
  ·subst e
   rw [cR] at hf'
   obtain ⟨_,j2,_⟩:=C.yR (fun _ _ _ h=>h) (Ext.refl (fun _ _=>False) w) (fun m b k _ hs=>hs) p ((G t).ay (C.bA t p)) _ (.dead (y.ay (C.bA t p)).val) (h1.ok t) hs1 trivial (Dg _) (fun _ _ hs=>hs.elim) (fun _ _ hs=>hs.elim)
   rcases j2 b k hf' with hh | ⟨_,hn⟩
   ·exact hh
   ·exact hn (by rw [C.cu]; exact hf)
  ·rw [cI _ _ e,C.cu] at hf'
   exact h.sep r t (fun e'=>e e'.symm) b k Hi hf'
 ·intro b k hf
  rw [C.cu] at hf
  exact C.fJ p hsub (h.ok r) hf
 ·rcases i3 t b k hf with ⟨_,hh⟩ | hh
  ·exact hh.elim
  ·rwa [C.cu] at hh
where
 z8 : ∀ (p : Path) {c d : C},c.ok w (Zf zl zb)→c.sub p = some d→c.rf G→d.rf G
  | [],c,d,_,h,hr=>by simp only [C.sub] at h; injection h with h; subst h; exact hr
  | q :: p,c,d,ho,h,hr=>by
   simp only [C.sub] at h
   cases hs : c.step q with
   | none=>rw [hs] at h; cases h
   | some z =>
    rw [hs] at h
    refine z8 p (C.sy hs ho) h ?_
    cases c with
    | row m sz A len cap e =>
     simp only [C.step] at hs
     split at hs
     ·rename_i hq
      injection hs with hs
      have:=(ho.2.2.1 _ _ hq.1 hq.2).2.1
      rw [hs] at this
      cases z with
      | ref=>exact this.elim
      | aA=>exact this.elim
      | cut=>exact this.elim
      | ptr=>exact this.elim
      | agg=>exact this.elim
      | au=>exact this.elim
      | fn=>exact this.elim
      | _=>trivial
     ·cases hs
    | ptr m g o n c =>
     simp only [C.step] at hs
     split at hs
     ·rename_i hq
      injection hs with hs
      rw [← hs]
      exact hr _ hq.2
     ·cases hs
    | agg n c =>
     simp only [C.step] at hs
     split at hs
     ·rename_i hq
      injection hs with hs
      rw [← hs]
      exact hr _ hq.2
     ·cases hs
    | au n c =>
     simp only [C.step] at hs
     split at hs
     ·rename_i hq
      injection hs with hs
      rw [← hs]
      exact hr _ hq.2
     ·cases hs
    | _=>simp [C.step] at hs
end Inv
end M
namespace M
open Go Go.RowKit
theorem Ext.setCell (w : World) (g k : Nat) (v : Value) : Ext (fun b i=>b = g∧i = k) w (w.setCell ⟨g,k,none⟩ v):=by
 refine ⟨rfl,rfl,rfl,by simp [World.setCell],fun b hb=>?_⟩
 simp only [World.setCell,Array.getElem?_modify]
 by_cases e : g = b
 ·subst e
  rw [if_pos rfl]
  cases hh : w.heap[g]? with
  | none=>exact .inl rfl
  | some o =>
   cases o with
   | cells arr t fz =>
    refine .inr ⟨arr,arr.setIfInBounds k v,t,fz,rfl,?_,by simp,fun i hi=>?_⟩
    ·simp
    ·rw [Array.getElem?_setIfInBounds_ne]
     intro e
     exact hi ⟨rfl,e.symm⟩
   | _=>exact .inl (by simp)
 ·rw [if_neg e]
  exact .inl rfl
theorem Lu (w : World) (g k : Nat) (v u : Value) (h : w.cell? ⟨g,k,none⟩ = some u) : (w.setCell ⟨g,k,none⟩ v).cell? ⟨g,k,none⟩ = some v:=by
 simp only [World.cell?] at h ⊢
 simp only [World.setCell,Array.getElem?_modify,if_pos]
 cases hh : w.heap[g]? with
 | none=>simp [hh] at h
 | some o =>
  cases o with
  | cells arr t fz =>
   simp [hh] at h ⊢
   have hk : k < arr.size:=by
    rcases Nat.lt_or_ge k arr.size with h' | h'
    ·exact h'
    ·simp [Array.getElem?_eq_none h'] at h
   simp [hk]
  | _=>simp [hh] at h
theorem IJ {sz i j i' j' : Nat} (hj : j < sz) (hj' : j' < sz) (h : i * sz + j = i' * sz + j') : i = i'∧j = j':=by
 have h1 : i = i':=by
  have e1 : (i * sz + j) / sz = i:=by rw [Nat.mul_comm,Nat.mul_add_div (by omega),Nat.div_eq_of_lt hj]; rfl
  have e2 : (i' * sz + j') / sz = i':=by rw [Nat.mul_comm,Nat.mul_add_div (by omega),Nat.div_eq_of_lt hj']; rfl
  rw [← e1,← e2,h]
 subst h1
 exact ⟨rfl,by omega⟩
theorem II : ∀ (p q : Path),X.pfx p q = true→∃ t,q = p ++ t
 | [],q,_=>⟨q,rfl⟩
 | x :: p,[],h=>by simp [X.pfx] at h
 | x :: p,y :: q,h=>by
  simp only [X.pfx,Bool.and_eq_true,beq_iff_eq] at h
  obtain ⟨⟨h1,h2⟩,h3⟩:=h
  obtain ⟨t,rfl⟩:=II p q h3
  exact ⟨t,by rw [List.cons_append]; congr 1; cases x; cases y; simp only at h1 h2; rw [h1,h2]⟩
namespace C
variable {w : World} {Z : Md→Nat→Nat→Prop}
theorem yY : ∀ (p : Path) {c d o y : C} {x : Nat×Nat},c.sub p = some d→d.step x = some o→putAt (p ++ [x]) c y = putAt p c (d.aU x y)
 | [],c,d,o,y,x,h,hs=>by
  simp only [sub] at h
  injection h with h
  subst h
  simp [putAt,hs]
 | q :: p,c,d,o,y,x,h,hs=>by
  simp only [sub] at h
  cases hst : c.step q with
  | none=>rw [hst] at h; cases h
  | some z =>
   rw [hst] at h
   simp only [List.cons_append,putAt,hst,yY p h hs]
theorem qm : ∀ (p : Path) {c d o : C} {x : Nat×Nat},c.sub p = some d→d.step x = some o→c.sub (p ++ [x]) = some o
 | [],c,d,o,x,h,hs=>by
  simp only [sub] at h
  injection h with h
  subst h
  simp [sub,hs]
 | q :: p,c,d,o,x,h,hs=>by
  simp only [sub] at h
  cases hst : c.step q with
  | none=>rw [hst] at h; cases h
  | some z =>
   rw [hst] at h
   simp only [List.cons_append,sub,hst,Option.bind_some]
   exact qm p h hs
theorem ED : ∀ (p q : Path) {c d : C},c.sub p = some d→c.sub (p ++ q) = d.sub q
 | [],q,c,d,h=>by simp only [sub] at h; injection h with h; subst h; rfl
 | x :: p,q,c,d,h=>by
  simp only [sub] at h
  cases hst : c.step x with
  | none=>rw [hst] at h; cases h
  | some z =>
   rw [hst] at h
   simp only [List.cons_append,sub,hst,Option.bind_some]
   exact ED p q h
theorem aep {c z : C} {x : Nat×Nat} (h : c.step x = some z) (y : C) : (c.aU x y).step x = some y:=by
 cases c with
 | row m sz A len cap e =>
  simp only [step] at h ⊢
  split at h
  ·rename_i hq; simp [aU,step,hq]
  ·cases h
 | ptr m g o n c =>
  simp only [step] at h ⊢
  split at h
  ·rename_i hq; simp [aU,step,hq,bN]
  ·cases h
 | agg n c =>
  simp only [step] at h ⊢
  split at h
  ·rename_i hq; simp [aU,step,hq,bN]
  ·cases h
 | au n c =>
  simp only [step] at h ⊢
  split at h
  ·rename_i hq; simp [aU,step,hq,bN]
  ·cases h
 | _=>simp [step] at h
theorem EF : ∀ (p : Path) {c d d' : C},c.sub p = some d→(putAt p c d').sub p = some d'
 | [],c,d,d',h=>rfl
 | q :: p,c,d,d',h=>by
  simp only [sub] at h
  cases hst : c.step q with
  | none=>rw [hst] at h; cases h
  | some z =>
   rw [hst] at h
   simp only [putAt,hst,sub,aep hst,Option.bind_some]
   exact EF p h
theorem Pc {sz g o len cap : Nat} {e : Nat→Nat→C} {i j : Nat} {y : C} (h : (C.row .own sz (some (g,o,none)) len cap e).ok w Z) (hi : i < len) (hj : j < sz) (hy : y.ok w Z) (hc : y.cell) (hs : y.cA)
  (hZ : ∀ m k,¬ Z m g k) (hd : ∀ b k,y.fp b k→¬ (C.row .own sz (some (g,o,none)) len cap e).fp b k) :
  ((C.row .own sz (some (g,o,none)) len cap e).aU (i,j) y).ok (w.setCell ⟨g,o + i * sz + j,none⟩ y.val) Z ∧
   ∀ b k,((C.row .own sz (some (g,o,none)) len cap e).aU (i,j) y).fp b k→(C.row .own sz (some (g,o,none)) len cap e).fp b k∨y.fp b k:=by
 have hE:=Ext.setCell w g (o + i * sz + j) y.val
 have wG : ∀ m b k,Z m b k→¬ (b = g∧k = o + i * sz + j):=fun m b k hz hh=>by
  obtain ⟨rfl,_⟩:=hh
  exact hZ m k hz
 have ju : ∀ i' j',i' < len→j' < sz→∀ b k,(e i' j').fp b k→b≠g:=fun i' j' hi' hj' b k hf hb=>by
  subst hb
  exact (h.2.2.2.2 i' j' hi' hj' b k hf).1 rfl o rfl
 have w8 : ∀ b k,y.fp b k→b≠g:=fun b k hf hb=>by
  subst hb
  exact hd b k hf ⟨rfl,.inl ⟨o,rfl⟩⟩
 obtain ⟨h1,h2,h3,h4,h5⟩:=h
 refine ⟨⟨h1,fun i' j' hi' hj'=>?_,fun i' j' hi' hj'=>?_,fun _=>?_,fun i' j' hi' hj' b k hf=>?_⟩,fun b k hf=>?_⟩
 ·obtain ⟨g',o',hA,hcell,hz⟩:=h2 i' j' hi' hj'
  injection hA with hA
  injection hA with e1 e2
  injection e2 with e2
  subst e1; subst e2
  refine ⟨g,o,rfl,?_,hz⟩
  show _ = some (if i' = i∧j' = j then y else e i' j').val
  by_cases hij : i' = i∧j' = j
  ·obtain ⟨rfl,rfl⟩:=hij
   rw [if_pos ⟨rfl,rfl⟩]
   exact Lu w g _ _ _ hcell
  ·rw [if_neg hij]
   refine hE.cell (fun hh=>hij ?_) hcell
   exact IJ hj' hj (by omega)
 ·show (if i' = i∧j' = j then y else e i' j').cell∧(if i' = i∧j' = j then y else e i' j').cA∧(if i' = i∧j' = j then y else e i' j').fits .own∧(if i' = i∧j' = j then y else e i' j').ok _ Z
  by_cases hij : i' = i∧j' = j
  ·rw [if_pos hij]
   refine ⟨hc,hs,?_,eL hE wG _ (fun b k hf hh=>w8 b k hf hh.1) hy⟩
   cases y <;> first | trivial | exact .inl rfl
  ·rw [if_neg hij]
   obtain ⟨a1,a2,a3,a4⟩:=h3 i' j' hi' hj'
   exact ⟨a1,a2,a3,eL hE wG _ (fun b k hf hh=>ju i' j' hi' hj' b k hf hh.1) a4⟩
 ·rcases h4 rfl with h | ⟨g',o',arr,t,fz,hA,hh,hsz,hfr⟩
  ·exact .inl h
  ·injection hA with hA
   injection hA with e1 e2
   injection e2 with e2
   subst e1; subst e2
   have hg : g < w.heap.size:=(Array.getElem?_eq_some_iff.1 hh).1
   rcases hE.block g hg with e' | ⟨a1,a2,t',kq,e1,e2,e3,e4⟩
   ·exact .inr ⟨g,o,arr,t,fz,rfl,e'.trans hh,hsz,fun k hk hk'=>(hE.frozen hg).trans (hfr k hk hk')⟩
   ·rw [hh] at e1
    injection e1 with e1
    injection e1 with q1 q2 q3
    subst q1
    exact .inr ⟨g,o,a2,t',kq,rfl,e2,by omega,fun k hk hk'=>(hE.frozen hg).trans (hfr k hk hk')⟩
 ·have hf' : (if i' = i∧j' = j then y else e i' j').fp b k:=hf
  by_cases hij : i' = i∧j' = j
  ·rw [if_pos hij] at hf'
   refine ⟨fun _ o' hA=>?_,fun i2 j2 hi2 hj2 hne=>?_⟩
   ·injection hA with hA
    injection hA with e1 e2
    exact w8 b k hf' e1.symm
   ·show ¬ (if i2 = i∧j2 = j then y else e i2 j2).fp b k
    rw [if_neg (fun hh=>hne (by rw [hij.1,hij.2,hh.1,hh.2]))]
    intro hk
    exact hd b k hf' (jd (h3 i2 j2 hi2 hj2).1 (h3 i2 j2 hi2 hj2).2.2.1 hi2 hj2 hk)
  ·rw [if_neg hij] at hf'
   refine ⟨(h5 i' j' hi' hj' b k hf').1,fun i2 j2 hi2 hj2 hne=>?_⟩
   show ¬ (if i2 = i∧j2 = j then y else e i2 j2).fp b k
   by_cases hij2 : i2 = i∧j2 = j
   ·rw [if_pos hij2]
    intro hk
    exact hd b k hk (jd (h3 i' j' hi' hj').1 (h3 i' j' hi' hj').2.2.1 hi' hj' hf')
   ·rw [if_neg hij2]
    exact (h5 i' j' hi' hj' b k hf').2 i2 j2 hi2 hj2 hne
 ·obtain ⟨_,hf | ⟨i',j',hi',hj',hf⟩⟩:=hf
  ·exact .inl ⟨rfl,.inl hf⟩
  ·have hf' : (if i' = i∧j' = j then y else e i' j').fp b k:=hf
   by_cases hij : i' = i∧j' = j
   ·rw [if_pos hij] at hf'; exact .inr hf'
   ·rw [if_neg hij] at hf'
    exact .inl (jd (h3 i' j' hi' hj').1 (h3 i' j' hi' hj').2.2.1 hi' hj' hf')
theorem OV {g o n : Nat} {c : Nat→C} {j : Nat} {y : C} (h : (C.ptr .own g o n c).ok w Z) (hj : j < n) (hy : y.ok w Z) (hc : y.cell)
  (hZ : ∀ m k,o≤k→k < o + n→¬ Z m g k) (hd : ∀ b k,y.fp b k→¬ (C.ptr .own g o n c).fp b k) :
  ((C.ptr .own g o n c).aU (0,j) y).ok (w.setCell ⟨g,o + j,none⟩ y.val) Z ∧
   ∀ b k,((C.ptr .own g o n c).aU (0,j) y).fp b k→(C.ptr .own g o n c).fp b k∨y.fp b k:=by
 have hE:=Ext.setCell w g (o + j) y.val
 have wG : ∀ m b k,Z m b k→¬ (b = g∧k = o + j):=fun m b k hz hh=>by
  obtain ⟨rfl,rfl⟩:=hh
  exact hZ m _ (by omega) (by omega) hz
 have ju : ∀ j',j' < n→∀ b k,(c j').fp b k→¬ (b = g∧k = o + j):=fun j' hj' b k hf hb=>by
  exact (h.2.2.2 j' hj' b k hf).1 rfl ⟨hb.1,by omega,by omega⟩
 have w8 : ∀ b k,y.fp b k→¬ (b = g∧o≤k∧k < o + n):=fun b k hf hb=>hd b k hf ⟨rfl,.inl hb⟩
 obtain ⟨h1,h2,h3,h4⟩:=h
 refine ⟨⟨fun j' hj'=>?_,Nat.lt_of_lt_of_le h2 hE.size,fun j' hj'=>?_,fun j' hj' b k hf=>?_⟩,fun b k hf=>?_⟩
 ·obtain ⟨a1,a2,a3⟩:=h1 j' hj'
  refine ⟨?_,a2,fun hm=>(hE.frozen h2).trans (a3 hm)⟩
  simp only [bN]
  by_cases hij : j' = j
  ·subst hij
   rw [if_pos rfl]
   exact Lu w g _ _ _ a1
  ·rw [if_neg hij]
   exact hE.cell (fun hh=>hij (by omega)) a1
 ·simp only [bN]
  by_cases hij : j' = j
  ·rw [if_pos hij]
   refine ⟨hc,?_,eL hE wG _ (fun b k hf hh=>w8 b k hf ⟨hh.1,by omega,by omega⟩) hy⟩
   cases y <;> first | trivial | exact .inl rfl
  ·rw [if_neg hij]
   obtain ⟨a1,a3,a4⟩:=h3 j' hj'
   exact ⟨a1,a3,eL hE wG _ (fun b k hf hh=>ju j' hj' b k hf hh) a4⟩
 ·simp only [bN] at hf ⊢
  by_cases hij : j' = j
  ·rw [if_pos hij] at hf
   refine ⟨fun _ hA=>w8 b k hf hA,fun j2 hj2 hne=>?_⟩
   rw [if_neg (fun hh=>hne (by rw [hij,hh]))]
   intro hk
   exact hd b k hf (jy (h3 j2 hj2).1 (h3 j2 hj2).2.1 hj2 hk)
  ·rw [if_neg hij] at hf
   refine ⟨fun _=>(h4 j' hj' b k hf).1 rfl,fun j2 hj2 hne=>?_⟩
   by_cases hij2 : j2 = j
   ·rw [if_pos hij2]
    intro hk
    exact hd b k hk (jy (h3 j' hj').1 (h3 j' hj').2.1 hj' hf)
   ·rw [if_neg hij2]
    exact (h4 j' hj' b k hf).2 j2 hj2 hne
 ·obtain ⟨_,hf | ⟨j',hj',hf⟩⟩:=hf
  ·exact .inl ⟨rfl,.inl hf⟩
  ·simp only [bN] at hf
   by_cases hij : j' = j
   ·rw [if_pos hij] at hf; exact .inr hf
   ·rw [if_neg hij] at hf
    exact .inl (jy (h3 j' hj').1 (h3 j' hj').2.1 hj' hf)
end C
inductive ei (d : C) (i c : Nat) (y : C) : Nat→Nat→Prop where
 | row {sz g o len cap e} (h : d = .row .own sz (some (g,o,none)) len cap e) (hi : i < len) (hc : c < sz) (hs : y.cA) : ei d i c y g (o + i * sz + c)
 | ptr {g o n f} (h : d = .ptr .own g o n f) (hi : i = 0) (hc : c < n) : ei d i c y g (o + c)
theorem ei.off (f : Nat→Path→Bool) {d y : C} {i c g k : Nat} (h : ei d i c y g k) : ei (d.ay f) i c y g k:=by
 cases h with
 | row h hi hc hs=>subst h; exact .row rfl hi hc hs
 | ptr h hi hc=>subst h; exact .ptr rfl hi hc
theorem ei.aU {d y y0 z : C} {i c g k i' c' g' k' : Nat} (h : ei d i c y g k) (h' : ei d i' c' y0 g' k') : ei (d.aU (i,c) z) i' c' y0 g' k':=by
 cases h' with
 | row h' hi' jb hs'=>subst h'; exact .row rfl hi' jb hs'
 | ptr h' hi' jb=>subst h'; exact .ptr rfl hi' jb
namespace Inv
variable {w w' : World} {zl zb : Nat→Nat→Prop} {G : Nat→C} {s : ah}
theorem store (h : Inv w zl zb G s) (r : Nat) (p : Path) (i c : Nat) (d y : C) (g k : Nat) (hsub : (G r).sub p = some d) (hsp : ei d i c y g k) (hy : y.ok w (Zf zl zb)) (hcell : y.cell) (hrf : y.rf G)
  (hsep : ∀ t b k,y.fp b k→¬ (G t).fp b k) (hfz : ∀ b k,y.fp b k→¬ zl b k∧¬ zb b k) :
  ∃ G',Inv (w.setCell ⟨g,k,none⟩ y.val) zl zb G' (setCell r p i c y.er s)∧(∀ t,(G' t).val = (G t).val)∧(∀ t b k,(G' t).fp b k→y.fp b k∨(G t).fp b k)∧d.fp g k∧(∃ v,w.cell? ⟨g,k,none⟩ = some v)∧w.frozen? ⟨g,k,none⟩ = false ∧
   (∀ c' : C,c'.rf G→(bif mG r p i c s then c'.ay (C.bA r (p ++ [(i,c)])) else c').rf G') ∧
   ∃ d',(G' r).sub p = some d'∧∀ i' c' y' g' k',ei d i' c' y' g' k'→ei d' i' c' y' g' k':=by
 have tu:=C.gd p hsub (h.ok r)
 obtain ⟨old,hold⟩ : ∃ old,d.step (i,c) = some old:=by
  cases hsp with
  | row hd hi hc hs=>subst hd; exact ⟨_,if_pos (And.intro hi hc)⟩
  | ptr hd hi hc=>subst hd; exact ⟨_,if_pos (And.intro hi hc)⟩
 have GY : d.fp g k:=by
  cases hsp with
  | row hd hi hc hs=>subst hd; exact ⟨rfl,.inl ⟨_,rfl⟩⟩
  | ptr hd hi hc=>subst hd; exact ⟨rfl,.inl ⟨rfl,by omega,by omega⟩⟩
 have aX : ∀ {b k},d.fp b k→(G r).fp b k:=fun hf=>C.fJ p hsub (h.ok r) hf
 have BB : ∀ m b k,d.fp b k→¬ Zf zl zb m b k:=fun m b k hf hz=>h.vI r m b k hz (aX hf)
 have w5 : ∀ b k,y.fp b k→¬ d.fp b k:=fun b k hf hd=>hsep r b k hf (aX hd)
 have hnew : (d.aU (i,c) y).ok (w.setCell ⟨g,k,none⟩ y.val) (Zf zl zb)∧∀ b k,(d.aU (i,c) y).fp b k→d.fp b k∨y.fp b k:=by
  cases hsp with
  | row hd hi hc hs=>subst hd; exact C.Pc tu hi hc hy hcell hs (fun m k hz=>BB m _ k ⟨rfl,.inl ⟨_,rfl⟩⟩ hz) w5
  | ptr hd hi hc=>subst hd; subst hi; exact C.OV tu hc hy hcell (fun m k h1 h2 hz=>BB m _ k ⟨rfl,.inl ⟨rfl,h1,h2⟩⟩ hz) w5
 have hread : (∃ v,w.cell? ⟨g,k,none⟩ = some v)∧w.frozen? ⟨g,k,none⟩ = false:=by
  cases hsp with
  | row hd hi hc hs =>
   rename_i sz o len cap e
   subst hd
   obtain ⟨h1,h2,h3,h4,h5⟩:=tu
   obtain ⟨g',o',hA,hcl,_⟩:=h2 i c hi hc
   injection hA with hA
   injection hA with e1 e2
   injection e2 with e2
   subst e1; subst e2
   refine ⟨⟨_,hcl⟩,?_⟩
   rcases h4 rfl with ⟨hn,_⟩ | ⟨g',o',arr,t,fz,hA,hh,hsz,hfr⟩
   ·cases hn
   ·injection hA with hA
    injection hA with e1 e2
    injection e2 with e2
    subst e1; subst e2
    refine hfr _ (by omega) ?_
    have : (i + 1) * sz≤cap * sz:=Nat.mul_le_mul_right _ (by omega)
    rw [Nat.add_mul] at this
    omega
  | ptr hd hi hc =>
   subst hd
   obtain ⟨a1,_,a3⟩:=tu.1 c hc
   exact ⟨⟨_,a1⟩,a3 rfl⟩
 have hE:=Ext.setCell w g k y.val
 have hS : ∀ b i',b = g∧i' = k→d.fp b i'∨w.heap.size≤b:=fun b i' hh=>.inl (by rw [hh.1,hh.2]; exact GY)
 have hq:=C.qm p hsub hold
 have aaC : look s r (p ++ [(i,c)]) = some old.er:=by simp only [look]; rw [← h.er,C.fI,hq]; rfl
 have like : ∀ (d : C) (y : C),C.gi d (d.aU (i,c) y)∨(∃ n f,d = .agg n f)∨(∃ n f,d = .au n f):=by
  intro d y
  cases d with
  | row=>exact .inl ⟨rfl,fun h=>h,fun h=>h,fun h=>h,fun _ h=>h⟩
  | ptr=>exact .inl ⟨rfl,fun h=>h,fun h=>h,fun h=>h,fun _ h=>h⟩
  | agg n f=>exact .inr (.inl ⟨n,f,rfl⟩)
  | au n f=>exact .inr (.inr ⟨n,f,rfl⟩)
  | _=>exact .inl ⟨rfl,fun h=>h,fun h=>h,fun h=>h,fun _ h=>h⟩
 have pn : ∀ y,C.gi d (d.aU (i,c) y):=by
  intro y
  rcases like d y with hl | ⟨n,f,hd⟩ | ⟨n,f,hd⟩
  ·exact hl
  ·cases hsp with
   | row hd'=>rw [hd] at hd'; cases hd'
   | ptr hd'=>rw [hd] at hd'; cases hd'
  ·cases hsp with
   | row hd'=>rw [hd] at hd'; cases hd'
   | ptr hd'=>rw [hd] at hd'; cases hd'
 have tD : mG r p i c s = old.er.gL:=by unfold mG; rw [aaC]
 unfold setCell
 rw [tD]
 cases hr : old.er.gL with
 | false =>
  have hno : ∀ c' : C,c'.rf G→c'.free (C.bA r (p ++ [(i,c)])):=by
   intro c'
   have none : ∀ (q : Path) (z : C),X.pfx (p ++ [(i,c)]) q = true→(G r).sub q = some z→(∀ m sz A len cap e,z≠.row m sz A len cap e)∧∀ m g o n f,z≠.ptr m g o n f:=by
    intro q z hp hz
    obtain ⟨q',rfl⟩:=II _ _ hp
    rw [C.ED _ _ hq] at hz
    cases q' with
    | nil =>
     simp only [C.sub] at hz
     injection hz with hz
     subst hz
     constructor
     ·intro m sz A len cap e e'; rw [e'] at hr; simp [C.er,X.gL] at hr
     ·intro m g o n f e'; rw [e'] at hr; simp [C.er,X.gL] at hr
    | cons x q' =>
     cases old <;> first | (simp [C.er,X.gL] at hr; done) | (simp [C.sub,C.step] at hz; done)
   induction c' with
   | ref v r' q =>
    intro hrf
    obtain ⟨y,z,hs,hF,hv,m,sz,A,len,cap,e,rfl⟩:=hrf
    simp only [C.free,C.bA]
    cases hk : (r' == r && X.pfx (p ++ [(i,c)]) q) with
    | false=>rfl
    | true =>
     simp only [Bool.and_eq_true,beq_iff_eq] at hk
     obtain ⟨rfl,hk⟩:=hk
     cases hF
     exact ((none q _ hk hs).1 _ _ _ _ _ _ rfl).elim
   | aA v r' q i' c' =>
    intro hrf
    obtain ⟨y,hs,hy⟩:=hrf
    simp only [C.free,C.bA]
    cases hk : (r' == r && X.pfx (p ++ [(i,c)]) q) with
    | false=>rfl
    | true =>
     simp only [Bool.and_eq_true,beq_iff_eq] at hk
     obtain ⟨rfl,hk⟩:=hk
     rcases hy with ⟨m,sz,g,o,len,cap,e,rfl,hv⟩ | ⟨m,g,o,n,cc,rfl,hv⟩
     ·exact ((none q _ hk hs).1 _ _ _ _ _ _ rfl).elim
     ·exact ((none q _ hk hs).2 _ _ _ _ _ rfl).elim
   | cut v r' q lo hi =>
    intro hrf
    obtain ⟨m,sz,A,len,cap,e,A',cap',hs,_⟩:=hrf
    simp only [C.free,C.bA]
    cases hk : (r' == r && X.pfx (p ++ [(i,c)]) q) with
    | false=>rfl
    | true =>
     simp only [Bool.and_eq_true,beq_iff_eq] at hk
     obtain ⟨rfl,hk⟩:=hk
     exact ((none q _ hk hs).1 _ _ _ _ _ _ rfl).elim
   | ptr m g o n f ih=>exact fun hrf j hj=>ih j (hrf j hj)
   | agg n f ih=>exact fun hrf j hj=>ih j (hrf j hj)
   | au n f ih=>exact fun hrf j hj=>ih j (hrf j hj)
   | fn _ n f ih=>exact fun hrf j hj=>ih j (hrf j hj)
   | _=>exact fun _=>trivial
  obtain ⟨⟨i1,i2,i3⟩,i4⟩:=h.Ey r p (p ++ [(i,c)]) d (d.aU (i,c) y) y (C.yY p hsub hold) (fun t=>hno _ (h.rf t)) hE hsub hS hnew.1 (pn y) hrf (hno _ hrf)
   (fun b k hf=>(hnew.2 b k hf).imp id fun hf=>⟨fun t=>hsep t b k hf,hfz b k hf⟩)
  refine ⟨_,i1,i2,fun t b k hf=>?_,GY,hread.1,hread.2,fun c' hr=>i4 c' (hno c' hr) hr,_,by rw [cR]; exact C.EF p hsub,fun i' c' y' g' k' hs=>ei.aU hsp hs⟩
  rcases i3 t b k hf with ⟨ht,hf'⟩ | hf'
  ·subst ht; exact (hnew.2 b k hf').symm.imp id aX
  ·exact .inr hf'
 | true =>
  have h1:=h.kill r (p ++ [(i,c)])
  let f:=C.bA r (p ++ [(i,c)])
  have Hf : ((G r).ay f).sub p = some (d.ay f):=C.iq f p _ _ (h.ok r) hsub
  have aaI : (d.ay f).step (i,c) = some (old.ay f):=by
   have:=C.iq f [(i,c)] d old tu (by simp [C.sub,hold])
   simpa [C.sub] using this
  have hval : ∀ b k,(y.ay f).fp b k↔y.fp b k:=fun b k=>C.cu f y b k
  have hnew1 : ((d.ay f).aU (i,c) (y.ay f)).ok (w.setCell ⟨g,k,none⟩ y.val) (Zf zl zb)∧∀ b k,((d.ay f).aU (i,c) (y.ay f)).fp b k→(d.ay f).fp b k∨(y.ay f).fp b k:=by
   have Ny : ∀ b k,(y.ay f).fp b k→¬ (d.ay f).fp b k:=fun b k hf hd=>w5 b k ((hval b k).1 hf) ((C.cu f d b k).1 hd)
   have Nc:=C.kH f d tu
   have hy1:=C.kH f y hy
   have hc1:=C.DB f y hcell
   rw [← C.iu f y]
   cases hsp with
   | row hd hi hc hs =>
    subst hd
    have e1 : C.ay f y = y:=C.uO f y hs
    exact C.Pc Nc hi hc hy1 hc1 (by rw [e1]; exact hs) (fun m k hz=>BB m _ k ⟨rfl,.inl ⟨_,rfl⟩⟩ hz) Ny
   | ptr hd hi hc =>
    subst hd; subst hi
    exact C.OV Nc hc hy1 hc1 (fun m k h1 h2 hz=>BB m _ k ⟨rfl,.inl ⟨rfl,h1,h2⟩⟩ hz) Ny
  have aaA : C.gi (d.ay f) ((d.ay f).aU (i,c) (y.ay f)):=by
   rcases like (d.ay f) (y.ay f) with hl | ⟨n,f',hd⟩ | ⟨n,f',hd⟩
   ·exact hl
   ·cases hsp with
    | row hd'=>rw [hd'] at hd; cases hd
    | ptr hd'=>rw [hd'] at hd; cases hd
   ·cases hsp with
    | row hd'=>rw [hd'] at hd; cases hd
    | ptr hd'=>rw [hd'] at hd; cases hd
  have aaP : (y.ay f).rf fun t=>(G t).ay f:=C.jZ f (fun s' q z hk hs=>by
   rcases C.self z _ q hs with ⟨z',eH,hs'⟩ | hno
   ·exact .inl ⟨_,eH.off f,C.iq f q _ _ (h.ok s') hs'⟩
   ·exact .inr hno) _ (C.fF f _) (C.lN f _ hrf)
  obtain ⟨⟨i1,i2,i3⟩,i4⟩:=h1.Ey r p (p ++ [(i,c)]) (d.ay f) _ (y.ay f) (C.yY p Hf aaI) (fun t=>C.fF _ _) hE Hf (fun b k hh=>(hS b k hh).imp (fun hh=>(C.cu f d b k).2 hh) id) hnew1.1 aaA aaP (C.fF _ _)
   (fun b k hf=>(hnew1.2 b k hf).imp id fun hf=>⟨fun t hf'=>hsep t b k ((hval b k).1 hf) ((C.cu f _ b k).1 hf'),hfz b k ((hval b k).1 hf)⟩)
  rw [C.mB] at i1
  refine ⟨_,i1,fun t=>(i2 t).trans (C.iu f _),fun t b k hf=>?_,GY,hread.1,hread.2,fun c' hr=>i4 _ (C.fF f c') (C.jZ f (fun s' q z hk hs=>by
   rcases C.self z _ q hs with ⟨z',eH,hs'⟩ | hno
   ·exact .inl ⟨_,eH.off f,C.iq f q _ _ (h.ok s') hs'⟩
   ·exact .inr hno) _ (C.fF f _) (C.lN f _ hr)),_,by rw [cR]; exact C.EF p Hf,fun i' c' y' g' k' hs=>ei.aU (ei.off f hsp) (ei.off f hs)⟩
  rcases i3 t b k hf with ⟨ht,hf'⟩ | hf'
  ·subst ht
   rcases hnew1.2 b k hf' with hf' | hf'
   ·exact .inr (aX ((C.cu f d b k).1 hf'))
   ·exact .inl ((hval b k).1 hf')
  ·exact .inr ((C.cu f _ b k).1 hf')
end Inv
end M
namespace M
open Go Go.RowKit
structure Ctx where
 w0 : World
 F0 : Nat→Nat→Prop
 mV : Nat→Nat→Prop
 zb : Nat→Nat→Prop
 nt : Nat
 args : List Value
abbrev base : Nat:=100000
structure Tr [B : Bs] (c : Ctx) (w : World) (zl : Nat→Nat→Prop) (G : Nat→C) : Prop where
 ext : Ext c.F0 c.w0 w
 dom : ∀ t b k,(G t).fp b k→c.F0 b k∨c.w0.heap.size≤b
 mV : ∀ b k,c.mV b k→zl b k
 zl : ∀ b k,zl b k→c.mV b k∨c.F0 b k∨c.w0.heap.size≤b
 gl : AA c.w0 c.mV c.zb
 wC : ∀ b k,b < B.W0.heap.size→¬ c.F0 b k
structure St [Bs] (c : Ctx) (G : Nat→C) (zl : Nat→Nat→Prop) (s : ah) (a : Act) (w : World) : Prop where
 inv : Inv w zl c.zb G s
 val : ∀ t,t < base→(G t).val = a.tmps.getD t undef
 size : a.tmps.size = c.nt
 small : c.nt≤base
 defers : a.defers = []
 tr : Tr c w zl G
 args : ∀ i v,c.args[i]? = some v→(G (base + i)).val = v
namespace C
def gU (n : Nat) (p : Path) : C→C
 | .row .own sz A len cap e=>.ref (C.row .own sz A len cap e).val n p
 | .ptr .own g o m c=>.aA (C.ptr .own g o m c).val n p 0 0
 | x=>x
def fM (n : Nat) (p : Path) : C→C
 | .agg m c=>.agg m fun j=>(c j).gU n (p ++ [(0,j)])
 | x=>x.gU n p
def alias (n : Nat) (p : Path) : C→C
 | .au m c=>.au m fun j=>(c j).fM n (p ++ [(0,j)])
 | x=>x.fM n p
theorem Ff (n : Nat) (p : Path) (c : C) : (c.gU n p).er = M.gU n p c.er:=by
 cases c with
 | row m=>cases m <;> rfl
 | ptr m=>cases m <;> rfl
 | _=>rfl
theorem sJ (n : Nat) (p : Path) (i : Nat) : ∀ (l : List Nat) (k : Nat) (f : Nat→C),l = (List.range l.length).map (· + k)→M.qw n p i k (l.map fun j=>(f j).er) = l.map fun j=>((f j).gU n (p ++ [(i,j)])).er
 | [],k,f,h=>rfl
 | x :: l,k,f,h=>by
  have hx : x = k:=by
   simp only [List.length_cons,List.range_succ_eq_map,List.map_cons,Nat.zero_add] at h
   exact (List.cons.inj h).1
  have hl : l = (List.range l.length).map (· + (k + 1)):=by
   simp only [List.length_cons,List.range_succ_eq_map,List.map_cons,Nat.zero_add,List.map_map] at h
   have:=(List.cons.inj h).2
   rw [this]
   simp only [List.length_map,List.length_range]
   apply List.map_congr_left
   intro j _
   show j + 1 + k = j + (k + 1)
   omega
  simp only [List.map_cons,M.qw]
  rw [sJ n p i l (k + 1) f hl,Ff,hx]
theorem OZ (m : Nat) : List.range m = (List.range (List.range m).length).map (· + 0):=by simp
theorem AF (n : Nat) (p : Path) (c : C) : (c.fM n p).er = M.fM n p c.er:=by
 cases c with
 | agg m c =>
  simp only [fM,er,M.fM]
  rw [sJ n p 0 (List.range m) 0 c (OZ m)]
 | row m=>exact Ff n p _
 | ptr m=>exact Ff n p _
 | _=>rfl
theorem KA (n : Nat) (p : Path) : ∀ (l : List Nat) (k : Nat) (f : Nat→C),l = (List.range l.length).map (· + k)→M.vS n p k (l.map fun j=>(f j).er) = l.map fun j=>((f j).fM n (p ++ [(0,j)])).er
 | [],k,f,h=>rfl
 | x :: l,k,f,h=>by
  have hx : x = k:=by
   simp only [List.length_cons,List.range_succ_eq_map,List.map_cons,Nat.zero_add] at h
   exact (List.cons.inj h).1
  have hl : l = (List.range l.length).map (· + (k + 1)):=by
   simp only [List.length_cons,List.range_succ_eq_map,List.map_cons,Nat.zero_add,List.map_map] at h
   have:=(List.cons.inj h).2
   rw [this]
   simp only [List.length_map,List.length_range]
   apply List.map_congr_left
   intro j _
   show j + 1 + k = j + (k + 1)
   omega
  simp only [List.map_cons,M.vS]
  rw [KA n p l (k + 1) f hl,AF,hx]
theorem KC (n : Nat) (p : Path) (c : C) : (c.alias n p).er = M.alias n p c.er:=by
 cases c with
 | au m c =>
  simp only [alias,er,M.alias]
  rw [KA n p (List.range m) 0 c (OZ m)]
 | row m sz A len cap e=>exact AF n p (.row m sz A len cap e)
 | ptr m g o k c=>exact AF n p (.ptr m g o k c)
 | agg m c=>exact AF n p (.agg m c)
 | _=>rfl
theorem vR (n : Nat) (p : Path) (c : C) : (c.gU n p).val = c.val:=by
 cases c with
 | row m=>cases m <;> rfl
 | ptr m=>cases m <;> rfl
 | _=>rfl
theorem AG (n : Nat) (p : Path) (c : C) : (c.fM n p).val = c.val:=by
 cases c with
 | agg m c=>simp only [fM,val]; congr 2; exact List.map_congr_left fun j _=>vR _ _ _
 | row m=>exact vR n p _
 | ptr m=>exact vR n p _
 | _=>rfl
theorem KD (n : Nat) (p : Path) (c : C) : (c.alias n p).val = c.val:=by
 cases c with
 | au m c=>simp only [alias,val]; congr 2; exact List.map_congr_left fun j _=>AG _ _ _
 | row m sz A len cap e=>exact AG n p (.row m sz A len cap e)
 | ptr m g o k c=>exact AG n p (.ptr m g o k c)
 | agg m c=>exact AG n p (.agg m c)
 | _=>rfl
variable {w : World} {Z : Md→Nat→Nat→Prop} {G : Nat→C}
theorem vO (n : Nat) (p : Path) (c : C) (hc : (∀ m f,c≠.agg m f)∧∀ m f,c≠.au m f) (b k : Nat) : ¬ (c.gU n p).fp b k:=by
 cases c with
 | row m=>cases m <;> first | exact fun h=>h | exact fun h=>by cases h.1
 | ptr m=>cases m <;> first | exact fun h=>h | exact fun h=>by cases h.1
 | agg m f=>exact (hc.1 m f rfl).elim
 | au m f=>exact (hc.2 m f rfl).elim
 | _=>exact fun h=>h
theorem FZ {c : C} (h : c.cell) : (∀ m f,c≠.agg m f)∧∀ m f,c≠.au m f:=by
 constructor <;> (intro m f e; subst e; exact h)
theorem vP (n : Nat) (p : Path) (c : C) (h : c.ok w Z) : (c.gU n p).ok w Z:=by
 cases c with
 | row m=>cases m <;> first | trivial | exact h
 | ptr m=>cases m <;> first | trivial | exact h
 | _=>exact h
theorem Fe (n : Nat) (p : Path) (c : C) (h : c.cell) : (c.gU n p).cell:=by
 cases c with
 | row m=>cases m <;> first | rfl | exact h
 | ptr m=>cases m <;> first | rfl | exact h
 | _=>exact h
theorem vQ (n : Nat) (p : Path) (c : C) (hs : (G n).sub p = some c) (h : c.rf G) : (c.gU n p).rf G:=by
 cases c with
 | row m sz A len cap e=>cases m <;> first | exact ⟨_,_,hs,.row .own .own sz A len cap e e,rfl,_,_,_,_,_,_,rfl⟩ | trivial
 | ptr m g o k c=>cases m <;> first | exact ⟨_,hs,.inr ⟨_,_,_,_,_,rfl,rfl,by simp [val]⟩⟩ | exact h
 | _=>exact h
theorem Ol {n : Nat} {f : Nat→C} (h : ∀ j,j < n→∀ b k,¬ (f j).fp b k) : ∀ j,j < n→∀ b k,(f j).fp b k→∀ j',j' < n→j≠j'→¬ (f j').fp b k:=fun j hj b k hf=>(h j hj b k hf).elim
theorem AE (n : Nat) (p : Path) (c : C) (hnt : ∀ m f,c≠.au m f) (hs : (G n).sub p = some c) (ho : c.ok w Z) (hr : c.rf G) : (c.fM n p).ok w Z∧(c.fM n p).rf G∧∀ b k,¬ (c.fM n p).fp b k:=by
 cases c with
 | agg m f =>
  have bV : ∀ j,j < m→∀ b k,¬ ((f j).gU n (p ++ [(0,j)])).fp b k:=fun j hj=>vO _ _ _ (FZ (ho.1 j hj).1)
  refine ⟨⟨fun j hj=>⟨Fe _ _ _ (ho.1 j hj).1,vP _ _ _ (ho.1 j hj).2⟩,Ol bV⟩,fun j hj=>vQ _ _ _ ?_ (hr j hj),fun b k ⟨j,hj,hf⟩=>bV j hj b k hf⟩
  exact qm p hs (by simp [step,hj])
 | au m f=>exact (hnt m f rfl).elim
 | row m sz A len cap e=>exact ⟨vP n p _ ho,vQ n p _ hs hr,vO n p _ ⟨fun _ _ e=>(by cases e),fun _ _ e=>(by cases e)⟩⟩
 | ptr m g o k c=>exact ⟨vP n p _ ho,vQ n p _ hs hr,vO n p _ ⟨fun _ _ e=>(by cases e),fun _ _ e=>(by cases e)⟩⟩
 | _=>exact ⟨ho,hr,fun b k hf=>hf⟩
theorem SW (n : Nat) (p : Path) (c : C) (h : c.ff) : (c.fM n p).ff:=by
 cases c with
 | au=>exact h.elim
 | row m=>cases m <;> trivial
 | ptr m=>cases m <;> trivial
 | _=>trivial
theorem KB (n : Nat) (c : C) (hs : G n = c) (ho : c.ok w Z) (hr : c.rf G) : (c.alias n []).ok w Z∧(c.alias n []).rf G∧∀ b k,¬ (c.alias n []).fp b k:=by
 have hs' : (G n).sub [] = some c:=by rw [hs]; rfl
 cases c with
 | au m f =>
  have key : ∀ j,j < m→((f j).fM n ([] ++ [(0,j)])).ok w Z∧((f j).fM n ([] ++ [(0,j)])).rf G∧∀ b k,¬ ((f j).fM n ([] ++ [(0,j)])).fp b k:=fun j hj =>
   AE n _ (f j) (fun m' f' e=>by have:=(ho.1 j hj).1; rw [e] at this; exact this) (qm [] hs' (by simp [step,hj])) (ho.1 j hj).2 (hr j hj)
  refine ⟨⟨fun j hj=>⟨?_,(key j hj).1⟩,Ol fun j hj=>(key j hj).2.2⟩,fun j hj=>(key j hj).2.1,fun b k ⟨j,hj,hf⟩=>(key j hj).2.2 b k hf⟩
  exact SW _ _ _ (ho.1 j hj).1
 | row m sz A len cap e=>exact AE n [] _ (fun _ _ e=>(by cases e)) hs' ho hr
 | ptr m g o k c=>exact AE n [] _ (fun _ _ e=>(by cases e)) hs' ho hr
 | agg m c=>exact AE n [] _ (fun _ _ e=>(by cases e)) hs' ho hr
 | _=>exact ⟨ho,hr,fun b k hf=>hf⟩
end C
end M
namespace M
open Go Go.RowKit
variable [Bs]
namespace C
def plain : C→Prop
 | .dead v=>v.oneCell' = true
 | .int _ _=>True
 | .bool _=>True
 | .str _=>True
 | .row _ _ _ _ _ _=>True
 | _=>False
theorem jX {c : C} (h : c.plain) : c.cell:=by cases c <;> first | exact h | exact h.elim
theorem yW {c : C} (h : c.plain) : c.cA:=by cases c <;> first | exact h | exact h.elim | trivial
theorem mI {c : C} (h : c.plain) (G : Nat→C) : c.rf G:=by cases c <;> first | exact h.elim | trivial
theorem IL {c : C} (h : c.plain) (t : Nat→Path→Bool) : c.ay t = c:=uO t c (yW h)
theorem acJ (t : Nat→Path→Bool) (v : Value) (s : Nat) (q : Path) (x : Nat×Nat) : (C.ay t (.ref v s q)).step x = none:=by simp only [ay]; cases t s q <;> rfl
theorem acF (t : Nat→Path→Bool) (v : Value) (s : Nat) (q : Path) (i c : Nat) (x : Nat×Nat) : (C.ay t (.aA v s q i c)).step x = none:=by simp only [ay]; cases t s q <;> rfl
theorem acG (t : Nat→Path→Bool) (v : Value) (s : Nat) (q : Path) (i c : Nat) (x : Nat×Nat) : (C.ay t (.cut v s q i c)).step x = none:=by simp only [ay]; cases t s q <;> rfl
theorem PF {c z : C} {x : Nat×Nat} (h : c.step x = some z) (y : C) : (c.aU x y).step x = some y:=by
 cases c with
 | row m sz A len cap e =>
  simp only [step] at h ⊢
  split at h
  ·rename_i hq; simp [aU,step,hq]
  ·cases h
 | ptr m g o n c =>
  simp only [step] at h ⊢
  split at h
  ·rename_i hq; simp [aU,step,hq,bN]
  ·cases h
 | agg n c =>
  simp only [step] at h ⊢
  split at h
  ·rename_i hq; simp [aU,step,hq,bN]
  ·cases h
 | au n c =>
  simp only [step] at h ⊢
  split at h
  ·rename_i hq; simp [aU,step,hq,bN]
  ·cases h
 | _=>simp [step] at h
theorem PI : ∀ (p q : Path) (c d y : C),c.sub p = some d→(putAt p c (.dead d.val)).sub q = some y→∃ y',c.sub q = some y'∧y'.val = y.val∧(y'.plain→y.plain)
 | [],[],c,d,y,h,hy=>by
  simp only [sub] at h
  injection h with h
  subst h
  simp only [putAt,sub] at hy
  injection hy with hy
  subst hy
  exact ⟨_,rfl,rfl,fun hp=>Inv.oK (jX hp)⟩
 | [],q :: t,c,d,y,h,hy=>by simp [putAt,sub,step] at hy
 | x :: p,[],c,d,y,h,hy=>by
  simp only [sub] at h
  cases hst : c.step x with
  | none=>rw [hst] at h; cases h
  | some z =>
   rw [hst] at h
   simp only [putAt,hst,sub] at hy
   injection hy with hy
   subst hy
   have hv:=(OE p z d h)
   exact ⟨c,rfl,((gi.aU c x z _ hst hv).val).symm,fun hp=>by cases c <;> first | exact hp.elim | trivial | (simp [step] at hst)⟩
 | x :: p,q :: t,c,d,y,h,hy=>by
  simp only [sub] at h
  cases hst : c.step x with
  | none=>rw [hst] at h; cases h
  | some z =>
   rw [hst] at h
   simp only [putAt,hst] at hy
   simp only [sub] at hy ⊢
   by_cases w4 : x = q
   ·subst w4
    rw [hst]
    have hs : (c.aU x (putAt p z (.dead d.val))).step x = some (putAt p z (.dead d.val)):=PF hst _
    rw [hs] at hy
    exact PI p t z d y h hy
   ·have hs : (c.aU x (putAt p z (.dead d.val))).step q = c.step q:=by
     cases c with
     | row m sz A len cap e =>
      simp only [step,aU]
      split
      ·rw [if_neg]
       intro hh
       exact w4 (by cases x; cases q; simp only at hh; rw [hh.1,hh.2])
      ·rfl
     | ptr m g o n c =>
      simp only [step] at hst
      split at hst
      ·rename_i hx
       simp only [step,aU,bN]
       split
       ·rename_i hq
        rw [if_neg]
        intro hh
        exact w4 (by cases x; cases q; simp only at hh hx hq; rw [hh,hx.1,hq.1])
       ·rfl
      ·cases hst
     | agg n c =>
      simp only [step] at hst
      split at hst
      ·rename_i hx
       simp only [step,aU,bN]
       split
       ·rename_i hq
        rw [if_neg]
        intro hh
        exact w4 (by cases x; cases q; simp only at hh hx hq; rw [hh,hx.1,hq.1])
       ·rfl
      ·cases hst
     | au n c =>
      simp only [step] at hst
      split at hst
      ·rename_i hx
       simp only [step,aU,bN]
       split
       ·rename_i hq
        rw [if_neg]
        intro hh
        exact w4 (by cases x; cases q; simp only at hh hx hq; rw [hh,hx.1,hq.1])
       ·rfl
      ·cases hst
     | _=>simp [step] at hst
    rw [hs] at hy
    cases hq : c.step q with
    | none=>rw [hq] at hy; cases hy
    | some z'=>rw [hq] at hy; exact ⟨y,hy,rfl,fun hp=>hp⟩
where
 OE : ∀ (p : Path) (z d : C),z.sub p = some d→(putAt p z (.dead d.val)).val = z.val
  | [],z,d,h=>by simp only [sub] at h; injection h with h; subst h; rfl
  | x :: p,z,d,h=>by
   simp only [sub] at h
   cases hst : z.step x with
   | none=>rw [hst] at h; cases h
   | some z' =>
    rw [hst] at h
    simp only [putAt,hst]
    exact (gi.aU z x z' _ hst (OE p z' d h)).val
end C
structure ey (w : World) (zl zb : Nat→Nat→Prop) (G : Nat→C) (c : C) (G' : Nat→C) (s' : ah) : Prop where
 inv : Inv w zl zb G' s'
 ok : c.ok w (Zf zl zb)
 rf : c.rf G'
 sep : ∀ t b k,c.fp b k→¬ (G' t).fp b k
 fz : ∀ b k,c.fp b k→¬ zl b k∧¬ zb b k
 val : ∀ t,(G' t).val = (G t).val
 dom : ∀ b k,c.fp b k→∃ t,(G t).fp b k
 mono : ∀ t b k,(G' t).fp b k→(G t).fp b k
variable {w : World} {zl zb : Nat→Nat→Prop} {G : Nat→C} {s : ah}
theorem ey.self (h : Inv w zl zb G s) {c : C} (ho : c.ok w (Zf zl zb)) (hr : c.rf G) (hn : ∀ b k,¬ c.fp b k) : ey w zl zb G c G s :=
 ⟨h,ho,hr,fun t b k hf=>(hn b k hf).elim,fun b k hf=>(hn b k hf).elim,fun _=>rfl,fun b k hf=>(hn b k hf).elim,fun _ _ _ hf=>hf⟩
def weak (G : Nat→C) (v : Value) (r : Nat) (p : Path) : Prop:=∀ y,(G r).sub p = some y→y.val = v∧y.plain
theorem Ah {v : Value} {r : Nat} {p : Path} (h : (C.ref v r p).rf G) : weak G v r p:=by
 obtain ⟨y,z,hs,hF,hv,m,sz,A,len,cap,e,rfl⟩:=h
 intro y' hy'
 rw [hs] at hy'
 injection hy' with hy'
 subst hy'
 cases hF
 exact ⟨hv,trivial⟩
theorem Oj (h : Inv w zl zb G s) {v : Value} {r : Nat} {p : Path} (hw : weak G v r p) (hv : v.oneCell' = true) :
  ∃ c G',c.er = (move r p s).1∧c.val = v∧c.plain∧ey w zl zb G c G' (move r p s).2∧∀ v' r' p',weak G v' r' p'→weak G' v' r' p':=by
 unfold move look
 rw [← h.er,C.fI]
 cases hs : (G r).sub p with
 | none=>exact ⟨.dead v,G,rfl,rfl,hv,ey.self h trivial trivial (fun _ _ hf=>hf),fun _ _ _ hh=>hh⟩
 | some y =>
  obtain ⟨mw,hyp⟩:=hw y hs
  have h1:=h.kill r p
  have hs1 : ((G r).ay (C.bA r p)).sub p = some (y.ay (C.bA r p)):=C.iq _ p _ _ (h.ok r) hs
  rw [C.IL hyp] at hs1
  have nE:=C.gd p hs (h.ok r)
  obtain ⟨⟨i1,i2,i3⟩,_⟩:=h1.Pr r p y (.dead y.val) (S:=fun _ _=>False) (fun t=>C.fF _ _) (Ext.refl _ _) hs1 (fun _ _ hf=>hf.elim) trivial (Inv.Dg _) trivial trivial (fun _ _ hf=>hf.elim)
  refine ⟨y,_,?_,mw,hyp,⟨i1,nE,C.mI hyp _,?_,fun b k hf=>h.fz r b k (C.fJ p hs (h.ok r) hf),fun t=>(i2 t).trans (C.iu _ _),fun b k hf=>⟨r,C.fJ p hs (h.ok r) hf⟩,fun t b k hf=>?_⟩,fun v' r' p' hw' y' hy'=>?_⟩
  ·show y.er = y.er.kill r p
   rw [← C.mB,C.IL hyp]
  ·intro t b k hf hf'
   have Hi:=C.fJ p hs (h.ok r) hf
   by_cases e : t = r
   ·subst e
    rw [cR] at hf'
    obtain ⟨_,j2,_⟩:=C.yR (fun _ _ _ h=>h) (Ext.refl (fun _ _=>False) w) (fun m b k _ hs=>hs) p ((G t).ay (C.bA t p)) y (.dead y.val) (h1.ok t) hs1 trivial (Inv.Dg _) (fun _ _ hs=>hs.elim) (fun _ _ hs=>hs.elim)
    rcases j2 b k hf' with hh | ⟨_,hn⟩
    ·exact hh
    ·exact hn hf
   ·rw [cI _ _ e,C.cu] at hf'
    exact h.sep r t (fun e'=>e e'.symm) b k Hi hf'
  ·rcases i3 t b k hf with ⟨_,hh⟩ | hh
   ·exact hh.elim
   ·rwa [C.cu] at hh
  ·by_cases e : r' = r
   ·subst e
    rw [cR] at hy'
    obtain ⟨y1,a1,a2,a3⟩:=C.PI p p' _ _ _ hs1 hy'
    obtain ⟨y2,b1,b2,b3⟩:=OD (C.bA r' p) p' _ (h.ok r') a1
    obtain ⟨c1,c2⟩:=hw' y2 b1
    exact ⟨by rw [← a2,← b2,c1],a3 (b3 c2)⟩
   ·rw [cI _ _ e] at hy'
    obtain ⟨y2,b1,b2,b3⟩:=OD (C.bA r p) p' _ (h.ok r') hy'
    obtain ⟨c1,c2⟩:=hw' y2 b1
    exact ⟨by rw [← b2,c1],b3 c2⟩
where
 OD (t : Nat→Path→Bool) : ∀ (q : Path) (c : C) {y : C},c.ok w (Zf zl zb)→(c.ay t).sub q = some y→∃ y',c.sub q = some y'∧y'.val = y.val∧(y'.plain→y.plain):=by
  intro q c y ho hy
  cases hc : c.sub q with
  | some y' =>
   have:=C.iq t q c y' ho hc
   rw [hy] at this
   injection this with this
   subst this
   exact ⟨y',rfl,(C.iu _ _).symm,fun hp=>by rw [C.IL hp]; exact hp⟩
  | none =>
   exfalso
   induction q generalizing c with
   | nil=>simp [C.sub] at hc
   | cons x q ih =>
    simp only [C.sub] at hc hy
    have hstep : ∀ z,(c.ay t).step x = some z→∃ z',c.step x = some z'∧z'.ay t = z:=by
     intro z hz
     cases c with
     | row m sz A len cap e =>
      simp only [C.ay,C.step] at hz ⊢
      split at hz
      ·rename_i hq
       injection hz with hz
       rw [if_pos hq]
       exact ⟨_,rfl,by rw [← hz]; exact C.uO t _ (ho.2.2.1 _ _ hq.1 hq.2).2.1⟩
      ·cases hz
     | ptr m g o n c =>
      simp only [C.ay,C.step] at hz ⊢
      split at hz
      ·rename_i hq
       injection hz with hz
       rw [if_pos hq]
       exact ⟨_,rfl,hz⟩
      ·cases hz
     | agg n c =>
      simp only [C.ay,C.step] at hz ⊢
      split at hz
      ·rename_i hq
       injection hz with hz
       rw [if_pos hq]
       exact ⟨_,rfl,hz⟩
      ·cases hz
     | au n c =>
      simp only [C.ay,C.step] at hz ⊢
      split at hz
      ·rename_i hq
       injection hz with hz
       rw [if_pos hq]
       exact ⟨_,rfl,hz⟩
      ·cases hz
     | ref v s q=>rw [C.acJ] at hz; cases hz
     | aA v s q i c=>rw [C.acF] at hz; cases hz
     | cut v s q i c=>rw [C.acG] at hz; cases hz
     | _=>simp [C.ay,C.step] at hz
    cases hz : (c.ay t).step x with
    | none=>rw [hz] at hy; cases hy
    | some z =>
     rw [hz] at hy
     obtain ⟨z',eH,e⟩:=hstep z hz
     rw [eH] at hc
     subst e
     exact ih z' (C.sy eH ho) hy hc
end M
namespace M
open Go Go.RowKit
variable [Bs]
variable {w : World} {zl zb : Nat→Nat→Prop} {G : Nat→C} {s : ah}
structure vM (w : World) (zl zb : Nat→Nat→Prop) (G : Nat→C) (c : C) : Prop where
 cell : c.cell
 ok : c.ok w (Zf zl zb)
 cz : ∀ b k,¬ c.fp b k
 weak : ∀ v r p,c = .ref v r p→weak G v r p
structure bx (w : World) (zl zb : Nat→Nat→Prop) (G : Nat→C) (l' : List C) (G' : Nat→C) (s' : ah) : Prop where
 inv : Inv w zl zb G' s'
 all : ∀ c∈l',c.ok w (Zf zl zb)∧(∀ t b k,c.fp b k→¬ (G' t).fp b k)∧(∀ b k,c.fp b k→¬ zl b k∧¬ zb b k)∧∀ b k,c.fp b k→∃ t,(G t).fp b k
 apart : l'.Pairwise fun a b=>∀ x k,a.fp x k→¬ b.fp x k
 val : ∀ t,(G' t).val = (G t).val
 mono : ∀ t b k,(G' t).fp b k→(G t).fp b k
theorem bx.cons {c : C} {G1 G' : Nat→C} {s1 s' : ah} {l' : List C} (h : ey w zl zb G c G1 s1) (hl : bx w zl zb G1 l' G' s') : bx w zl zb G (c :: l') G' s' where
 inv:=hl.inv
 all:=fun x hx=>by
  rcases List.mem_cons.1 hx with rfl | hx
  ·exact ⟨h.ok,fun t b k hf hf'=>h.sep t b k hf (hl.mono t b k hf'),h.fz,h.dom⟩
  ·obtain ⟨a1,a2,a3,a4⟩:=hl.all x hx
   exact ⟨a1,a2,a3,fun b k hf=>by obtain ⟨t,ht⟩:=a4 b k hf; exact ⟨t,h.mono t b k ht⟩⟩
 apart:=List.pairwise_cons.2 ⟨fun x hx b k hf hf'=>by
  obtain ⟨t,ht⟩:=(hl.all x hx).2.2.2 b k hf'
  exact h.sep t b k hf ht,hl.apart⟩
 val:=fun t=>(hl.val t).trans (h.val t)
 mono:=fun t b k hf=>h.mono t b k (hl.mono t b k hf)
theorem bx.nil (h : Inv w zl zb G s) : bx w zl zb G [] G s:=⟨h,fun _ hx=>(by cases hx),List.Pairwise.nil,fun _=>rfl,fun _ _ _ hf=>hf⟩
theorem val_one {c : C} (h : c.cell) : c.val.oneCell' = true:=Inv.oK h
theorem Ab : ∀ (l : List C) (G : Nat→C) (s : ah),Inv w zl zb G s→(∀ c∈l,vM w zl zb G c) →
  ∃ l' G',l'.map C.er = (bK (l.map C.er) s).1∧l'.map C.val = l.map C.val∧(∀ c∈l',c.plain)∧bx w zl zb G l' G' (bK (l.map C.er) s).2∧∀ v' r' p',weak G v' r' p'→weak G' v' r' p'
 | [],G,s,h,hc=>⟨[],G,rfl,rfl,fun _ hx=>(by cases hx),bx.nil h,fun _ _ _ hh=>hh⟩
 | c :: l,G,s,h,hc=>by
  have h0:=hc c (List.mem_cons_self ..)
  have hl0 : ∀ x∈l,vM w zl zb G x:=fun x hx=>hc x (List.mem_cons_of_mem _ hx)
  have iw : ∀ d : C,d.plain→d.val = c.val→d.er = (bK (c.er :: l.map C.er) s).1.headD .dead→(bK (c.er :: l.map C.er) s).2 = (bK (l.map C.er) s).2→(bK (c.er :: l.map C.er) s).1.tail = (bK (l.map C.er) s).1→(bK (c.er :: l.map C.er) s).1≠[]→d.ok w (Zf zl zb)→(∀ b k,¬ d.fp b k) →
    ∃ l' G',l'.map C.er = (bK ((c :: l).map C.er) s).1∧l'.map C.val = (c :: l).map C.val∧(∀ c∈l',c.plain)∧bx w zl zb G l' G' (bK ((c :: l).map C.er) s).2∧∀ v' r' p',weak G v' r' p'→weak G' v' r' p':=by
   intro d hp hv he h2 h3 h4 ho hn
   obtain ⟨l',G',e1,e2,e3,e4,e5⟩:=Ab l G s h hl0
   refine ⟨d :: l',G',?_,?_,?_,?_,e5⟩
   ·simp only [List.map_cons]
    rw [he,e1,← h3]
    cases hh : (bK (c.er :: l.map C.er) s).1 with
    | nil=>exact (h4 hh).elim
    | cons a t=>rfl
   ·simp only [List.map_cons,hv,e2]
   ·intro x hx
    rcases List.mem_cons.1 hx with rfl | hx
    ·exact hp
    ·exact e3 x hx
   ·simp only [List.map_cons]
    rw [h2]
    exact bx.cons (ey.self h ho (C.mI hp G) hn) e4
  have dead : ∀ v,v = c.val→C.plain (.dead v):=fun v hv=>by subst hv; exact val_one h0.cell
  cases c with
  | ref v r p =>
   obtain ⟨c',G1,f1,f2,f3,f4,f5⟩:=Oj h (h0.weak v r p rfl) h0.cell
   obtain ⟨l',G',e1,e2,e3,e4,e5⟩:=Ab l G1 (move r p s).2 f4.inv (fun x hx=>by
    obtain ⟨a1,a2,a3,a4⟩:=hl0 x hx
    exact ⟨a1,a2,a3,fun v' r' p' e=>f5 _ _ _ (a4 v' r' p' e)⟩)
   refine ⟨c' :: l',G',?_,?_,?_,bx.cons f4 e4,fun _ _ _ hh=>e5 _ _ _ (f5 _ _ _ hh)⟩
   ·simp only [List.map_cons,C.er,bK]; rw [f1,e1]
   ·simp only [List.map_cons,f2,e2]; rfl
   ·intro x hx
    rcases List.mem_cons.1 hx with rfl | hx
    ·exact f3
    ·exact e3 x hx
  | aA v r p i k=>exact iw (.dead v) (dead v rfl) rfl rfl rfl rfl (by simp [bK,C.er]) trivial (fun _ _ h=>h)
  | cut v r p i k=>exact iw (.dead v) (dead v rfl) rfl rfl rfl rfl (by simp [bK,C.er]) trivial (fun _ _ h=>h)
  | fn f n g=>exact iw (.dead _) (dead _ rfl) rfl rfl rfl rfl (by simp [bK,C.er]) trivial (fun _ _ h=>h)
  | ptr m g o n f=>exact iw (.dead _) (dead _ rfl) rfl rfl rfl rfl (by simp [bK,C.er]) trivial (fun _ _ h=>h)
  | agg n f=>exact h0.cell.elim
  | au n f=>exact h0.cell.elim
  | dead v=>exact iw (.dead v) (dead v rfl) rfl rfl rfl rfl (by simp [bK,C.er]) trivial (fun _ _ h=>h)
  | int k n=>exact iw (.int k n) trivial rfl rfl rfl rfl (by simp [bK,C.er]) trivial (fun _ _ h=>h)
  | bool b=>exact iw (.bool b) trivial rfl rfl rfl rfl (by simp [bK,C.er]) trivial (fun _ _ h=>h)
  | str t=>exact iw (.str t) trivial rfl rfl rfl rfl (by simp [bK,C.er]) h0.ok (fun _ _ h=>h)
  | row m sz A len cap e=>exact iw (.row m sz A len cap e) trivial rfl rfl rfl rfl (by simp [bK,C.er]) h0.ok h0.cz
def fL (l : List C) : C:=.agg l.length fun j=>l.getD j (.dead undef)
theorem kI {α β : Type} (l : List α) (d : α) (f : α→β) : ((List.range l.length).map fun j=>f (l.getD j d)) = l.map f:=by
 apply List.ext_getElem?
 intro i
 rw [C.cD,List.getElem?_map]
 by_cases h : i < l.length
 ·rw [if_pos h,List.getElem?_eq_getElem h]
  simp [List.getD_eq_getElem?_getD,List.getElem?_eq_getElem h]
 ·rw [if_neg h,List.getElem?_eq_none (by omega)]; rfl
theorem sI (l : List C) : (fL l).er = .agg (l.map C.er):=by simp only [fL,C.er,kI]
theorem vN (l : List C) : (fL l).val = .agg (l.map C.val).toArray:=by simp only [fL,C.val,kI]
theorem cv {α : Type} {l : List α} {j : Nat} (h : j < l.length) (d : α) : l.getD j d∈l:=by
 rw [List.getD_eq_getElem?_getD,List.getElem?_eq_getElem h]
 exact List.getElem_mem h
theorem uR {l : List C} (h : l.Pairwise fun a b=>∀ x k,a.fp x k→¬ b.fp x k) (d : C) {i j : Nat} (hi : i < l.length) (hj : j < l.length) (hne : i≠j) {b k : Nat} (hf : (l.getD i d).fp b k) : ¬ (l.getD j d).fp b k:=by
 rw [List.getD_eq_getElem?_getD,List.getElem?_eq_getElem hi] at hf
 rw [List.getD_eq_getElem?_getD,List.getElem?_eq_getElem hj]
 rcases Nat.lt_or_gt_of_ne hne with hlt | hlt
 ·exact List.pairwise_iff_getElem.1 h i j hi hj hlt b k hf
 ·exact fun hf'=>List.pairwise_iff_getElem.1 h j i hj hi hlt b k hf' hf
theorem oB (l : List C) (b k : Nat) : (fL l).fp b k↔∃ c∈l,c.fp b k:=by
 constructor
 ·rintro ⟨j,hj,hf⟩
  exact ⟨_,cv hj _,hf⟩
 ·rintro ⟨c,hc,hf⟩
  obtain ⟨j,hj,rfl⟩:=List.getElem_of_mem hc
  refine ⟨j,hj,?_⟩
  show (l.getD j (C.dead undef)).fp b k
  rw [List.getD_eq_getElem?_getD,List.getElem?_eq_getElem hj]
  exact hf
def C.flat (c : C) : Prop:=c.plain∨∃ l : List C,c = fL l∧∀ x∈l,x.plain
structure dG (w : World) (zl zb : Nat→Nat→Prop) (G : Nat→C) (c : C) : Prop where
 ok : c.ok w (Zf zl zb)
 rf : c.rf G
 cz : ∀ b k,¬ c.fp b k
theorem I2 {v : Value} {r : Nat} {p : Path} (h : (C.ref v r p).rf G) : v.oneCell' = true:=by
 obtain ⟨y,z,hs,hF,hv,m,sz,A,len,cap,e,rfl⟩:=h
 cases hF
 rw [← hv]
 rfl
theorem LV {Z : Md→Nat→Nat→Prop} {sz : Nat} {A A' : Option Ad} {len cap lo hi cap' : Nat} {e : Nat→Nat→C} (h : (C.row .own sz A len cap e).ok w Z) (hlo : lo≤hi) (hhi : hi≤len) (hcap : hi - lo≤cap')
  (hc : lo + cap' = cap) (hA : (A' = A∧cap' = 0)∨A' = A.map fun q=>iA (lo * sz) q) :
  (C.row .own sz A' (hi - lo) cap' fun i j=>e (i + lo) j).ok w Z∧(∀ b k,(C.row .own sz A' (hi - lo) cap' fun i j=>e (i + lo) j).fp b k→(C.row .own sz A len cap e).fp b k) ∧
   (C.row .own sz A' (hi - lo) cap' fun i j=>e (i + lo) j).er = .row .own sz ((((List.range len).map fun i=>(List.range sz).map fun j=>(e i j).er).take hi).drop lo):=by
 obtain ⟨h1,h2,h3,h4,h5⟩:=h
 have hb : ∀ b o,A' = some (b,o,none)→∃ o',A = some (b,o',none):=fun b o ho=>by
  rcases hA with ⟨hA,_⟩ | hA
  ·exact ⟨o,by rw [← hA,ho]⟩
  ·cases A with
   | none=>rw [hA] at ho; cases ho
   | some q =>
    rcases h4 rfl with ⟨q1,_⟩ | ⟨g,o',_,_,_,q1,_⟩
    ·cases q1
    ·rw [hA,q1,Option.map_some,mX] at ho
     injection ho with ho
     injection ho with ho _
     exact ⟨o',by rw [q1,ho]⟩
 have hlt : hi - lo≠0→A' = A.map fun q=>iA (lo * sz) q:=fun hne=>hA.elim (fun ⟨_,h0⟩=>(by omega)) id
 refine ⟨⟨hcap,fun i j hi' hj=>?_,fun i j hi' hj=>h3 (i + lo) j (by omega) hj,fun _=>?_,fun i j hi' hj b k hf=>?_⟩,fun b k hf=>?_,?_⟩
 ·obtain ⟨g,o,q1,q2,q3⟩:=h2 (i + lo) j (by omega) hj
  refine ⟨g,o + lo * sz,by rw [hlt (by omega),q1,Option.map_some,mX],?_,fun hm=>(hm rfl).elim⟩
  rw [show o + lo * sz + i * sz + j = o + (i + lo) * sz + j by rw [Nat.add_mul]; omega]
  exact q2
 ·rcases h4 rfl with ⟨q1,q2⟩ | ⟨g,o,arr,t,fz,q1,q2,q3,q4⟩
  ·refine .inl ⟨?_,by omega⟩
   rcases hA with ⟨hA,_⟩ | hA <;> rw [hA,q1]
   rfl
  ·refine .inr ?_
   rcases hA with ⟨hA,h0⟩ | hA
   ·exact ⟨g,o,arr,t,fz,by rw [hA,q1],q2,by rw [h0]; omega,fun k hk1 hk2=>by rw [h0] at hk2; omega⟩
   ·have hm : lo * sz + cap' * sz = cap * sz:=by rw [← Nat.add_mul,hc]
    exact ⟨g,o + lo * sz,arr,t,fz,by rw [hA,q1,Option.map_some,mX],q2,by omega,fun k hk1 hk2=>q4 k (by omega) (by omega)⟩
 ·obtain ⟨a1,a2⟩:=h5 (i + lo) j (by omega) hj b k hf
  refine ⟨fun _ o ho=>?_,fun i' j' hi2 hj2 hne=>a2 (i' + lo) j' (by omega) hj2 (fun e=>hne ?_)⟩
  ·obtain ⟨o',ho'⟩:=hb b o ho
   exact a1 rfl o' ho'
  ·injection e with e1 e2
   rw [e2,show i = i' by omega]
 ·obtain ⟨_,⟨o,ho⟩ | ⟨i,j,hi',hj,hf⟩⟩:=hf
  ·obtain ⟨o',ho'⟩:=hb b o ho
   exact ⟨rfl,.inl ⟨o',ho'⟩⟩
  ·exact ⟨rfl,.inr ⟨i + lo,j,by omega,hj,hf⟩⟩
 ·simp only [C.er,← List.map_take,← List.map_drop,List.take_range]
  rw [Nat.min_eq_left hhi]
  congr 1
  apply List.ext_getElem?
  intro i
  rw [C.cD,List.getElem?_map,List.getElem?_drop]
  by_cases hh : i < hi - lo
  ·rw [if_pos hh,List.getElem?_range (by omega),Nat.add_comm]
   rfl
  ·rw [if_neg hh,List.getElem?_eq_none (by simp; omega)]
   rfl
theorem acf (h : Inv w zl zb G s) {v : Value} {r : Nat} {p : Path} {lo hi : Nat} (hr : (C.cut v r p lo hi).rf G) :
  ∃ c G',c.er = (yJ r p lo hi s).1∧c.val = v∧((C.cut v r p lo hi).cell→c.cell)∧ey w zl zb G c G' (yJ r p lo hi s).2:=by
 have hr':=hr
 obtain ⟨m,sz,A,len,cap,e,A',cap',hs,hv,hlo,hhi,hcap,jq,hc,Z2⟩:=hr
 unfold yJ look
 rw [← h.er,C.fI,hs]
 cases m with
 | own =>
  obtain ⟨c,G',c1,c2,c3,c4,c5,c6,c7,c8,c9,Fq,Fs,c12⟩:=h.sA r p _ hs
  obtain rfl:=c7 trivial
  obtain ⟨i1,i2,i3⟩:=LV c4 hlo hhi hcap hc Z2
  refine ⟨.row .own sz A' (hi - lo) cap' fun i j=>e (i + lo) j,G',i3,?_,fun _=>trivial,⟨c3,i1,trivial,fun t b k hf=>c8 t b k (i2 b k hf),fun b k hf=>h.fz r b k (c9 b k (i2 b k hf)),Fq,fun b k hf=>⟨r,c9 b k (i2 b k hf)⟩,Fs⟩⟩
  rw [hv]; rfl
 | sl=>exact ⟨.cut v r p lo hi,G,rfl,rfl,fun hh=>hh,ey.self h trivial hr' fun _ _ hh=>hh⟩
 | af=>exact ⟨.cut v r p lo hi,G,rfl,rfl,fun hh=>hh,ey.self h trivial hr' fun _ _ hh=>hh⟩
theorem ace (h : Inv w zl zb G s) {v : Value} {r : Nat} {p : Path} {i j : Nat} (hr : (C.aA v r p i j).rf G) :
  ∃ c G',c.er = (Dt r p i j s).1∧c.val = v∧((C.aA v r p i j).cell→c.cell)∧ey w zl zb G c G' (Dt r p i j s).2:=by
 have same : ∃ c G',c.er = X.aA r p i j∧c.val = v∧((C.aA v r p i j).cell→c.cell)∧ey w zl zb G c G' s:=⟨.aA v r p i j,G,rfl,rfl,fun hh=>hh,ey.self h trivial hr fun _ _ hh=>hh⟩
 obtain ⟨y,hs,hy⟩:=hr
 unfold Dt look
 rw [← h.er,C.fI,hs]
 rcases hy with ⟨m,sz,g,o,len,cap,e,rfl,hv⟩ | ⟨m,g,o,n,cc,rfl,hi,hv⟩
 ·exact same
 ·cases m with
  | own =>
   show ∃ c G',c.er = (bif i == 0 && j == 0 then _ else _ : X×ah).1∧_∧_∧ey w zl zb G c G' (bif i == 0 && j == 0 then _ else _ : X×ah).2
   cases hij : (i == 0 && j == 0) with
   | false=>exact same
   | true =>
    simp only [Bool.and_eq_true,beq_iff_eq] at hij
    obtain ⟨rfl,rfl⟩:=hij
    obtain ⟨c,G',c1,c2,c3,c4,c5,c6,c7,c8,c9,Fq,Fs,c12⟩:=h.sA r p _ hs
    exact ⟨c,G',c1,by rw [c2,hv]; rfl,fun _=>c6.2 trivial,⟨c3,c4,c5,c8,fun b k hf=>h.fz r b k (c9 b k hf),Fq,fun b k hf=>⟨r,c9 b k hf⟩,Fs⟩⟩
  | sl=>exact same
  | af=>exact same
theorem oo (tk : Tk) (h : Inv w zl zb G s) {c0 : C} (ho : dG w zl zb G c0) :
  ∃ c G',c.er = (take tk c0.er s).1∧c.val = c0.val∧(c0.cell→c.cell)∧ey w zl zb G c G' (take tk c0.er s).2:=by
 have same : (take tk c0.er s) = (c0.er,s)→∃ c G',c.er = (take tk c0.er s).1∧c.val = c0.val∧(c0.cell→c.cell)∧ey w zl zb G c G' (take tk c0.er s).2:=fun e=>by
  rw [e]
  exact ⟨c0,G,rfl,rfl,fun h=>h,ey.self h ho.ok ho.rf ho.cz⟩
 cases c0 with
 | ref v r p =>
  have qY : ∃ c G',c.er = (move r p s).1∧c.val = v∧((C.ref v r p).cell→c.cell)∧ey w zl zb G c G' (move r p s).2:=by
   obtain ⟨c',G1,f1,f2,f3,f4,f5⟩:=Oj h (Ah ho.rf) (I2 ho.rf)
   exact ⟨c',G1,f1,f2,fun _=>C.jX f3,f4⟩
  cases tk with
  | mv=>exact qY
  | al=>exact same rfl
  | aO=>cases p with
   | nil=>exact qY
   | cons q p=>exact same rfl
 | cut v r p lo hi =>
  have qY:=acf h ho.rf
  cases tk with
  | mv=>exact qY
  | al=>exact same rfl
  | aO=>cases p with
   | nil=>exact qY
   | cons q p=>exact same rfl
 | aA v r p i j =>
  cases tk with
  | mv=>exact ace h ho.rf
  | al=>exact same rfl
  | aO=>exact same rfl
 | agg n f =>
  cases tk with
  | mv =>
   have hcells : ∀ c∈(List.range n).map f,vM w zl zb G c:=fun c hc=>by
    obtain ⟨j,hj,rfl⟩:=List.mem_map.1 hc
    have hj' : j < n:=by simpa using hj
    exact ⟨(ho.ok.1 j hj').1,(ho.ok.1 j hj').2,fun b k hf=>ho.cz b k ⟨j,hj',hf⟩,fun v r p e=>Ah (by rw [← e]; exact ho.rf j hj')⟩
   obtain ⟨l',G',e1,e2,e3,e4,e5⟩:=Ab _ G s h hcells
   have er : (C.agg n f).er = .agg (((List.range n).map f).map C.er):=by simp only [C.er,List.map_map]; rfl
   rw [er]
   show ∃ c G',c.er = X.agg (bK _ s).1∧_∧_∧ey w zl zb G c G' (bK _ s).2
   refine ⟨fL l',G',by rw [sI,e1],?_,fun hc=>hc.elim,⟨e4.inv,⟨fun j hj=>⟨C.jX (e3 _ (cv hj _)),(e4.all _ (cv hj _)).1⟩,fun j hj b k hf j' hj' hne=>uR e4.apart _ hj hj' hne hf⟩,fun j hj=>C.mI (e3 _ (cv hj _)) _,?_,?_,e4.val,?_,e4.mono⟩⟩
   ·rw [vN,e2]; simp only [C.val,List.map_map]; rfl
   ·intro t b k hf hf'
    obtain ⟨c,hc,hf⟩:=(oB _ _ _).1 hf
    exact (e4.all c hc).2.1 t b k hf hf'
   ·intro b k hf
    obtain ⟨c,hc,hf⟩:=(oB _ _ _).1 hf
    exact (e4.all c hc).2.2.1 b k hf
   ·intro b k hf
    obtain ⟨c,hc,hf⟩:=(oB _ _ _).1 hf
    exact (e4.all c hc).2.2.2 b k hf
  | al=>exact same rfl
  | aO=>exact same rfl
 | _=>exact same (by cases tk <;> rfl)
theorem OI {c : Ctx} {zl : Nat→Nat→Prop} {a : Act} (h : St c G zl s a w) (n : Nat) : ((G n).alias n []).er = ax s (.t n)∧((G n).alias n []).val = (G n).val∧dG w zl c.zb G ((G n).alias n []):=by
 obtain ⟨a1,a2,a3⟩:=C.KB n (G n) rfl (h.inv.ok n) (h.inv.rf n)
 refine ⟨?_,C.KD _ _ _,⟨a1,a2,a3⟩⟩
 rw [C.KC,h.inv.er]
 rfl
end M
namespace M
open Go Go.RowKit
variable [Bs]
namespace C
variable {w : World} {Z : Md→Nat→Nat→Prop}
def nW : C→Prop
 | .row m _ _ _ _ _=>m = .own
 | .ptr m _ _ _ _=>m = .own
 | .agg _ _=>True
 | .au _ _=>True
 | _=>False
theorem acL {d0 y : C} {q : Nat×Nat} {v : Value} (h : d0.ok w Z) (hq : d0.step q = some (.dead v)) (ho : d0.nW) (hp : y.plain) (hv : y.val = v) (hy : y.ok w Z) (hsep : ∀ b k,y.fp b k→¬ d0.fp b k) :
  (d0.aU q y).ok w Z∧∀ b k,(d0.aU q y).fp b k→d0.fp b k∨y.fp b k:=by
 have hc:=jX hp
 have hs:=yW hp
 have hnt : y.ff:=by cases y <;> first | trivial | exact hp.elim
 have agg : ∀ (n : Nat) (f : Nat→C) (pr : C→Prop),(∀ j,j < n→pr (f j)∧(f j).ok w Z)→pr y→(∀ j,j < n→∀ b k,(f j).fp b k→∀ j',j' < n→j≠j'→¬ (f j').fp b k)→(∀ b k,y.fp b k→¬ ∃ j,j < n∧(f j).fp b k) →
   ((∀ j,j < n→pr (bN f q.2 y j)∧(bN f q.2 y j).ok w Z)∧(∀ j,j < n→∀ b k,(bN f q.2 y j).fp b k→∀ j',j' < n→j≠j'→¬ (bN f q.2 y j').fp b k))∧∀ b k,(∃ j,j < n∧(bN f q.2 y j).fp b k)→(∃ j,j < n∧(f j).fp b k)∨y.fp b k:=by
  intro n f pr h1 hpy h2 h3
  refine ⟨⟨fun j hj=>?_,fun j hj b k hf j' hj' hne=>?_⟩,fun b k ⟨j,hj,hf⟩=>?_⟩
  ·unfold bN; split
   ·exact ⟨hpy,hy⟩
   ·exact h1 j hj
  ·unfold bN at hf ⊢
   split at hf
   ·rename_i e
    rw [if_neg (fun e'=>hne (e.trans e'.symm))]
    exact fun hf'=>h3 b k hf ⟨j',hj',hf'⟩
   ·split
    ·exact fun hf'=>h3 b k hf' ⟨j,hj,hf⟩
    ·exact h2 j hj b k hf j' hj' hne
  ·unfold bN at hf
   split at hf
   ·exact .inr hf
   ·exact .inl ⟨j,hj,hf⟩
 have aic : ∀ (n : Nat) (f : Nat→C) (j : Nat),q.2 < n→f q.2 = .dead v→(bN f q.2 y j).val = (f j).val:=by
  intro n f j _ hf
  unfold bN; split
  ·rename_i e; rw [e,hf,hv]; rfl
  ·rfl
 cases d0 with
 | row m sz A len cap e =>
  obtain rfl : m = .own:=ho
  simp only [step] at hq
  split at hq
  ·rename_i hlt
   injection hq with hq
   obtain ⟨h1,h2,h3,h4,h5⟩:=h
   have ju : ∀ i j,i < len→j < sz→∀ b k,(e i j).fp b k→(C.row .own sz A len cap e).fp b k:=fun i j hi hj b k hf=>⟨rfl,.inr ⟨i,j,hi,hj,hf⟩⟩
   refine ⟨⟨h1,fun i j hi hj=>?_,fun i j hi hj=>?_,h4,fun i j hi hj b k hf=>?_⟩,fun b k hf=>?_⟩
   ·obtain ⟨g,o,a1,a2,a3⟩:=h2 i j hi hj
    refine ⟨g,o,a1,?_,a3⟩
    rw [a2]
    show _ = some (if i = q.1∧j = q.2 then y else e i j).val
    split
    ·rename_i hh; rw [hh.1,hh.2,hq,hv]; rfl
    ·rfl
   ·show (if i = q.1∧j = q.2 then y else e i j).cell∧(if i = q.1∧j = q.2 then y else e i j).cA∧(if i = q.1∧j = q.2 then y else e i j).fits .own∧(if i = q.1∧j = q.2 then y else e i j).ok w Z
    split
    ·exact ⟨hc,hs,by cases y <;> first | trivial | exact .inl rfl,hy⟩
    ·exact h3 i j hi hj
   ·have hf : (if i = q.1∧j = q.2 then y else e i j).fp b k:=hf
    refine ⟨fun hm o hA=>?_,fun i' j' hi' hj' hne hf'=>?_⟩
    ·split at hf
     ·exact hsep b k hf ⟨rfl,.inl ⟨o,hA⟩⟩
     ·exact (h5 i j hi hj b k hf).1 hm o hA
    ·have hf' : (if i' = q.1∧j' = q.2 then y else e i' j').fp b k:=hf'
     split at hf
     ·rename_i e1
      split at hf'
      ·rename_i e2
       exact hne (by rw [e1.1,e1.2,e2.1,e2.2])
      ·exact hsep b k hf (ju i' j' hi' hj' b k hf')
     ·split at hf'
      ·exact hsep b k hf' (ju i j hi hj b k hf)
      ·exact (h5 i j hi hj b k hf).2 i' j' hi' hj' hne hf'
   ·obtain ⟨hm,hA | ⟨i,j,hi,hj,hf⟩⟩:=hf
    ·exact .inl ⟨rfl,.inl hA⟩
    ·have hf : (if i = q.1∧j = q.2 then y else e i j).fp b k:=hf
     split at hf
     ·exact .inr hf
     ·exact .inl (ju i j hi hj b k hf)
  ·cases hq
 | ptr m g o n f =>
  obtain rfl : m = .own:=ho
  simp only [step] at hq
  split at hq
  ·rename_i hlt
   injection hq with hq
   obtain ⟨h1,h2,h3,h4⟩:=h
   obtain ⟨⟨a1,a2⟩,a3⟩:=agg n f (fun c=>c.cell∧c.fits .own) (fun j hj=>⟨⟨(h3 j hj).1,(h3 j hj).2.1⟩,(h3 j hj).2.2⟩) ⟨hc,by cases y <;> first | trivial | exact .inl rfl⟩ (fun j hj b k hf j' hj' hne=>(h4 j hj b k hf).2 j' hj' hne) (fun b k hf ⟨j,hj,hf'⟩=>hsep b k hf ⟨rfl,.inr ⟨j,hj,hf'⟩⟩)
   refine ⟨⟨fun j hj=>?_,h2,fun j hj=>⟨(a1 j hj).1.1,(a1 j hj).1.2,(a1 j hj).2⟩,fun j hj b k hf=>⟨fun hm hh=>?_,fun j' hj' hne=>a2 j hj b k hf j' hj' hne⟩⟩,fun b k hf=>?_⟩
   ·rw [aic n f j hlt.2 hq]
    exact h1 j hj
   ·have hf : (bN f q.2 y j).fp b k:=hf
    unfold bN at hf
    split at hf
    ·exact hsep b k hf ⟨rfl,.inl hh⟩
    ·exact (h4 j hj b k hf).1 hm hh
   ·obtain ⟨_,hh | hh⟩:=hf
    ·exact .inl ⟨rfl,.inl hh⟩
    ·exact (a3 b k hh).imp (fun hh=>⟨rfl,.inr hh⟩) id
  ·cases hq
 | agg n f =>
  obtain ⟨a1,a2⟩:=agg n f C.cell h.1 hc h.2 hsep
  exact ⟨a1,a2⟩
 | au n f =>
  obtain ⟨a1,a2⟩:=agg n f C.ff h.1 hnt h.2 hsep
  exact ⟨a1,a2⟩
 | _=>exact ho.elim
end C
namespace Inv
variable {w : World} {zl zb : Nat→Nat→Prop} {G : Nat→C} {s : ah}
theorem wh {r : Nat} {P : Path} {v : Value} (hd : (G r).sub P = some (.dead v)) : ∀ c : C,c.rf G→c.free (C.bA r P)
 | .ref v' r' q,hr=>by
  obtain ⟨y,z,hs,hF,_⟩:=hr
  exact out hs (by cases hF <;> rfl)
 | .aA v' r' q i c,hr=>by
  obtain ⟨y,hs,hy⟩:=hr
  exact out hs (by rcases hy with ⟨m,sz,g,o,len,cap,e,rfl,hv⟩ | ⟨m,g,o,n,cc,rfl,hi,hv⟩ <;> rfl)
 | .cut v' r' q lo hi,hr=>by
  obtain ⟨m,sz,A,len,cap,e,A',cap',hs,_⟩:=hr
  exact out hs rfl
 | .ptr m g o n c,hr=>fun j hj=>wh hd (c j) (hr j hj)
 | .agg n c,hr=>fun j hj=>wh hd (c j) (hr j hj)
 | .au n c,hr=>fun j hj=>wh hd (c j) (hr j hj)
 | .fn f n c,hr=>fun j hj=>wh hd (c j) (hr j hj)
 | .dead _,_=>trivial
 | .int _ _,_=>trivial
 | .bool _,_=>trivial
 | .str _,_=>trivial
 | .row _ _ _ _ _ _,_=>trivial
where
 out {r' : Nat} {q : Path} {y : C} (hs : (G r').sub q = some y) (hy : y.er.gL = true) : C.bA r P r' q = false:=by
  unfold C.bA
  cases h1 : (r' == r) with
  | false=>rfl
  | true =>
   cases h2 : X.pfx P q with
   | false=>rfl
   | true =>
    exfalso
    have h1 : r' = r:=by simpa using h1
    subst h1
    obtain ⟨t,rfl⟩:=II P q h2
    rw [C.ED P t hd] at hs
    cases t with
    | nil=>simp only [C.sub] at hs; injection hs with hs; subst hs; simp [C.er,X.gL] at hy
    | cons x t=>simp [C.sub,C.step] at hs
theorem ZV (h : Inv w zl zb G s) {r : Nat} {p0 : Path} {q : Nat×Nat} {d0 y : C} {v : Value} (h0 : (G r).sub p0 = some d0) (hq : d0.step q = some (.dead v)) (ho : d0.nW) (hp : y.plain) (hv : y.val = v) (hok : y.ok w (Zf zl zb))
  (hsep : ∀ t b k,y.fp b k→¬ (G t).fp b k) (hfz : ∀ b k,y.fp b k→¬ zl b k∧¬ zb b k) :
  ∃ G',G' = eN G r (C.putAt p0 (G r) (d0.aU q y))∧Inv w zl zb G' ((r,X.putAt (p0 ++ [q]) (get s r) y.er) :: s)∧(∀ t,(G' t).val = (G t).val)∧∀ t b k,(G' t).fp b k→(G t).fp b k∨y.fp b k:=by
 have hd0:=C.gd p0 h0 (h.ok r)
 have hin : ∀ b k,d0.fp b k→(G r).fp b k:=fun b k hf=>C.fJ p0 h0 (h.ok r) hf
 obtain ⟨a1,a2⟩:=C.acL hd0 hq ho hp hv hok (fun b k hf hf'=>hsep r b k hf (hin b k hf'))
 have BE : (G r).sub (p0 ++ [q]) = some (.dead v):=C.qm p0 h0 hq
 obtain ⟨⟨i1,i2,i3⟩,_⟩:=h.Ey r p0 (p0 ++ [q]) d0 (d0.aU q y) y (S:=fun _ _=>False) (C.yY p0 h0 hq) (fun t=>wh BE (G t) (h.rf t)) (Ext.refl _ _) h0 (fun _ _ hf=>hf.elim) a1 (C.gi.aU d0 q (.dead v) y hq (by rw [hv]; rfl)) (C.mI hp G) (by
  cases y <;> first | trivial | exact hp.elim) (fun b k hf=>(a2 b k hf).imp id fun hf=>⟨fun t=>hsep t b k hf,hfz b k hf⟩)
 refine ⟨_,rfl,i1,i2,fun t b k hf=>?_⟩
 rcases i3 t b k hf with ⟨e,iI⟩ | iI
 ·rw [e]; exact (a2 b k iI).imp (hin b k) id
 ·exact .inl iI
end Inv
end M
namespace M
open Go Go.RowKit
variable [Bs]
namespace C
theorem Qa : ∀ (P : Path) {c d y : C},c.sub P = some d→y.val = d.val→(putAt P c y).val = c.val
 | [],c,d,y,h,hv=>by simp only [sub] at h; injection h with h; subst h; exact hv
 | x :: P,c,d,y,h,hv=>by
  simp only [sub] at h
  cases hst : c.step x with
  | none=>rw [hst] at h; cases h
  | some z =>
   rw [hst] at h
   simp only [putAt,hst]
   exact (gi.aU c x z _ hst (Qa P h hv)).val
theorem aer {c z : C} {x x' : Nat×Nat} (hst : c.step x = some z) (hne : x'≠x) (y : C) : (c.aU x y).step x' = c.step x':=by
 have hu : ∀ f : Nat→C,x'.1 = 0→x.1 = 0→bN f x.2 y x'.2 = f x'.2:=fun f h1 h2=>by
  unfold bN
  rw [if_neg]
  intro e
  apply hne
  cases x; cases x'
  simp_all
 cases c with
 | row m sz A len cap e =>
  simp only [aU,step]
  split
  ·congr 1
   rw [if_neg]
   rintro ⟨e1,e2⟩
   exact hne (Prod.ext e1 e2)
  ·rfl
 | ptr m g o n f =>
  simp only [step] at hst
  split at hst
  ·rename_i h0
   simp only [aU,step]
   split
   ·rename_i hh; rw [hu f hh.1 h0.1]
   ·rfl
  ·cases hst
 | agg n f =>
  simp only [step] at hst
  split at hst
  ·rename_i h0
   simp only [aU,step]
   split
   ·rename_i hh; rw [hu f hh.1 h0.1]
   ·rfl
  ·cases hst
 | au n f =>
  simp only [step] at hst
  split at hst
  ·rename_i h0
   simp only [aU,step]
   split
   ·rename_i hh; rw [hu f hh.1 h0.1]
   ·rfl
  ·cases hst
 | _=>rfl
theorem PJ : ∀ (P q : Path) {c d y z : C},c.sub P = some d→y.val = d.val→X.pfx P q = false→(putAt P c y).sub q = some z→∃ z0,c.sub q = some z0∧z.val = z0.val∧(z0.plain→z.plain)
 | [],q,c,d,y,z,_,_,h,_=>by simp [X.pfx] at h
 | x :: P,q,c,d,y,z,hd,hv,hp,hs=>by
  simp only [sub] at hd
  cases hst : c.step x with
  | none=>rw [hst] at hd; cases hd
  | some c1 =>
   rw [hst] at hd
   have hd' : c1.sub P = some d:=hd
   have hval:=Qa P hd' hv
   cases q with
   | nil =>
    simp only [sub,putAt,hst] at hs
    injection hs with hs
    subst hs
    refine ⟨c,rfl,(gi.aU c x c1 _ hst hval).val,fun hpl=>?_⟩
    cases c <;> first | exact hpl | trivial
   | cons x' q =>
    simp only [sub,putAt,hst] at hs
    by_cases hne : x' = x
    ·subst hne
     rw [PF hst] at hs
     have hp' : X.pfx P q = false:=by simpa [X.pfx] using hp
     obtain ⟨z0,a1,a2⟩:=PJ P q hd' hv hp' hs
     exact ⟨z0,by simp only [sub,hst]; exact a1,a2⟩
    ·rw [aer hst hne] at hs
     exact ⟨z,hs,rfl,fun h=>h⟩
end C
variable {w : World} {zl zb : Nat→Nat→Prop}
theorem ZW {G : Nat→C} {s : ah} (h : Inv w zl zb G s) {r : Nat} {p : Path} (hg : Bt s r p = true) : ∃ p0 q d0 v,p = p0 ++ [q]∧(G r).sub p0 = some d0∧d0.step q = some (.dead v)∧d0.nW:=by
 unfold Bt at hg
 split at hg
 ·rename_i hl
  split at hg
  ·rename_i q hq
   have hp : p = p.dropLast ++ [q]:=by
    have hne : p≠[]:=by intro e; subst e; simp at hq
    rw [List.getLast?_eq_some_getLast hne] at hq
    injection hq with hq
    rw [← hq]
    exact (List.dropLast_concat_getLast hne).symm
   have own : ∀ x,look s r p.dropLast = some x→∃ d0,(G r).sub p.dropLast = some d0∧d0.er = x:=fun x hx=>by
    unfold look at hx
    rw [← h.er,C.fI] at hx
    cases hs : (G r).sub p.dropLast with
    | none=>rw [hs] at hx; cases hx
    | some d0=>rw [hs] at hx; exact ⟨d0,rfl,by simpa using hx⟩
   have fin : ∀ d0,(G r).sub p.dropLast = some d0→d0.nW→∃ p0 q d0 v,p = p0 ++ [q]∧(G r).sub p0 = some d0∧d0.step q = some (.dead v)∧d0.nW:=fun d0 h0 ho=>by
    unfold look at hl
    rw [← h.er,C.fI,hp,C.ED p.dropLast [q] h0] at hl
    have hl' : ((d0.step q).bind fun z=>some z).map C.er = some .dead:=by simpa [C.sub] using hl
    cases hst : d0.step q with
    | none=>rw [hst] at hl'; cases hl'
    | some z =>
     rw [hst] at hl'
     have : z.er = .dead:=by simpa using hl'
     cases z with
     | dead v=>exact ⟨p.dropLast,q,d0,v,hp,h0,hst,ho⟩
     | _=>simp [C.er] at this
   split at hg
   ·rename_i hx
    obtain ⟨d0,a1,a2⟩:=own _ hx
    have : d0.nW:=by
     cases d0 with
     | row m sz A len cap e=>simp only [C.er,X.row.injEq] at a2; exact a2.1
     | _=>simp [C.er] at a2
    exact fin _ a1 this
   ·rename_i hx
    obtain ⟨d0,a1,a2⟩:=own _ hx
    have : d0.nW:=by
     cases d0 with
     | ptr m g o n c=>simp only [C.er,X.ptr.injEq] at a2; exact a2.1
     | _=>simp [C.er] at a2
    exact fin _ a1 this
   ·rename_i hx
    obtain ⟨d0,a1,a2⟩:=own _ hx
    have : d0.nW:=by cases d0 <;> first | trivial | (simp [C.er] at a2)
    exact fin _ a1 this
   ·rename_i hx
    obtain ⟨d0,a1,a2⟩:=own _ hx
    have : d0.nW:=by cases d0 <;> first | trivial | (simp [C.er] at a2)
    exact fin _ a1 this
   ·cases hg
  ·cases hg
 ·cases hg
theorem OL {r : Nat} {p : Path} : ∀ {l : List X},rR r p l = true→∀ r' p',X.ref r' p'∈l→¬ (r' = r∧X.pfx p p' = true)
 | [],_,_,_,hm=>by cases hm
 | x :: l,h,r',p',hm=>by
  rcases List.mem_cons.1 hm with rfl | hm
  ·simp only [rR,Bool.and_eq_true,Bool.not_eq_true',Bool.and_eq_false_iff,beq_eq_false_iff_ne] at h
   rintro ⟨rfl,h2⟩
   rcases h.1 with h1 | h1
   ·exact h1 rfl
   ·rw [h1] at h2; cases h2
  ·refine OL (l:=l) ?_ r' p' hm
   cases x <;> first | exact h | (simp only [rR,Bool.and_eq_true] at h; exact h.2)
theorem AL : ∀ (cs ys : List C) {G : Nat→C} {s s' : ah},Inv w zl zb G s→ys.length = cs.length→(∀ v r p,C.ref v r p∈cs→weak G v r p) →
  (∀ (i : Nat) c y,cs[i]? = some c→ys[i]? = some y→y.plain∧y.val = c.val∧y.ok w (Zf zl zb))→(∀ y∈ys,(∀ t b k,y.fp b k→¬ (G t).fp b k)∧∀ b k,y.fp b k→¬ zl b k∧¬ zb b k) →
  (ys.Pairwise fun a b=>∀ x k,a.fp x k→¬ b.fp x k)→kT (cs.map C.er) (ys.map C.er) s = some s' →
  ∃ G',Inv w zl zb G' s'∧(∀ t,(G' t).val = (G t).val)∧∀ t b k,(G' t).fp b k→(G t).fp b k∨∃ y∈ys,y.fp b k
 | [],ys,G,s,s',h,_,_,_,_,_,hb=>by
  simp only [List.map_nil,kT,Option.some.injEq] at hb
  subst hb
  exact ⟨G,h,fun _=>rfl,fun t b k hf=>.inl hf⟩
 | c :: cs,[],_,_,_,_,hl,_,_,_,_,_=>by simp at hl
 | c :: cs,y :: ys,G,s,s',h,hl,hw,hy,hsep,fT,hb=>by
  have hl' : ys.length = cs.length:=by simpa using hl
  obtain ⟨hp,hv,hok⟩:=hy 0 c y rfl rfl
  have tE:=List.pairwise_cons.1 fT
  have skip : kT (cs.map C.er) (ys.map C.er) s = some s'→∃ G',Inv w zl zb G' s'∧(∀ t,(G' t).val = (G t).val)∧∀ t b k,(G' t).fp b k→(G t).fp b k∨∃ y'∈y :: ys,y'.fp b k:=fun hb=>by
   obtain ⟨G',g1,g2,g3⟩:=AL cs ys h hl' (fun v r p hm=>hw v r p (List.mem_cons_of_mem _ hm)) (fun i c y h1 h2=>hy (i + 1) c y (by simpa using h1) (by simpa using h2)) (fun y hm=>hsep y (List.mem_cons_of_mem _ hm)) tE.2 hb
   exact ⟨G',g1,g2,fun t b k hf=>(g3 t b k hf).imp id fun ⟨y,hm,hf⟩=>⟨y,List.mem_cons_of_mem _ hm,hf⟩⟩
  cases c with
  | ref v r p =>
   simp only [List.map_cons,C.er,kT] at hb
   cases hg : (Bt s r p && rR r p (cs.map C.er)) with
   | false=>rw [hg] at hb; cases hb
   | true =>
    rw [hg,cond_true] at hb
    simp only [Bool.and_eq_true] at hg
    obtain ⟨p0,q,d0,v0,hpq,h0,hq,ho⟩:=ZW h hg.1
    have BE : (G r).sub p = some (.dead v0):=by rw [hpq]; exact C.qm p0 h0 hq
    have hv0 : v0 = v:=(hw v r p (List.mem_cons_self ..) _ BE).1
    have mw : y.val = v0:=by rw [hv,hv0]; rfl
    obtain ⟨G1,e1,i1,i2,i3⟩:=h.ZV h0 hq ho hp mw hok (hsep y (List.mem_cons_self ..)).1 (hsep y (List.mem_cons_self ..)).2
    rw [← hpq] at i1
    have he : C.putAt p0 (G r) (d0.aU q y) = C.putAt p (G r) y:=by rw [hpq,C.yY p0 h0 hq]
    rw [he] at e1
    obtain ⟨G',g1,g2,g3⟩:=AL cs ys i1 hl' (fun v' r' p' hm=>by
     have hold:=hw v' r' p' (List.mem_cons_of_mem _ hm)
     have hno:=OL hg.2 r' p' (by have:=List.mem_map_of_mem (f:=C.er) hm; exact this)
     intro z hz
     rw [e1] at hz
     by_cases er : r' = r
     ·subst er
      rw [cR] at hz
      have hpf : X.pfx p p' = false:=by
       cases hh : X.pfx p p' with
       | false=>rfl
       | true=>exact (hno ⟨rfl,hh⟩).elim
      obtain ⟨z0,a1,a2,a3⟩:=C.PJ p p' BE (by rw [mw]; rfl) hpf hz
      obtain ⟨b1,b2⟩:=hold z0 a1
      exact ⟨a2.trans b1,a3 b2⟩
     ·rw [cI _ _ er] at hz
      exact hold z hz) (fun i c y h1 h2=>hy (i + 1) c y (by simpa using h1) (by simpa using h2)) (fun y' hm=>⟨fun t b k hf hf'=>by
      rcases i3 t b k hf' with hh | hh
      ·exact (hsep y' (List.mem_cons_of_mem _ hm)).1 t b k hf hh
      ·exact tE.1 y' hm b k hh hf,(hsep y' (List.mem_cons_of_mem _ hm)).2⟩) tE.2 hb
    refine ⟨G',g1,fun t=>(g2 t).trans (i2 t),fun t b k hf=>?_⟩
    rcases g3 t b k hf with hh | ⟨y',hm,hh⟩
    ·rcases i3 t b k hh with hh | hh
     ·exact .inl hh
     ·exact .inr ⟨y,List.mem_cons_self ..,hh⟩
    ·exact .inr ⟨y',List.mem_cons_of_mem _ hm,hh⟩
  | _=>exact skip (by simpa only [List.map_cons,C.er,kT] using hb)
end M
namespace M
open Go Go.RowKit
variable [Bs]
theorem acM {v : Value} (h : v.oneCell' = true) : v.cells = #[v]:=by cases v <;> first | rfl | (simp [Value.oneCell'] at h)
namespace St
variable {c : Ctx} {G G1 : Nat→C} {zl : Nat→Nat→Prop} {s s1 : ah} {a : Act} {w w' : World}
theorem move (h : St c G zl s a w) (hi : Inv w' zl c.zb G1 s1) (hv : ∀ t,(G1 t).val = (G t).val) {S : Nat→Nat→Prop} (hE : Ext S w w') (hS : ∀ b k,S b k→c.F0 b k∨c.w0.heap.size≤b)
  (hd : ∀ t b k,(G1 t).fp b k→(∃ u,(G u).fp b k)∨w.heap.size≤b) : St c G1 zl s1 a w' where
 inv:=hi
 val:=fun t ht=>(hv t).trans (h.val t ht)
 size:=h.size
 small:=h.small
 defers:=h.defers
 tr:=⟨h.tr.ext.trans hE (fun b k hs hb=>(hS b k hs).elim id (fun hs=>by omega)),fun t b k hf=>by
  rcases hd t b k hf with ⟨u,hu⟩ | hb
  ·exact h.tr.dom u b k hu
  ·exact .inr (Nat.le_trans h.tr.ext.size hb),h.tr.mV,h.tr.zl,h.tr.gl,h.tr.wC⟩
 args:=fun i v hi=>(hv _).trans (h.args i v hi)
theorem put (h : St c G zl s a w) {x : C} {n : Nat} (hn : n < c.nt) (hok : x.ok w (Zf zl c.zb)) (hsep : ∀ t,t≠n→∀ b k,x.fp b k→¬ (G t).fp b k) (hfz : ∀ b k,x.fp b k→¬ zl b k∧¬ c.zb b k) (hrf : x.rf G)
  (hdom : ∀ b k,x.fp b k→c.F0 b k∨c.w0.heap.size≤b) : ∃ G',St c G' zl (M.put n x.er s) (a.put (some n) x.val) w:=by
 obtain ⟨G',i1,i2,i3,i4,i5⟩:=h.inv.put n x hok hsep hfz hrf
 refine ⟨G',⟨i1,fun t ht=>?_,by simp [Act.put,h.size],h.small,by simpa [Act.put] using h.defers,⟨h.tr.ext,fun t b k hf=>?_,h.tr.mV,h.tr.zl,h.tr.gl,h.tr.wC⟩,fun i v hi=>?_⟩⟩
 ·by_cases e : t = n
  ·subst e
   rw [i2]
   simp only [Act.put,Array.getD_eq_getD_getElem?]
   rw [Array.getElem?_setIfInBounds_self_of_lt (by rw [h.size]; exact hn)]
   rfl
  ·rw [i3 t e,h.val t ht]
   simp only [Act.put,Array.getD_eq_getD_getElem?]
   rw [Array.getElem?_setIfInBounds_ne (fun e'=>e e'.symm)]
 ·by_cases e : t = n
  ·subst e; exact hdom b k (i4 b k hf)
  ·exact h.tr.dom t b k (i5 t e b k hf)
 ·rw [i3 _ (by have:=h.small; omega)]
  exact h.args i v hi
theorem JT (h : St c G zl s a w) {x : C} (hT : ey w zl c.zb G x G1 s1) {n : Nat} (hn : n < c.nt) : ∃ G',St c G' zl (M.put n x.er s1) (a.put (some n) x.val) w:=by
 have h1 : St c G1 zl s1 a w:=h.move hT.inv hT.val (Ext.refl (fun _ _=>False) w) (fun _ _ hs=>hs.elim) (fun t b k hf=>.inl ⟨t,hT.mono t b k hf⟩)
 exact h1.put hn hT.ok (fun t _ b k hf=>hT.sep t b k hf) hT.fz hT.rf (fun b k hf=>by obtain ⟨t,ht⟩:=hT.dom b k hf; exact h.tr.dom t b k ht)
theorem yU (h : St c G zl s a w) {x : C} (ho : dG w zl c.zb G x) {n : Nat} (hn : n < c.nt) : ∃ G',St c G' zl (M.put n x.er s) (a.put (some n) x.val) w :=
 h.JT (ey.self h.inv ho.ok ho.rf ho.cz) hn
theorem flat (h : St c G zl s a w) {x : C} (hp : x.plain) (G7 : ∀ m sz A len cap e,x≠.row m sz A len cap e) (hok : x.ok w (Zf zl c.zb)) {n : Nat} (hn : n < c.nt) : ∃ G',St c G' zl (M.put n x.er s) (a.put (some n) x.val) w :=
 h.yU ⟨hok,C.mI hp G,fun b k hf=>by cases x <;> first | exact hf.elim | exact hp.elim | exact (G7 _ _ _ _ _ _ rfl).elim⟩ hn
end St
def Good (P : Program) (c : Ctx) (o : Oper) (a : Act) (w : World) (K : ah→Prop) : Prop :=
 ∃ v w',((execOp a.eval o).run P w = .ok (.value v) w'∨((execOp a.eval o).run P w = .ok .skip w'∧v = undef))∧∃ G' aD s',K s'∧St c G' aD s' (a.put o.dst v) w'
def cW (P : Program) (c : Ctx) (o : Oper) (a : Act) (w : World) (K : ah→Prop) : Prop :=
 ∃ v,(∀ w',Ext (fun _ _=>False) w w'→(execOp a.eval o).run P w' = .ok (.value v) w')∧∃ G' aD s',K s'∧St c G' aD s' (a.put o.dst v) w
theorem cW.good {P : Program} {c : Ctx} {o : Oper} {a : Act} {w : World} {K : ah→Prop} (h : cW P c o a w K) : Good P c o a w K:=by
 obtain ⟨v,hr,h⟩:=h
 exact ⟨v,w,.inl (hr w (Ext.refl _ _)),h⟩
def Rel (q : Bool) (w w' : World) : Prop:=q = true→Ext (fun _ _=>False) w w'
theorem Rel.refl (q : Bool) (w : World) : Rel q w w:=fun _=>Ext.refl _ _
def iU (P : Program) (c : Ctx) (o : Oper) (a : Act) (w : World) (K : ah→Prop) : Prop :=
 ∃ v w',(execOp a.eval o).run P w = .ok (.value v) w'∧Ext (fun _ _=>False) w w'∧∃ G' aD s',K s'∧St c G' aD s' (a.put o.dst v) w'
theorem iU.good {P : Program} {c : Ctx} {o : Oper} {a : Act} {w : World} {K : ah→Prop} (h : iU P c o a w K) : Good P c o a w K:=by
 obtain ⟨v,w',hr,_,h⟩:=h
 exact ⟨v,w',.inl hr,h⟩
theorem cW.quiet {P : Program} {c : Ctx} {o : Oper} {a : Act} {w : World} {K : ah→Prop} (h : cW P c o a w K) : iU P c o a w K:=by
 obtain ⟨v,hr,h⟩:=h
 exact ⟨v,w,hr w (Ext.refl _ _),Ext.refl _ _,h⟩
def AX : Value→X→Bool
 | .int k n,.int k' n'=>decide (k = k') && decide (n = n')
 | .bool b,.bool b'=>b == b'
 | .string s,.str s'=>decide (s = s') && decide (s.size≤9223372036854775807)
 | .slice none 0 0,.row .own _ []=>true
 | _,_=>false
def aK : Operand→AV→Bool
 | .tmp n,.t n'=>n == n' && decide (n < base)
 | .const v,.k .dead=>true
 | .const v,.k x=>AX v x
 | .func f,.k (.fn f' [])=>f == f'
 | _,_=>false
section
variable {c : Ctx} {G : Nat→C} {zl : Nat→Nat→Prop} {s : ah} {a : Act} {w : World}
theorem LM {v : Value} {x : X} (h : AX v x = true) : ∃ d : C,d.er = x∧d.val = v∧dG w zl c.zb G d∧d.plain:=by
 unfold AX at h
 split at h
 ·simp only [Bool.and_eq_true,decide_eq_true_eq] at h
  obtain ⟨rfl,rfl⟩:=h
  exact ⟨.int _ _,rfl,rfl,⟨trivial,trivial,fun _ _ h=>h⟩,trivial⟩
 ·simp only [beq_iff_eq] at h
  subst h
  exact ⟨.bool _,rfl,rfl,⟨trivial,trivial,fun _ _ h=>h⟩,trivial⟩
 ·simp only [Bool.and_eq_true,decide_eq_true_eq] at h
  obtain ⟨rfl,h⟩:=h
  exact ⟨.str _,rfl,rfl,⟨h,trivial,fun _ _ h=>h⟩,trivial⟩
 ·rename_i sz
  refine ⟨.row .own sz none 0 0 fun _ _=>.dead undef,rfl,rfl,⟨⟨Nat.le_refl _,fun i j hi=>(by omega),fun i j hi=>(by omega),fun _=>.inl ⟨rfl,rfl⟩,fun i j hi=>(by omega)⟩,trivial,?_⟩,trivial⟩
  rintro b k ⟨_,⟨o,ho⟩ | ⟨i,j,hi,_⟩⟩
  ·cases ho
  ·omega
 ·cases h
theorem bQ (h : St c G zl s a w) {o : Operand} {x : AV} (hc : aK o x = true) : ∃ d : C,d.er = ax s x∧d.val = a.eval o∧dG w zl c.zb G d:=by
 unfold aK at hc
 split at hc
 ·simp only [Bool.and_eq_true,beq_iff_eq,decide_eq_true_eq] at hc
  obtain ⟨rfl,hb⟩:=hc
  rename_i n
  obtain ⟨a1,a2,a3⟩:=OI h n
  exact ⟨_,a1,a2.trans (h.val n hb),a3⟩
 ·rename_i v
  exact ⟨.dead v,rfl,rfl,⟨trivial,trivial,fun _ _ h=>h⟩⟩
 ·obtain ⟨d,h1,h2,h3,_⟩:=LM (w:=w) (zl:=zl) (c:=c) (G:=G) hc
  exact ⟨d,h1,h2,h3⟩
 ·simp only [beq_iff_eq] at hc
  subst hc
  exact ⟨.fn _ 0 fun _=>.dead undef,rfl,rfl,⟨fun j hj=>(by omega),fun j hj=>(by omega),fun _ _ h=>h⟩⟩
 ·cases hc
theorem kY {d : C} {k : IntKind} {n : Int} (h : d.er = .int k n) : d = .int k n:=by cases d <;> simp [C.er] at h ⊢ <;> first | exact h | skip
theorem oT {d : C} {b : Bool} (h : d.er = .bool b) : d = .bool b:=by cases d <;> simp [C.er] at h ⊢; exact h
theorem Bb {d : C} {t : ByteArray} (h : d.er = .str t) : d = .str t:=by cases d <;> simp [C.er] at h ⊢; exact h
theorem OH {P : Program} (h : St c G zl s a w) {o : Oper} {K : ah→Prop} {d : Nat} {x : AV} {x' : Operand} (ho : o.op = .move x'∨o.op = .assign x') (hd : o.dst = some d) (hn : d < c.nt) (hx : aK x' x = true) (hK : aN P (.mv d x) s K) : cW P c o a w K:=by
 obtain ⟨y,e1,e2,e3⟩:=bQ h hx
 obtain ⟨G',h'⟩:=h.yU e3 hn
 refine ⟨a.eval x',fun w' _=>?_,G',zl,_,hK,?_⟩
 ·rcases ho with ho | ho <;> simp [execOp,ho]
 ·rw [hd,← e2,← e1]; exact h'
theorem acR {P : Program} (h : St c G zl s a w) {o : Oper} {K : ah→Prop} {d : Nat} {tk : Tk} {x : AV} {x' : Operand} (ho : o.op = .assign x') (hd : o.dst = some d) (hn : d < c.nt) (hx : aK x' x = true) (hK : aN P (.aP d tk x) s K) : iU P c o a w K:=by
 obtain ⟨y,e1,e2,e3⟩:=bQ h hx
 obtain ⟨y',G1,f1,f2,_,f4⟩:=oo tk h.inv e3
 obtain ⟨G',h'⟩:=h.JT f4 hn
 refine ⟨a.eval x',w,by simp [execOp,ho],Ext.refl _ _,G',zl,_,hK,?_⟩
 rw [hd,← e2,← f2,← e1,← f1]; exact h'
theorem adi {P : Program} (h : St c G zl s a w) {o : Oper} {K : ah→Prop} {d : Nat} {x y z : AV} {x' y' z' : Operand} (ho : o.op = .pick x' y' z') (hd : o.dst = some d) (hn : d < c.nt) (hx : aK x' x = true) (hy : aK y' y = true) (hz : aK z' z = true)
  (hK : aN P (.pick d x y z) s K) : cW P c o a w K:=by
 obtain ⟨p,p1,p2,p3⟩:=bQ h hx
 obtain ⟨q,q1,q2,q3⟩:=bQ h hy
 obtain ⟨r,r1,r2,r3⟩:=bQ h hz
 simp only [aN] at hK
 split at hK
 ·rename_i t ht
  rw [← p1] at ht
  have hp:=oT ht
  subst hp
  have hsel : ∃ u : C,u.er = yV t (ax s y) (ax s z)∧u.val = (if t then a.eval y' else a.eval z')∧dG w zl c.zb G u:=by
   rw [← q1,← r1,← q2,← r2]
   unfold yV
   split
   ·rename_i b1 b2 h1 h2
    have hq:=oT h1
    have hr:=oT h2
    subst hq; subst hr
    refine ⟨.bool (bif t then b1 else b2),rfl,?_,⟨trivial,trivial,fun _ _ h=>h⟩⟩
    cases t <;> rfl
   ·cases t
    ·exact ⟨r,rfl,rfl,r3⟩
    ·exact ⟨q,rfl,rfl,q3⟩
  obtain ⟨u,u1,u2,u3⟩:=hsel
  obtain ⟨G',h'⟩:=h.yU u3 hn
  refine ⟨if t then a.eval y' else a.eval z',fun w' _=>?_,G',zl,_,hK,?_⟩
  ·have : a.eval x' = .bool t:=by rw [← p2]; rfl
   simp [execOp,ho,this,asBool]
  ·rw [hd,← u2,← u1]; exact h'
 ·exact hK.elim
end
end M
namespace M
open Go Go.RowKit
variable [Bs]
section
variable {P : Program} {c : Ctx} {G : Nat→C} {zl : Nat→Nat→Prop} {s : ah} {a : Act} {w : World} {o : Oper} {K : ah→Prop}
theorem Fp (x y : ByteArray) : (x.toList == y.toList) = decide (x = y):=by
 rw [Bool.eq_iff_iff]
 simp only [beq_iff_eq,decide_eq_true_eq,Go.ByteArray.toList_eq]
 constructor
 ·intro h
  cases x; cases y
  congr 1
  exact Array.toList_inj.1 h
 ·intro h
  rw [h]
theorem de (h : St c G zl s a w) {d : Nat} (hd : o.dst = some d) (hn : d < c.nt) {x : C} (hp : x.plain) (G7 : ∀ m sz A len cap e,x≠.row m sz A len cap e) (hok : x.ok w (Zf zl c.zb))
  (hrun : ∀ w',Ext (fun _ _=>False) w w'→(execOp a.eval o).run P w' = .ok (.value x.val) w') (hK : K (put d x.er s)) : cW P c o a w K:=by
 obtain ⟨G',h'⟩:=h.flat hp G7 hok hn
 exact ⟨_,hrun,G',zl,_,hK,by rw [hd]; exact h'⟩
theorem iF (h : St c G zl s a w) {d : Nat} (hd : o.dst = some d) (hn : d < c.nt) {x : C} (hx : dG w zl c.zb G x)
  (hrun : ∀ w',Ext (fun _ _=>False) w w'→(execOp a.eval o).run P w' = .ok (.value x.val) w') (hK : K (put d x.er s)) : cW P c o a w K:=by
 obtain ⟨G',h'⟩:=h.yU hx hn
 exact ⟨_,hrun,G',zl,_,hK,by rw [hd]; exact h'⟩
theorem adq (h : St c G zl s a w) {d : Nat} {op : UnOp} {ty : TypeId} {x : AV} {x' : Operand} (ho : o.op = .unOp op ty x') (hd : o.dst = some d) (hn : d < c.nt) (hx : aK x' x = true)
  (hK : aN P (.un d op x) s K) : cW P c o a w K:=by
 obtain ⟨y,e1,e2,e3⟩:=bQ h hx
 obtain ⟨k1,k2⟩:=hK
 rw [← e1] at k1 k2
 cases y with
 | int k n =>
  cases op <;> simp only [vB,C.er] at k1
  refine de h hd hn (x:=.int k (k.wrap (0 - n))) trivial (fun _ _ _ _ _ _ e=>(by cases e)) trivial (fun w' _=>?_) k2
  simp [execOp,ho,← e2,C.val,Op.unary,Op.intArith]
 | bool b =>
  cases op <;> simp only [vB,C.er] at k1
  refine de h hd hn (x:=.bool (!b)) trivial (fun _ _ _ _ _ _ e=>(by cases e)) trivial (fun w' _=>?_) k2
  simp [execOp,ho,← e2,C.val,Op.unary]
 | _=>cases op <;> exact k1.elim
theorem acT (h : St c G zl s a w) {d : Nat} {op : BinOp} {ty ty' : TypeId} {x y : AV} {x' y' : Operand} (ho : o.op = .binOp op ty x' y' ty') (hd : o.dst = some d) (hn : d < c.nt) (hx : aK x' x = true) (hy : aK y' y = true)
  (hK : aN P (.bin d op x y) s K) : cW P c o a w K:=by
 obtain ⟨p,p1,p2,p3⟩:=bQ h hx
 obtain ⟨q,q1,q2,q3⟩:=bQ h hy
 obtain ⟨k1,k2⟩:=hK
 rw [← p1,← q1] at k1 k2
 cases p with
 | int k m =>
  cases q with
  | int k' n =>
   have hrun : ∀ v : C,(∀ w,(binOp op ty (.int k m) (.int k' n)).run P w = .ok v.val w)→∀ w',Ext (fun _ _=>False) w w'→(execOp a.eval o).run P w' = .ok (.value v.val) w':=by
    intro v hv w' _
    have hg : eqGuard op ty x' y' (.int k m) (.int k' n) = pure ():=by unfold eqGuard; cases op <;> rfl
    simp [execOp,ho,← p2,← q2,C.val,hg,hv]
   cases op <;> simp only [sS,C.er] at k1
   case add=>subst k1; exact de h hd hn (x:=.int k _) trivial (fun _ _ _ _ _ _ e=>(by cases e)) trivial (hrun _ (fun w=>by simp [binOp,Op.intArith,C.val])) k2
   case sub=>subst k1; exact de h hd hn (x:=.int k _) trivial (fun _ _ _ _ _ _ e=>(by cases e)) trivial (hrun _ (fun w=>by simp [binOp,Op.intArith,C.val])) k2
   case mul=>subst k1; exact de h hd hn (x:=.int k _) trivial (fun _ _ _ _ _ _ e=>(by cases e)) trivial (hrun _ (fun w=>by simp [binOp,Op.intArith,C.val])) k2
   case quo=>obtain ⟨rfl,k1⟩:=k1; exact de h hd hn (x:=.int k _) trivial (fun _ _ _ _ _ _ e=>(by cases e)) trivial (hrun _ (fun w=>by simp [binOp,Op.intDiv,C.val,k1])) k2
   case rem=>obtain ⟨rfl,k1⟩:=k1; exact de h hd hn (x:=.int k _) trivial (fun _ _ _ _ _ _ e=>(by cases e)) trivial (hrun _ (fun w=>by simp [binOp,Op.intDiv,C.val,k1])) k2
   case shl=>exact de h hd hn (x:=.int k _) trivial (fun _ _ _ _ _ _ e=>(by cases e)) trivial (hrun _ (fun w=>by simp [binOp,Op.shift,C.val,show ¬ n < 0 by omega])) k2
   case shr=>exact de h hd hn (x:=.int k _) trivial (fun _ _ _ _ _ _ e=>(by cases e)) trivial (hrun _ (fun w=>by simp [binOp,Op.shift,C.val,show ¬ n < 0 by omega])) k2
   case and=>subst k1; exact de h hd hn (x:=.int k _) trivial (fun _ _ _ _ _ _ e=>(by cases e)) trivial (hrun _ (fun w=>by simp [binOp,Op.intBits,C.val])) k2
   case or=>subst k1; exact de h hd hn (x:=.int k _) trivial (fun _ _ _ _ _ _ e=>(by cases e)) trivial (hrun _ (fun w=>by simp [binOp,Op.intBits,C.val])) k2
   case xor=>subst k1; exact de h hd hn (x:=.int k _) trivial (fun _ _ _ _ _ _ e=>(by cases e)) trivial (hrun _ (fun w=>by simp [binOp,Op.intBits,C.val])) k2
   case eql=>subst k1; exact de h hd hn (x:=.bool _) trivial (fun _ _ _ _ _ _ e=>(by cases e)) trivial (hrun _ (fun w=>by simp only [binOp,Op.intCmp,C.val,if_neg (Classical.not_not.2 rfl)]; rfl)) k2
   case neq=>subst k1; exact de h hd hn (x:=.bool _) trivial (fun _ _ _ _ _ _ e=>(by cases e)) trivial (hrun _ (fun w=>by simp only [binOp,Op.intCmp,C.val,if_neg (Classical.not_not.2 rfl)]; rfl)) k2
   case lss=>subst k1; exact de h hd hn (x:=.bool _) trivial (fun _ _ _ _ _ _ e=>(by cases e)) trivial (hrun _ (fun w=>by simp [binOp,Op.intCmp,C.val])) k2
   case leq=>subst k1; exact de h hd hn (x:=.bool _) trivial (fun _ _ _ _ _ _ e=>(by cases e)) trivial (hrun _ (fun w=>by simp [binOp,Op.intCmp,C.val])) k2
   case gtr=>subst k1; exact de h hd hn (x:=.bool _) trivial (fun _ _ _ _ _ _ e=>(by cases e)) trivial (hrun _ (fun w=>by simp [binOp,Op.intCmp,C.val])) k2
   case geq=>subst k1; exact de h hd hn (x:=.bool _) trivial (fun _ _ _ _ _ _ e=>(by cases e)) trivial (hrun _ (fun w=>by simp [binOp,Op.intCmp,C.val])) k2
  | _=>exact k1.elim
 | str m =>
  cases q with
  | str n =>
   have hrun : ∀ v : C,(∀ w,(binOp op ty (.string m) (.string n)).run P w = .ok v.val w)→∀ w',Ext (fun _ _=>False) w w'→(execOp a.eval o).run P w' = .ok (.value v.val) w':=by
    intro v hv w' _
    have hg : eqGuard op ty x' y' (.string m) (.string n) = pure ():=by unfold eqGuard; cases op <;> rfl
    simp [execOp,ho,← p2,← q2,C.val,hg,hv]
   cases op <;> simp only [sS,C.er] at k1
   case add =>
    have hsz : (m ++ n).size = m.size + n.size:=by simp
    exact de h hd hn (x:=.str _) trivial (fun _ _ _ _ _ _ e=>(by cases e)) (by show (m ++ n).size≤_; omega) (hrun _ (fun w=>by
     have : ¬ ((m.size + n.size : Nat) : Int) > IntKind.i64.max:=by show ¬ (((m.size + n.size : Nat) : Int) > 9223372036854775807); omega
     simp only [binOp,Op.stringOp,if_neg this,C.val,Sem.run_pure])) k2
   case eql=>exact de h hd hn (x:=.bool _) trivial (fun _ _ _ _ _ _ e=>(by cases e)) trivial (hrun _ (fun w=>by simp only [binOp,Op.stringOp,C.val,Fp,Sem.run_pure])) k2
   case neq=>exact de h hd hn (x:=.bool _) trivial (fun _ _ _ _ _ _ e=>(by cases e)) trivial (hrun _ (fun w=>by simp only [binOp,Op.stringOp,C.val,Fp,Sem.run_pure])) k2
  | _=>exact k1.elim
 | _=>exact k1.elim
theorem run_eql_bool {ty : TypeId} (ht : P.underlying ty = some .bool) (x y : Bool) : (binOp .eql ty (.bool x) (.bool y)).run P w = .ok (.bool (x == y)) w:=by
 show ((do pure (Value.bool (← Op.equal ty (.bool x) (.bool y))) : Sem Value).run P w) = _
 rw [Sem.run_bind]
 unfold Op.equal
 show ((Op.equalIn (9999 + 1) ty (.bool x) (.bool y)).run P w).andThen _ = _
 rw [run_equalIn_bool' w 9999 ty x y ht]
 rfl
theorem run_neq_bool {ty : TypeId} (ht : P.underlying ty = some .bool) (x y : Bool) : (binOp .neq ty (.bool x) (.bool y)).run P w = .ok (.bool (!(x == y))) w:=by
 show ((do pure (Value.bool (!(← Op.equal ty (.bool x) (.bool y)))) : Sem Value).run P w) = _
 rw [Sem.run_bind]
 unfold Op.equal
 show ((Op.equalIn (9999 + 1) ty (.bool x) (.bool y)).run P w).andThen _ = _
 rw [run_equalIn_bool' w 9999 ty x y ht]
 rfl
theorem MT (op : BinOp) (ty : TypeId) (p q : Operand) (x y : Bool) : eqGuard op ty p q (.bool x) (.bool y) = pure ():=by unfold eqGuard; cases op <;> rfl
theorem acS (h : St c G zl s a w) {d : Nat} {neg : Bool} {ty ty' : TypeId} {x y : AV} {x' y' : Operand} (ho : o.op = .binOp (bif neg then .neq else .eql) ty x' y' ty') (ht : P.underlying ty = some .bool) (hd : o.dst = some d) (hn : d < c.nt) (hx : aK x' x = true) (hy : aK y' y = true)
  (hK : aN P (.beq d neg x y) s K) : cW P c o a w K:=by
 obtain ⟨p,p1,p2,p3⟩:=bQ h hx
 obtain ⟨q,q1,q2,q3⟩:=bQ h hy
 simp only [aN] at hK
 split at hK
 ·rename_i b1 b2 h1 h2
  rw [← p1] at h1
  rw [← q1] at h2
  have e1:=oT h1
  have e2:=oT h2
  subst e1; subst e2
  refine de h hd hn (x:=.bool (xor neg (b1 == b2))) trivial (fun _ _ _ _ _ _ e=>(by cases e)) trivial (fun w' _=>?_) hK
  cases neg
  ·simp only [execOp,ho,← p2,← q2,C.val,MT,Sem.run_bind,Sem.run_pure,Result.andThen_ok,cond_false,run_eql_bool ht,Bool.false_bne]
  ·simp only [execOp,ho,← p2,← q2,C.val,MT,Sem.run_bind,Sem.run_pure,Result.andThen_ok,cond_true,run_neq_bool ht,Bool.true_bne]
 ·exact hK.elim
theorem ac2 (h : St c G zl s a w) {d : Nat} {k : IntKind} {sr dt : TypeId} {sd : TypeDesc} {x : AV} {x' : Operand} (ho : o.op = .convert sr dt x') (hs : P.underlying sr = some sd) (hu : P.underlying dt = some (.int k)) (hd : o.dst = some d) (hn : d < c.nt) (hx : aK x' x = true)
  (hK : aN P (.conv d k x) s K) : cW P c o a w K:=by
 obtain ⟨y,e1,e2,e3⟩:=bQ h hx
 simp only [aN] at hK
 split at hK
 ·rename_i k' n hy
  rw [← e1] at hy
  have:=kY hy
  subst this
  refine de h hd hn (x:=.int k _) trivial (fun _ _ _ _ _ _ e=>(by cases e)) trivial (fun w' _=>?_) hK
  simp [execOp,ho,← e2,C.val,convert,run_underlying hs,run_underlying hu,Conv.intToInt]
 ·exact hK.elim
theorem ac0 (h : St c G zl s a w) {d : Nat} {x : AV} {x' : Operand} (ho : o.op = .nilCheck x') (hd : o.dst = some d) (hn : d < c.nt) (hx : aK x' x = true)
  (hK : aN P (.cS d x) s K) : cW P c o a w K:=by
 obtain ⟨y,e1,e2,e3⟩:=bQ h hx
 simp only [aN] at hK
 rw [← e1] at hK
 cases y with
 | aA v r p i k =>
  obtain ⟨y,hs,hy⟩:=e3.rf
  refine iF h hd hn e3 (fun w' _=>?_) hK
  rcases hy with ⟨m,sz,g,o',len,cap,e,rfl,hv⟩ | ⟨m,g,o',n,cc,rfl,_,hv⟩ <;> (simp only [C.val] at e2; subst hv; simp [execOp,ho,← e2,C.val])
 | ptr m g o' n f =>
  refine iF h hd hn e3 (fun w' _=>?_) hK
  simp only [C.val] at e2
  simp [execOp,ho,← e2,C.val]
 | fn f n g =>
  refine iF h hd hn e3 (fun w' _=>?_) hK
  simp only [C.val] at e2
  simp [execOp,ho,← e2,C.val]
 | _=>exact hK.elim
end
end M
namespace M
open Go Go.RowKit
variable [Bs]
theorem oA (g k j : Nat) : (⟨g,k,none⟩ : Addr).add j = ⟨g,k + j,none⟩:=by
 unfold Addr.add
 split
 ·rename_i h; subst h; rfl
 ·rfl
theorem mJ (n c : Nat) : (List.range n).drop c = (List.range (n - c)).map (· + c):=by
 apply List.ext_getElem?
 intro i
 rw [List.getElem?_drop,List.getElem?_map]
 by_cases h : c + i < n
 ·rw [List.getElem?_range h,List.getElem?_range (by omega)]
  simp [Nat.add_comm]
 ·rw [List.getElem?_eq_none (by simp; omega),List.getElem?_eq_none (by simp; omega)]
  rfl
section
variable {P : Program} {c : Ctx} {G : Nat→C} {zl : Nat→Nat→Prop} {s : ah} {a : Act} {w : World} {o : Oper} {K : ah→Prop}
structure Sz (w : World) (zl zb : Nat→Nat→Prop) (G : Nat→C) (v : Value) (l : List C) : Prop where
 addr : ∃ g k,v = .pointer (some ⟨g,k,none⟩)∧∀ j (hj : j < l.length),w.cell? ⟨g,k + j,none⟩ = some l[j].val
 yU : ∀ x∈l,dG w zl zb G x∧x.cell
theorem NZ {zb : Nat→Nat→Prop} (h : Inv w zl zb G s) {y : C} (hy : dG w zl zb G y) {cs : List X} (hc : fB s y.er = some cs) : ∃ l : List C,l.map C.er = cs∧Sz w zl zb G y.val l:=by
 cases y with
 | ptr m g o n f =>
  simp only [C.er,fB] at hc
  injection hc with hc
  obtain ⟨h1,h2,h3,h4⟩:=hy.ok
  refine ⟨(List.range n).map f,by rw [← hc,List.map_map]; rfl,⟨⟨g,o,rfl,fun j hj=>?_⟩,fun x hx=>?_⟩⟩
  ·simp only [List.length_map,List.length_range] at hj
   simp only [List.getElem_map,List.getElem_range]
   exact (h1 j hj).1
  ·obtain ⟨j,hj,rfl⟩:=List.mem_map.1 hx
   have hj' : j < n:=by simpa using hj
   obtain ⟨a1,a2,a3⟩:=h3 j hj'
   exact ⟨⟨a3,hy.rf j hj',fun b k hf=>hy.cz b k (C.jy a1 a2 hj' hf)⟩,a1⟩
 | aA v r p i k0 =>
  obtain ⟨z,hz,hp⟩:=hy.rf
  have pG:=C.gd p hz (h.ok r)
  have ND:=Inv.sA.z8 p (h.ok r) hz (h.rf r)
  simp only [C.er,fB,look] at hc
  rw [← h.er,C.fI,hz] at hc
  simp only [Option.map_some] at hc
  rcases hp with ⟨m,sz,g,o,len,cap,e,rfl,rfl⟩ | ⟨m,g,o,n,f,rfl,rfl,rfl⟩
  ·simp only [C.er,C.cD] at hc
   by_cases hi : i < len
   ·rw [if_pos hi] at hc
    simp only [Option.map_some,Option.some.injEq] at hc
    refine ⟨((List.range (sz - k0)).map (· + k0)).map fun j=>(e i j).gU r (p ++ [(i,j)]),?_,⟨⟨g,o + i * sz + k0,rfl,fun j hj=>?_⟩,fun x hx=>?_⟩⟩
    ·rw [← hc,← List.map_drop,mJ]
     rw [C.sJ r p i ((List.range (sz - k0)).map (· + k0)) k0 (fun j=>e i j) (by simp)]
     simp only [List.map_map]
     rfl
    ·simp only [List.length_map,List.length_range] at hj
     simp only [List.getElem_map,List.getElem_range,C.vR]
     obtain ⟨g',o',hA,hcell,_⟩:=pG.2.1 i (j + k0) hi (by omega)
     injection hA with hA
     injection hA with e1 e2
     injection e2 with e2
     subst e1; subst e2
     rw [show o + i * sz + k0 + j = o + i * sz + (j + k0) by omega]
     exact hcell
    ·obtain ⟨j,hj,rfl⟩:=List.mem_map.1 hx
     obtain ⟨j',hj',rfl⟩:=List.mem_map.1 hj
     have hj2 : j' + k0 < sz:=by simp at hj'; omega
     obtain ⟨a1,a2,a3,a4⟩:=pG.2.2.1 i (j' + k0) hi hj2
     refine ⟨⟨C.vP _ _ _ a4,C.vQ _ _ _ (C.qm p hz (by simp only [C.step,if_pos (And.intro hi hj2)])) ?_,C.vO _ _ _ (C.FZ a1)⟩,C.Fe _ _ _ a1⟩
     have:=Inv.sA.z8 (w:=w) (zl:=zl) (zb:=zb) (G:=G) [(i,j' + k0)] pG (d:=e i (j' + k0)) (by simp only [C.sub,C.step,if_pos (And.intro hi hj2)]; rfl) ND
     exact this
   ·rw [if_neg hi] at hc; cases hc
  ·simp only [C.er,Option.some.injEq] at hc
   refine ⟨((List.range (n - k0)).map (· + k0)).map fun j=>(f j).gU r (p ++ [(0,j)]),?_,⟨⟨g,o + k0,rfl,fun j hj=>?_⟩,fun x hx=>?_⟩⟩
   ·rw [← hc,← List.map_drop,mJ]
    rw [C.sJ r p 0 ((List.range (n - k0)).map (· + k0)) k0 f (by simp)]
    simp only [List.map_map]
    rfl
   ·simp only [List.length_map,List.length_range] at hj
    simp only [List.getElem_map,List.getElem_range,C.vR]
    rw [show o + k0 + j = o + (j + k0) by omega]
    exact (pG.1 (j + k0) (by omega)).1
   ·obtain ⟨j,hj,rfl⟩:=List.mem_map.1 hx
    obtain ⟨j',hj',rfl⟩:=List.mem_map.1 hj
    have hj2 : j' + k0 < n:=by simp at hj'; omega
    obtain ⟨a1,a2,a3⟩:=pG.2.2.1 (j' + k0) hj2
    exact ⟨⟨C.vP _ _ _ a3,C.vQ _ _ _ (C.qm p hz (if_pos (And.intro rfl hj2))) (ND _ hj2),C.vO _ _ _ (C.FZ a1)⟩,C.Fe _ _ _ a1⟩
 | _=>simp [C.er,fB] at hc
theorem SQ {zb : Nat→Nat→Prop} {l : List C} (h : ∀ x∈l,dG w zl zb G x∧x.cell) : dG w zl zb G (fL l) where
 ok:=⟨fun j hj=>⟨(h _ (cv hj _)).2,(h _ (cv hj _)).1.ok⟩,fun j hj b k hf=>((h _ (cv hj _)).1.cz b k hf).elim⟩
 rf:=fun j hj=>(h _ (cv hj _)).1.rf
 cz:=fun b k hf=>by
  obtain ⟨x,hx,hf⟩:=(oB _ _ _).1 hf
  exact (h x hx).1.cz b k hf
theorem OG (h : St c G zl s a w) {d sz : Nat} {agg : Bool} {ty : TypeId} {x : AV} {x' : Operand} (ho : o.op = .load ty x') (hsz : ∃ i,P.info? ty = some i∧i.size = sz) (k8 : ∃ dd,P.underlying ty = some dd∧(match dd with | .struct _=>true | .array _ _=>true | _=>false) = agg)
  (h1 : agg = true∨sz = 1) (hd : o.dst = some d) (hn : d < c.nt) (hx : aK x' x = true)
  (hK : aN P (.load d sz agg x) s K) : cW P c o a w K:=by
 obtain ⟨y,e1,e2,e3⟩:=bQ h hx
 obtain ⟨cs,k1,k2,k3⟩:=hK
 rw [← e1] at k1
 obtain ⟨l,l1,⟨g,k,hv,hcell⟩,l3⟩:=NZ h.inv e3 k1
 have hlen : l.length = cs.length:=by rw [← l1]; simp
 obtain ⟨i,hi,jt⟩:=hsz
 obtain ⟨dd,wJ,hda⟩:=k8
 have q5 : ∀ w : World,(isAgg ty).run P w = .ok agg w:=by
  intro w
  subst hda
  simp only [isAgg,Sem.run_bind,run_underlying wJ,Result.andThen_ok]
  cases dd <;> rfl
 have hsize : ∀ w : World,(Go.sizeOf ty).run P w = .ok sz w:=by intro w; simp [Go.sizeOf,typeInfo,hi,jt]
 have Na : ∀ w',Ext (fun _ _=>False) w w'→∀ j (hj : j < l.length),w'.cell? ⟨g,k + j,none⟩ = some l[j].val:=fun w' hE j hj=>hE.cell (fun hs=>hs) (hcell j hj)
 have ku : ∀ w : World,(execOp a.eval o).run P w = ((loadVar ty ⟨g,k,none⟩).run P w).andThen fun v w'=>.ok (.value v) w':=by
  intro w
  simp [execOp,ho,← e2,hv,Instr.loadAt,Instr.sureAddr]
 cases agg with
 | true =>
  have hl : ∀ w',Ext (fun _ _=>False) w w'→(loadCells ⟨g,k,none⟩ sz).run P w' = .ok ((List.range sz).map fun j=>((l.take sz).getD j (.dead undef)).val).toArray w':=fun w' hE=>run_loadCells w' _ sz _ (fun j hj=>by
   rw [oA,Na w' hE j (by omega)]
   congr 1
   rw [List.getD_eq_getElem?_getD,List.getElem?_take_of_lt hj,List.getElem?_eq_getElem (by omega)]
   rfl)
  have hval : (fL (l.take sz)).val = .agg ((List.range sz).map fun j=>((l.take sz).getD j (.dead undef)).val).toArray:=by
   simp only [fL,C.val,List.length_take]
   rw [Nat.min_eq_left (by omega)]
  refine iF h hd hn (x:=fL (l.take sz)) (SQ fun x hx=>l3 x (List.mem_of_mem_take hx)) ?_ ?_
  ·intro w' hE
   rw [ku,hval]
   simp only [loadVar,Sem.run_bind,q5,Result.andThen_ok,if_true,hsize,hl w' hE,Sem.run_pure]
  ·rw [sI,List.map_take,l1]
   exact k3
 | false =>
  have hs1 : sz = 1:=h1.resolve_left (by simp)
  subst hs1
  cases l with
  | nil=>simp at hlen; omega
  | cons y0 l =>
   refine iF h hd hn (x:=y0) (l3 y0 (List.mem_cons_self ..)).1 ?_ ?_
   ·intro w' hE
    have hc0:=Na w' hE 0 (by simp)
    simp only [Nat.add_zero,List.getElem_cons_zero] at hc0
    rw [ku]
    simp only [loadVar,Sem.run_bind,q5,Result.andThen_ok,Bool.false_eq_true,if_false,run_load,hc0]
   ·rw [← l1] at k3
    exact k3
theorem ac4 (h : St c G zl s a w) {d off fi : Nat} {ty : TypeId} {fs : Array Field} {f : Field} {x : AV} {x' : Operand} (ho : o.op = .fieldAddr ty x' fi) (hu : P.underlying ty = some (.struct fs)) (hf : fs[fi]? = some f) (hfo : f.offset = off) (hfs : ∃ i,P.info? f.type = some i∧i.size≠0)
  (hd : o.dst = some d) (hn : d < c.nt) (hx : aK x' x = true) (hK : aN P (.ni d x off) s K) : cW P c o a w K:=by
 obtain ⟨y,e1,e2,e3⟩:=bQ h hx
 obtain ⟨i,hi,hi0⟩:=hfs
 have hrun : ∀ g k,a.eval x' = .pointer (some ⟨g,k,none⟩)→∀ w',Ext (fun _ _=>False) w w'→(execOp a.eval o).run P w' = .ok (.value (.pointer (some ⟨g,k + off,none⟩))) w':=by
  intro g k hv w' _
  simp [execOp,ho,hv,Instr.fieldAt,Instr.sureAddr,run_underlying hu,hf,fieldPlace,Go.sizeOf,typeInfo,hi,hi0,oA,hfo]
 simp only [aN] at hK
 rw [← e1] at hK
 cases y with
 | aA v r p i' k0 =>
  obtain ⟨z,hz,hp⟩:=e3.rf
  have hcase : ∃ g k,v = .pointer (some ⟨g,k,none⟩)∧(C.aA (.pointer (some ⟨g,k + off,none⟩)) r p i' (k0 + off)).rf G:=by
   rcases hp with ⟨m,sz,g,o',len,cap,e,rfl,rfl⟩ | ⟨m,g,o',n,f',rfl,rfl,rfl⟩
   ·exact ⟨_,_,rfl,_,hz,.inl ⟨_,_,_,_,_,_,_,rfl,by rw [Nat.add_assoc]⟩⟩
   ·exact ⟨_,_,rfl,_,hz,.inr ⟨_,_,_,_,_,rfl,rfl,by rw [Nat.add_assoc]⟩⟩
  obtain ⟨g,k,rfl,hrf⟩:=hcase
  refine iF h hd hn (x:=.aA (.pointer (some ⟨g,k + off,none⟩)) r p i' (k0 + off)) ⟨trivial,hrf,fun _ _ hh=>hh⟩ ?_ hK
  exact hrun g k e2.symm
 | ptr m g o' n f' =>
  obtain ⟨h1,h2,h3,h4⟩:=e3.ok
  refine iF h hd hn (x:=.ptr m g (o' + off) (n - off) fun j=>f' (j + off)) ⟨⟨fun j hj=>?_,h2,fun j hj=>h3 (j + off) (by omega),fun j hj b k hf=>?_⟩,fun j hj=>e3.rf (j + off) (by omega),fun b k hf=>?_⟩ ?_ ?_
  ·rw [show o' + off + j = o' + (j + off) by omega]; exact h1 (j + off) (by omega)
  ·obtain ⟨a1,a2⟩:=h4 (j + off) (by omega) b k hf
   exact ⟨fun hm hb=>a1 hm (by omega),fun j' hj' hne=>a2 (j' + off) (by omega) (by omega)⟩
  ·obtain ⟨hm,hf | ⟨j,hj,hf⟩⟩:=hf
   ·exact e3.cz b k ⟨hm,.inl (by omega)⟩
   ·exact e3.cz b k ⟨hm,.inr ⟨j + off,by omega,hf⟩⟩
  ·exact hrun g o' e2.symm
  ·have : (C.ptr m g (o' + off) (n - off) fun j=>f' (j + off)).er = .ptr m (((List.range n).map fun j=>(f' j).er).drop off):=by
    simp only [C.er]
    rw [← List.map_drop,mJ,List.map_map]
    rfl
   rw [this]
   exact hK
 | _=>exact hK.elim
end
end M
namespace M
open Go Go.RowKit
variable [Bs]
def Bl (P : Program) (t : TypeId) (k : Nat) : Bool:=match P.underlying t with
 | some (.int _)=>k == 0
 | some .bool=>k == 1
 | some .string=>k == 2
 | _=>false
def Bk (P : Program) : Nat→List Nat→List Field→Bool
 | _,[],[]=>true
 | n,k :: ks,f :: l=>decide (f.offset = n) && decide (f.name≠ "_") && Bl P f.type k && Bk P (n + 1) ks l
 | _,_,_=>false
def Gv (P : Program) (t : TypeId) (ks : List Nat) : Bool:=(match P.underlying t with
 | some (.struct fs)=>Bk P 0 ks fs.toList
 | _=>false) && !P.stoodInHeld t && !P.eqGuardType P.depth t
section
variable {P : Program} {c : Ctx} {G : Nat→C} {zl : Nat→Nat→Prop} {s : ah} {a : Act} {w : World} {o : Oper} {K : ah→Prop}
theorem ON {t : TypeId} {k : Nat} {vs : Array Value} {n : Nat} {v : Value} (ht : Bl P t k = true) (hv : vs[n]? = some v) (w : World) : (part t vs n).run P w = .ok v w:=by
 unfold Bl at ht
 split at ht <;> first | (rename_i h; simp [part,isAgg,run_underlying h,hv]) | cases ht
theorem Wa {w : World} {xs ys : Array Value} (d : Nat) : ∀ (l : List Field) (ks : List Nat) (ps qs : List C) (n : Nat) (t : Bool),Bk P n ks l = true→(∀ j,(ps[j]?).map C.val = xs[n + j]?)→(∀ j,(qs[j]?).map C.val = ys[n + j]?) →
  iZ ks (ps.map C.er) (qs.map C.er) = some t→(Op.eqFields (d + 1) xs ys l).run P w = .ok t w:=by
 intro l
 induction l with
 | nil =>
  intro ks ps qs n t hf _ _ he
  cases ks with
  | nil =>
   cases ps <;> cases qs <;> simp [iZ] at he
   subst he
   simp [Op.eqFields]
  | cons k ks=>cases hf
 | cons f l ih =>
  intro ks ps qs n t hf hx hy he
  cases ks with
  | nil=>cases hf
  | cons k ks =>
  cases ps with
  | nil=>simp [iZ] at he
  | cons p ps =>
  cases qs with
  | nil=>simp [iZ] at he
  | cons q qs =>
  simp only [Bk,Bool.and_eq_true,decide_eq_true_eq] at hf
  obtain ⟨⟨⟨hoff,hname⟩,hk⟩,qZ⟩:=hf
  have hx0:=hx 0
  have hy0:=hy 0
  simp only [List.getElem?_cons_zero,Option.map_some,Nat.add_zero] at hx0 hy0
  have CA:=fun t=>ih ks ps qs (n + 1) t qZ (fun j=>by have:=hx (j + 1); simpa [Nat.add_assoc,Nat.add_comm 1 j] using this) (fun j=>by have:=hy (j + 1); simpa [Nat.add_assoc,Nat.add_comm 1 j] using this)
  have step : ∀ b : Bool,(∀ w : World,(Op.equalIn (d + 1) f.type p.val q.val).run P w = .ok b w)→(iZ ks (ps.map C.er) (qs.map C.er)).map (fun t=>b && t) = some t→(Op.eqFields (d + 1) xs ys (f :: l)).run P w = .ok t w:=by
   intro b hb h1
   cases h2 : iZ ks (ps.map C.er) (qs.map C.er) with
   | none=>rw [h2] at h1; cases h1
   | some t' =>
    rw [h2] at h1
    simp only [Option.map_some,Option.some.injEq] at h1
    subst h1
    simp only [Op.eqFields,if_pos hname,Sem.run_bind,hoff,ON hk hx0.symm,ON hk hy0.symm,Result.andThen_ok,hb]
    cases b with
    | true=>simpa using CA t' h2
    | false=>simp
  unfold Bl at hk
  simp only [List.map_cons] at he
  split at hk
  ·rename_i h
   obtain rfl : k = 0:=by simpa using hk
   cases p <;> cases q <;> simp only [C.er,iZ] at he <;> try (cases he; done)
   split at he
   ·rename_i hkk
    subst hkk
    exact step _ (fun w=>run_equalIn_int w d f.type _ _ _ _ h) he
   ·cases he
  ·rename_i h
   obtain rfl : k = 1:=by simpa using hk
   cases p <;> cases q <;> simp only [C.er,iZ] at he <;> try (cases he; done)
   exact step _ (fun w=>run_equalIn_bool' w d f.type _ _ h) he
  ·rename_i h
   obtain rfl : k = 2:=by simpa using hk
   cases p <;> cases q <;> simp only [C.er,iZ] at he <;> try (cases he; done)
   refine step _ (fun w=>?_) he
   rw [show (C.str _).val = Value.string _ from rfl,show (C.str _).val = Value.string _ from rfl,run_equalIn_string w d f.type _ _ h,Fp]
  ·cases hk
theorem acO (h : St c G zl s a w) {d : Nat} {neg : Bool} {ks : List Nat} {ty ty' : TypeId} {x y : AV} {x' y' : Operand} (ho : o.op = .binOp (bif neg then .neq else .eql) ty x' y' ty') (ht : Gv P ty ks = true) (hd : o.dst = some d) (hn : d < c.nt) (hx : aK x' x = true) (hy : aK y' y = true)
  (hK : aN P (.kS d neg ks x y) s K) : cW P c o a w K:=by
 obtain ⟨p,p1,p2,p3⟩:=bQ h hx
 obtain ⟨q,q1,q2,q3⟩:=bQ h hy
 simp only [aN] at hK
 rw [← p1,← q1] at hK
 simp only [Gv,Bool.and_eq_true,Bool.not_eq_true'] at ht
 obtain ⟨⟨ht,hst⟩,hgu⟩:=ht
 split at ht
 ·rename_i fs hfs
  have hfo : P.fieldsOf ty = fs:=by simp only [Program.fieldsOf,hfs]
  cases p with
  | agg n f =>
   cases q with
   | agg m g =>
    simp only [C.er] at hK
    obtain ⟨t,he,hK⟩:=hK
    have hcell : ∀ (n : Nat) (f : Nat→C) (j : Nat),((((List.range n).map f)[j]?).map C.val) = ((((List.range n).map fun j=>(f j).val).toArray)[0 + j]?):=fun n f j=>by
     rw [Nat.zero_add,List.getElem?_toArray,C.cD]
     rw [C.cD (fun j=>(f j).val)]
     split <;> rfl
    have hrun : ∀ w' : World,(Op.equalIn 10000 ty (C.agg n f).val (C.agg m g).val).run P w' = .ok t w':=fun w'=>by
     simp only [C.val]
     rw [run_equalIn_struct w' 9999 ty _ _ (by rw [hfo]; exact hfs) hst,hfo]
     exact Wa 9998 fs.toList ks ((List.range n).map f) ((List.range m).map g) 0 t ht (hcell n f) (hcell m g) (by rw [List.map_map,List.map_map]; exact he)
    refine de h hd hn (x:=.bool (xor neg t)) trivial (fun _ _ _ _ _ _ e=>(by cases e)) trivial (fun w' _=>?_) hK
    have e1 : ∀ w' : World,(eqGuard (bif neg then .neq else .eql) ty x' y' (C.agg n f).val (C.agg m g).val).run P w' = .ok () w':=fun w'=>run_eqGuard_agg w' _ ty x' y' _ _ hgu
    cases neg
    ·simp only [execOp,ho,← p2,← q2,Sem.run_bind,cond_false]
     simp only [cond_false] at e1
     rw [e1]
     simp only [Result.andThen_ok]
     rw [show (C.agg n f).val = .agg _ from rfl,show (C.agg m g).val = .agg _ from rfl] at hrun ⊢
     rw [run_eql_struct,hrun]
     simp
     rfl
    ·simp only [execOp,ho,← p2,← q2,Sem.run_bind,cond_true]
     simp only [cond_true] at e1
     rw [e1]
     simp only [Result.andThen_ok]
     rw [show (C.agg n f).val = .agg _ from rfl,show (C.agg m g).val = .agg _ from rfl] at hrun ⊢
     rw [run_neq_struct,hrun]
     simp
     rfl
   | _=>exact hK.elim
  | _=>exact hK.elim
 ·cases ht
end
end M
namespace M
open Go Go.RowKit
variable [Bs]
section
variable {P : Program} {c : Ctx} {G : Nat→C} {zl : Nat→Nat→Prop} {s : ah} {a : Act} {w : World} {o : Oper} {K : ah→Prop}
structure SB (w : World) (zl zb : Nat→Nat→Prop) (v : Value) (z : Nat) (A : Option Ad) (len cap : Nat) (e : Nat→Nat→C) : Prop where
 val : v = .slice (A.map fun q=>⟨q.1,q.2.1,q.2.2⟩) len cap
 cap : len≤cap
 cell : ∀ i j,i < len→j < z→∃ g o,A = some (g,o,none)∧w.cell? ⟨g,o + i * z + j,none⟩ = some (e i j).val
 kid : ∀ i j,i < len→j < z→(e i j).cell∧(e i j).cA∧(e i j).ok w (Zf zl zb)
def cU (z len : Nat) (e : Nat→Nat→C) : List (List X):=(List.range len).map fun i=>(List.range z).map fun j=>(e i j).er
theorem I4 {zb : Nat→Nat→Prop} (h : Inv w zl zb G s) {y : C} (hy : dG w zl zb G y) {z : Nat} {xs : List (List X)} (hc : rowAt s y.er = some (z,xs)) : ∃ A len cap e,xs = cU z len e∧SB w zl zb y.val z A len cap e:=by
 cases y with
 | row m sz A len cap e =>
  simp only [C.er,rowAt,Option.some.injEq,Prod.mk.injEq] at hc
  obtain ⟨rfl,rfl⟩:=hc
  obtain ⟨h1,h2,h3,h4,h5⟩:=hy.ok
  exact ⟨A,len,cap,e,rfl,rfl,h1,fun i j hi hj=>by obtain ⟨g,o,hA,hcl,_⟩:=h2 i j hi hj; exact ⟨g,o,hA,hcl⟩,fun i j hi hj=>by obtain ⟨a1,a2,a3,a4⟩:=h3 i j hi hj; exact ⟨a1,a2,a4⟩⟩
 | ref v r p =>
  obtain ⟨y',z',hs,hF,hv,m,sz,A,len,cap,e,rfl⟩:=hy.rf
  cases hF with
  | row m m' sz A len cap e e' =>
   simp only [C.er,rowAt,look] at hc
   rw [← h.er,C.fI,hs] at hc
   simp only [Option.map_some,C.er,Option.some.injEq,Prod.mk.injEq] at hc
   obtain ⟨rfl,rfl⟩:=hc
   obtain ⟨h1,h2,h3,h4,h5⟩:=C.gd p hs (h.ok r)
   exact ⟨A,len,cap,e',rfl,hv.symm,h1,fun i j hi hj=>by obtain ⟨g,o,hA,hcl,_⟩:=h2 i j hi hj; exact ⟨g,o,hA,hcl⟩,fun i j hi hj=>by obtain ⟨a1,a2,a3,a4⟩:=h3 i j hi hj; exact ⟨a1,a2,a4⟩⟩
 | cut v r p lo hi =>
  obtain ⟨m,sz,A,len,cap,e,A',cap',hs,hv,hlo,hhi,hcap,jq,-,-⟩:=hy.rf
  simp only [C.er,rowAt,look] at hc
  rw [← h.er,C.fI,hs] at hc
  simp only [Option.map_some,C.er,Option.some.injEq,Prod.mk.injEq] at hc
  obtain ⟨rfl,rfl⟩:=hc
  obtain ⟨h1,h2,h3,h4,h5⟩:=C.gd p hs (h.ok r)
  have hX : (((List.range len).map fun i=>(List.range sz).map fun j=>(e i j).er).take hi).drop lo = cU sz (hi - lo) fun i j=>e (i + lo) j:=by
   unfold cU
   rw [← List.map_take,← List.map_drop,List.take_range,Nat.min_eq_left hhi,mJ,List.map_map]
   rfl
  refine ⟨A',hi - lo,cap',fun i j=>e (i + lo) j,hX,⟨hv,hcap,fun i j hi' hj=>?_,fun i j hi' hj=>?_⟩⟩
  ·obtain ⟨g,o,hA,hcl,_⟩:=h2 (i + lo) j (by omega) hj
   refine ⟨g,o + lo * sz,by rw [jq (by omega),hA,Option.map_some,mX],?_⟩
   rw [show o + lo * sz + i * sz + j = o + (i + lo) * sz + j by rw [Nat.add_mul]; omega]
   exact hcl
  ·obtain ⟨a1,a2,a3,a4⟩:=h3 (i + lo) j (by omega) hj
   exact ⟨a1,a2,a4⟩
 | _=>simp [C.er,rowAt] at hc
theorem adR (z len : Nat) (e : Nat→Nat→C) : (cU z len e).length = len:=by simp [cU]
theorem ac7 (h : St c G zl s a w) {d : Nat} {ty el : TypeId} {x : AV} {x' : Operand} (ho : o.op = .call { callee:=.builtin .len,args:=#[x'],argTypes:=#[ty] }) (hu : P.underlying ty = some (.slice el)) (hd : o.dst = some d) (hn : d < c.nt) (hx : aK x' x = true)
  (hK : aN P (.len d x) s K) : cW P c o a w K:=by
 obtain ⟨y,e1,e2,e3⟩:=bQ h hx
 obtain ⟨z,xs,k1,k2⟩:=hK
 rw [← e1] at k1
 obtain ⟨A,len,cap,e,rfl,hv⟩:=I4 h.inv e3 k1
 rw [adR] at k2
 refine de h hd hn (x:=.int .i64 len) trivial (fun _ _ _ _ _ _ e=>(by cases e)) trivial (fun w' _=>?_) k2
 simp [execOp,ho,resolve,invoke,builtin,← e2,hv.val,Builtin.len_,run_underlying hu,goInt,C.val]
theorem adl (h : St c G zl s a w) {d : Nat} {ty : TypeId} {x : AV} {x' : Operand} (ho : o.op = .call { callee:=.builtin .len,args:=#[x'],argTypes:=#[ty] }) (hu : P.underlying ty = some .string) (hd : o.dst = some d) (hn : d < c.nt) (hx : aK x' x = true)
  (hK : aN P (.qk d x) s K) : cW P c o a w K:=by
 obtain ⟨y,e1,e2,e3⟩:=bQ h hx
 simp only [aN] at hK
 split at hK
 ·rename_i t ht
  rw [← e1] at ht
  have:=Bb ht
  subst this
  refine de h hd hn (x:=.int .i64 t.size) trivial (fun _ _ _ _ _ _ e=>(by cases e)) trivial (fun w' _=>?_) hK
  simp [execOp,ho,resolve,invoke,builtin,← e2,Builtin.len_,run_underlying hu,goInt,C.val]
 ·exact hK.elim
theorem adk (h : St c G zl s a w) {d : Nat} {ty : TypeId} {x y : AV} {x' y' : Operand} (ho : o.op = .index ty x' y') (hu : P.underlying ty = some .string) (hd : o.dst = some d) (hn : d < c.nt) (hx : aK x' x = true) (hy : aK y' y = true)
  (hK : aN P (.cM d x y) s K) : cW P c o a w K:=by
 obtain ⟨p,p1,p2,p3⟩:=bQ h hx
 obtain ⟨q,q1,q2,q3⟩:=bQ h hy
 simp only [aN] at hK
 split at hK
 ·rename_i t k n h1 h2
  rw [← p1] at h1
  rw [← q1] at h2
  have:=Bb h1
  subst this
  have:=kY h2
  subst this
  obtain ⟨k1,b,k2,k3⟩:=hK
  refine de h hd hn (x:=.int .u8 b.toNat) trivial (fun _ _ _ _ _ _ e=>(by cases e)) trivial (fun w' _=>?_) k3
  have hb : t[n.toNat]? = some b:=k2
  simp [execOp,ho,← p2,← q2,C.val,Instr.index,asIntOf,run_underlying hu,if_pos k1,hb]
 ·exact hK.elim
theorem ac6 (h : St c G zl s a w) {d sz : Nat} {ty el : TypeId} {x y : AV} {x' y' : Operand} (ho : o.op = .indexAddr ty x' y') (hu : P.underlying ty = some (.slice el)) (hsz : ∃ i,P.info? el = some i∧i.size = sz) (h0 : 0 < sz) (hd : o.dst = some d) (hn : d < c.nt) (hx : aK x' x = true) (hy : aK y' y = true)
  (hK : aN P (.dX d sz x y) s K) : cW P c o a w K:=by
 obtain ⟨p,p1,p2,p3⟩:=bQ h hx
 obtain ⟨q,q1,q2,q3⟩:=bQ h hy
 obtain ⟨ii,hi,jt⟩:=hsz
 simp only [aN] at hK
 rw [← p1] at hK
 split at hK
 ·rename_i k n h2
  rw [← q1] at h2
  have:=kY h2
  subst this
  obtain ⟨k1,hK⟩:=hK
  have hrun : ∀ g o' len cap,a.eval x' = .slice (some ⟨g,o',none⟩) len cap→n.toNat < len→∀ w',Ext (fun _ _=>False) w w'→(execOp a.eval o).run P w' = .ok (.value (.pointer (some ⟨g,o' + n.toNat * sz,none⟩))) w':=by
   intro g o' len cap hv hlt w' _
   have hb : 0≤n∧n < len:=⟨k1,by omega⟩
   simp [execOp,ho,hv,← q2,C.val,Instr.indexAt,asIntOf,run_underlying hu,hb,Go.sizeOf,typeInfo,hi,jt,oA]
  cases p with
  | row m z A len cap e =>
   simp only [C.er] at hK
   obtain ⟨rfl,e',k2,k3⟩:=hK
   rw [C.cD] at k2
   split at k2
   ·rename_i hlt
    injection k2 with k2
    obtain ⟨h1,h2,h3,h4,h5⟩:=p3.ok
    obtain ⟨g,o',hA,_,_⟩:=h2 n.toNat 0 hlt h0
    refine iF h hd hn (x:=.ptr m g (o' + n.toNat * z) z fun j=>e n.toNat j) ⟨⟨fun j hj=>?_,?_,fun j hj=>?_,fun j hj b k hf=>?_⟩,fun j hj=>?_,fun b k hf=>?_⟩ ?_ ?_
    ·obtain ⟨g1,o1,nr,hcl,hz⟩:=h2 n.toNat j hlt hj
     rw [hA] at nr
     injection nr with nr
     injection nr with e1 e2
     injection e2 with e2
     subst e1; subst e2
     refine ⟨hcl,hz,fun hm=>?_⟩
     exact (p3.cz g 0 ⟨hm,.inl ⟨_,hA⟩⟩).elim
    ·obtain ⟨g1,o1,nr,hcl,hz⟩:=h2 n.toNat 0 hlt h0
     rw [hA] at nr
     injection nr with nr
     injection nr with e1 e2
     subst e1
     rcases Nat.lt_or_ge g w.heap.size with hg | hg
     ·exact hg
     ·simp [World.cell?,Array.getElem?_eq_none hg] at hcl
    ·obtain ⟨a1,a2,a3,a4⟩:=h3 n.toNat j hlt hj
     exact ⟨a1,a3,a4⟩
    ·obtain ⟨a1,a2,a3,a4⟩:=h3 n.toNat j hlt hj
     exact (p3.cz b k (C.jd a1 a3 hlt hj hf)).elim
    ·obtain ⟨a1,a2,a3,a4⟩:=h3 n.toNat j hlt hj
     show (e n.toNat j).rf G
     cases hh : e n.toNat j with
     | ref=>rw [hh] at a2; exact a2.elim
     | aA=>rw [hh] at a2; exact a2.elim
     | cut=>rw [hh] at a2; exact a2.elim
     | ptr=>rw [hh] at a2; exact a2.elim
     | agg=>rw [hh] at a2; exact a2.elim
     | au=>rw [hh] at a2; exact a2.elim
     | fn=>rw [hh] at a2; exact a2.elim
     | _=>trivial
    ·exact p3.cz g 0 ⟨hf.1,.inl ⟨_,hA⟩⟩
    ·exact hrun g o' len cap (by rw [← p2,C.val,hA]; rfl) hlt
    ·rw [← k2] at k3; exact k3
   ·cases k2
  | ref v r pp =>
   obtain ⟨y',z',hs,hF,hv,m,z1,A,len,cap,e,rfl⟩:=p3.rf
   cases hF with
   | row m m' sz' A len cap e e' =>
    simp only [C.er,look] at hK
    rw [← h.inv.er,C.fI,hs] at hK
    simp only [Option.map_some,C.er] at hK
    obtain ⟨k1,k2,k3⟩:=hK
    have NM : n.toNat < len:=by simpa using k2
    subst k1
    obtain ⟨h1,h2,h3,h4,h5⟩:=C.gd pp hs (h.inv.ok r)
    obtain ⟨g,o',hA,_,_⟩:=h2 n.toNat 0 NM h0
    subst hA
    refine iF h hd hn (x:=.aA (.pointer (some ⟨g,o' + n.toNat * _,none⟩)) r pp n.toNat 0) ⟨trivial,⟨_,hs,.inl ⟨_,_,_,_,_,_,_,rfl,rfl⟩⟩,fun _ _ hh=>hh⟩ ?_ k3
    exact hrun g o' len cap (by rw [← p2]; exact hv.symm) NM
  | cut v r pp lo hi =>
   obtain ⟨m,z1,A,len,cap,e,A',cap',hs,hv,hlo,hhi,hcap,jq,-,-⟩:=p3.rf
   simp only [C.er,look] at hK
   rw [← h.inv.er,C.fI,hs] at hK
   simp only [Option.map_some,C.er] at hK
   obtain ⟨k1,k2,k3⟩:=hK
   subst k1
   obtain ⟨h1,h2,h3,h4,h5⟩:=C.gd pp hs (h.inv.ok r)
   obtain ⟨g,o',hA,_,_⟩:=h2 (lo + n.toNat) 0 (by omega) h0
   subst hA
   refine iF h hd hn (x:=.aA (.pointer (some ⟨g,o' + (lo + n.toNat) * _,none⟩)) r pp (lo + n.toNat) 0) ⟨trivial,⟨_,hs,.inl ⟨_,_,_,_,_,_,_,rfl,rfl⟩⟩,fun _ _ hh=>hh⟩ ?_ k3
   have:=hrun g (o' + lo * z1) (hi - lo) cap' (by rw [← p2,C.val,hv,jq (by omega),Option.map_some,mX]; rfl) (by omega)
   intro w' hE
   rw [this w' hE,C.val,Nat.add_mul,Nat.add_assoc]
  | _=>simp only [C.er] at hK
 ·exact hK.elim
theorem ac3 (h : St c G zl s a w) {d i : Nat} {x : AV} {x' : Operand} (ho : o.op = .extract x' i) (hd : o.dst = some d) (hn : d < c.nt) (hx : aK x' x = true)
  (hK : aN P (.ext d x i) s K) : cW P c o a w K:=by
 obtain ⟨y,e1,e2,e3⟩:=bQ h hx
 simp only [aN] at hK
 rw [← e1] at hK
 cases y with
 | au n f =>
  simp only [C.er] at hK
  obtain ⟨hi,hK⟩:=hK
  have hi : i < n:=by simpa using hi
  ·have hX : ((List.range n).map fun j=>(f j).er).getD i .dead = (f i).er:=by
    rw [List.getD_eq_getElem?_getD,C.cD,if_pos hi]; rfl
   rw [hX] at hK
   refine iF h hd hn (x:=f i) ⟨(e3.ok.1 i hi).2,e3.rf i hi,fun b k hf=>e3.cz b k ⟨i,hi,hf⟩⟩ (fun w' _=>?_) hK
   have hv : ((List.range n).map fun j=>(f j).val).toArray[i]? = some (f i).val:=by
    rw [List.getElem?_toArray,C.cD,if_pos hi]
   simp only [execOp,ho,← e2,C.val,Instr.extract,hv,Sem.run_bind,Sem.run_pure,Result.andThen_ok]
 | _=>exact hK.elim
end
end M
namespace M
open Go Go.RowKit
variable [Bs]
section
variable {P : Program} {c : Ctx} {G : Nat→C} {zl : Nat→Nat→Prop} {s : ah} {a : Act} {w : World} {o : Oper} {K : ah→Prop}
theorem SR {n : Nat} {f : Nat→C} {j : Nat} (hj : j < n) : ((List.range n).map fun j=>(f j).val).toArray[j]? = some (f j).val:=by
 rw [List.getElem?_toArray,C.cD,if_pos hj]
theorem SS {zb : Nat→Nat→Prop} {n : Nat} {f : Nat→C} (hy : dG w zl zb G (.agg n f)) {off sz : Nat} (h : off + sz≤n) : dG w zl zb G (.agg sz fun j=>f (j + off)) where
 ok:=⟨fun j hj=>hy.ok.1 (j + off) (by omega),fun j hj b k hf j' hj' hne=>hy.ok.2 (j + off) (by omega) b k hf (j' + off) (by omega) (by omega)⟩
 rf:=fun j hj=>hy.rf (j + off) (by omega)
 cz:=fun b k ⟨j,hj,hf⟩=>hy.cz b k ⟨j + off,by omega,hf⟩
theorem Kz {zb : Nat→Nat→Prop} {n : Nat} {f : Nat→C} (hy : dG w zl zb G (.agg n f)) {j : Nat} (h : j < n) : dG w zl zb G (f j) where
 ok:=(hy.ok.1 j h).2
 rf:=hy.rf j h
 cz:=fun b k hf=>hy.cz b k ⟨j,h,hf⟩
theorem SU (n : Nat) (f : Nat→C) {off sz : Nat} (h : off + sz≤n) : (C.agg sz fun j=>f (j + off)).er = .agg ((((List.range n).map fun j=>(f j).er).drop off).take sz):=by
 simp only [C.er,← List.map_drop,mJ,← List.map_take,List.take_range]
 rw [Nat.min_eq_left (by omega),List.map_map]
 rfl
theorem SV (n : Nat) (f : Nat→C) {off sz : Nat} (h : off + sz≤n) : (C.agg sz fun j=>f (j + off)).val = .agg (((List.range n).map fun j=>(f j).val).toArray.extract off (off + sz)):=by
 simp only [C.val]
 congr 1
 apply Array.ext_getElem?
 intro i
 rw [List.getElem?_toArray,C.cD,Array.getElem?_extract]
 by_cases hi : i < sz
 ·have h1 : i < min (off + sz) ((List.range n).map fun j=>(f j).val).toArray.size - off:=by simp; omega
  rw [if_pos hi,if_pos h1,List.getElem?_toArray,C.cD,if_pos (by omega),Nat.add_comm]
 ·have h1 : ¬ i < min (off + sz) ((List.range n).map fun j=>(f j).val).toArray.size - off:=by simp; omega
  rw [if_neg hi,if_neg h1]
theorem aao (n : Nat) (f : Nat→C) {off : Nat} (h : off < n) : (((List.range n).map fun j=>(f j).er).drop off).headD .dead = (f off).er:=by
 rw [List.headD_eq_head?_getD,List.head?_drop,C.cD,if_pos h]
 rfl
theorem Pn {n : Nat} {f : Nat→C} {off sz : Nat} {agg : Bool} {ty : TypeId} (h : off + sz≤n) (h1 : agg = true∨sz = 1) (hsz : ∃ i,P.info? ty = some i∧i.size = sz) (k8 : ∃ dd,P.underlying ty = some dd∧(match dd with | .struct _=>true | .array _ _=>true | _=>false) = agg) :
  (part ty ((List.range n).map fun j=>(f j).val).toArray off).run P w = .ok (bif agg then (C.agg sz fun j=>f (j + off)) else f off).val w:=by
 obtain ⟨i,hi,jt⟩:=hsz
 obtain ⟨dd,wJ,hda⟩:=k8
 have q5 : (isAgg ty).run P w = .ok agg w:=by
  subst hda
  simp only [isAgg,Sem.run_bind,run_underlying wJ,Result.andThen_ok]
  cases dd <;> rfl
 have hsize : (Go.sizeOf ty).run P w = .ok sz w:=by simp [Go.sizeOf,typeInfo,hi,jt]
 unfold part
 simp only [Sem.run_bind,q5,Result.andThen_ok]
 cases agg with
 | true=>simp only [if_true,Sem.run_bind,hsize,Result.andThen_ok,Sem.run_pure,cond_true,SV n f h]
 | false =>
  have hs1 : sz = 1:=h1.resolve_left (by simp)
  simp only [Bool.false_eq_true,if_false,SR (f:=f) (show off < n by omega),Sem.run_pure,cond_false]
theorem MQ (h : St c G zl s a w) {n : Nat} {f : Nat→C} {off sz : Nat} {agg : Bool} (hy : dG w zl c.zb G (.agg n f)) (hb : off + sz≤n) (h1 : agg = true∨sz = 1) {d : Nat} (hd : o.dst = some d) (hn : d < c.nt)
  (hrun : ∀ w',Ext (fun _ _=>False) w w'→(execOp a.eval o).run P w' = .ok (.value (bif agg then (C.agg sz fun j=>f (j + off)) else f off).val) w')
  (hK : K (put d (bif agg then .agg ((((List.range n).map fun j=>(f j).er).drop off).take sz) else (((List.range n).map fun j=>(f j).er).drop off).headD .dead) s)) : cW P c o a w K:=by
 cases agg with
 | true=>exact iF h hd hn (SS hy hb) hrun (by rw [SU n f hb]; exact hK)
 | false =>
  have hs1 : sz = 1:=h1.resolve_left (by simp)
  exact iF h hd hn (Kz hy (by omega)) hrun (by rw [← aao n f (by omega)]; exact hK)
theorem ac5 (h : St c G zl s a w) {d off sz fi : Nat} {agg : Bool} {ty : TypeId} {fs : Array Field} {f : Field} {x : AV} {x' : Operand} (ho : o.op = .field ty x' fi) (hu : P.underlying ty = some (.struct fs)) (hf : fs[fi]? = some f) (hfo : f.offset = off)
  (hsz : ∃ i,P.info? f.type = some i∧i.size = sz) (k8 : ∃ dd,P.underlying f.type = some dd∧(match dd with | .struct _=>true | .array _ _=>true | _=>false) = agg)
  (h1 : agg = true∨sz = 1) (hd : o.dst = some d) (hn : d < c.nt) (hx : aK x' x = true) (hK : aN P (.me d x off sz agg) s K) : cW P c o a w K:=by
 obtain ⟨y,e1,e2,e3⟩:=bQ h hx
 subst hfo
 simp only [aN] at hK
 rw [← e1] at hK
 cases y with
 | agg n g =>
  simp only [C.er] at hK
  obtain ⟨hb,hK⟩:=hK
  have hb : f.offset + sz≤n:=by simpa using hb
  refine MQ h e3 hb h1 hd hn (fun w' _=>?_) hK
  simp only [execOp,ho,← e2,C.val,Instr.field,Sem.run_bind,run_underlying hu,Result.andThen_ok,hf,asAgg,Sem.run_pure,Pn hb h1 hsz k8]
 | _=>exact hK.elim
theorem acP (h : St c G zl s a w) {d n sz : Nat} {agg : Bool} {ty el : TypeId} {x y : AV} {x' y' : Operand} (ho : o.op = .index ty x' y') (hu : P.underlying ty = some (.array n el))
  (hsz : ∃ i,P.info? el = some i∧i.size = sz) (k8 : ∃ dd,P.underlying el = some dd∧(match dd with | .struct _=>true | .array _ _=>true | _=>false) = agg)
  (h1 : agg = true∨sz = 1) (hd : o.dst = some d) (hn : d < c.nt) (hx : aK x' x = true) (hy : aK y' y = true) (hK : aN P (.oC d n sz agg x y) s K) : cW P c o a w K:=by
 obtain ⟨p,p1,p2,p3⟩:=bQ h hx
 obtain ⟨q,q1,q2,q3⟩:=bQ h hy
 simp only [aN] at hK
 rw [← p1] at hK
 cases p with
 | agg m g =>
  simp only [C.er] at hK
  split at hK
  ·rename_i k j h2 h3
   injection h2 with h2
   subst h2
   rw [← q1] at h3
   have:=kY h3
   subst this
   obtain ⟨k1,k2,k3,hK⟩:=hK
   have k3 : m = n * sz:=by simpa using k3
   have hb : j.toNat * sz + sz≤m:=by
    rw [k3]
    have : (j.toNat + 1) * sz≤n * sz:=Nat.mul_le_mul_right _ (by omega)
    rw [Nat.add_mul] at this
    omega
   obtain ⟨i,hi,jt⟩:=hsz
   refine MQ h p3 hb h1 hd hn (fun w' _=>?_) hK
   have hrp:=Pn (P:=P) (w:=w') (f:=g) hb h1 ⟨i,hi,jt⟩ k8
   have hbd : 0≤j∧j < (n : Int):=⟨k1,k2⟩
   have hsize : (Go.sizeOf el).run P w' = .ok sz w':=by simp [Go.sizeOf,typeInfo,hi,jt]
   simp only [execOp,ho,← p2,← q2,C.val,Instr.index,asIntOf,Sem.run_bind,run_underlying hu,Result.andThen_ok,Sem.run_pure,if_pos hbd,hsize,hrp]
  ·exact hK.elim
 | _=>simp only [C.er] at hK
theorem ade (h : St c G zl s a w) {d : Nat} {ts : Array TypeId} {x y : AV} {x' y' : Operand} (ho : o.op = .call { callee:=.builtin .min,args:=#[x',y'],argTypes:=ts }) (hd : o.dst = some d) (hn : d < c.nt) (hx : aK x' x = true) (hy : aK y' y = true)
  (hK : aN P (.mn d [x,y]) s K) : cW P c o a w K:=by
 obtain ⟨p,p1,p2,p3⟩:=bQ h hx
 obtain ⟨q,q1,q2,q3⟩:=bQ h hy
 simp only [aN,List.map_cons,List.map_nil] at hK
 rw [← p1,← q1] at hK
 split at hK
 ·rename_i k m k' n he
  simp only [List.cons.injEq,and_true] at he
  have e1:=kY he.1
  have e2:=kY he.2
  subst e1; subst e2
  obtain ⟨rfl,hK⟩:=hK
  refine de h hd hn (x:=.int k (if n < m then n else m)) trivial (fun _ _ _ _ _ _ e=>(by cases e)) trivial (fun w' _=>?_) hK
  simp [execOp,ho,resolve,invoke,builtin,← p2,← q2,C.val,Builtin.min_,Builtin.min2]
 ·exact hK.elim
theorem adf (h : St c G zl s a w) {d : Nat} {ts : Array TypeId} {x y : AV} {x' y' : Operand} (ho : o.op = .call { callee:=.builtin .max,args:=#[x',y'],argTypes:=ts }) (hd : o.dst = some d) (hn : d < c.nt) (hx : aK x' x = true) (hy : aK y' y = true)
  (hK : aN P (.mx d [x,y]) s K) : cW P c o a w K:=by
 obtain ⟨p,p1,p2,p3⟩:=bQ h hx
 obtain ⟨q,q1,q2,q3⟩:=bQ h hy
 simp only [aN,List.map_cons,List.map_nil] at hK
 rw [← p1,← q1] at hK
 split at hK
 ·rename_i k m k' n he
  simp only [List.cons.injEq,and_true] at he
  have e1:=kY he.1
  have e2:=kY he.2
  subst e1; subst e2
  obtain ⟨rfl,hK⟩:=hK
  refine de h hd hn (x:=.int k (if n > m then n else m)) trivial (fun _ _ _ _ _ _ e=>(by cases e)) trivial (fun w' _=>?_) hK
  simp [execOp,ho,resolve,invoke,builtin,← p2,← q2,C.val,Builtin.max_,Builtin.max2]
 ·exact hK.elim
def kW : Option Operand→Option AV→Bool
 | none,none=>true
 | some x',some x=>aK x' x
 | _,_=>false
theorem Fo (h : St c G zl s a w) {lo' : Option Operand} {lo : Option AV} (hc : kW lo' lo = true) (d : Nat) (h0 : 0≤asNat s lo d) :
  (lo'.map a.eval = none∧asNat s lo d = d)∨∃ k,lo'.map a.eval = some (.int k (asNat s lo d)):=by
 cases lo' with
 | none =>
  cases lo with
  | none=>exact .inl ⟨rfl,rfl⟩
  | some x=>cases hc
 | some x' =>
  cases lo with
  | none=>cases hc
  | some x =>
   obtain ⟨p,p1,p2,p3⟩:=bQ h hc
   simp only [asNat] at h0 ⊢
   rw [← p1] at h0 ⊢
   cases p <;> simp [C.er] at h0
   ·exact .inr ⟨_,by simp only [Option.map_some,← p2]; rfl⟩
theorem run_sliceBound {k : IntKind} {i : Int} {y : Nat} {code : BoundsCode} (h : 0≤i∧i≤y) : (Instr.sliceBound (.int k i) y code).run P w = .ok i.toNat w:=by
 simp [Instr.sliceBound,asIntOf,h]
theorem Pm {w' : World} (h : St c G zl s a w) {lo' hi' : Option Operand} {lo hi : Option AV} (h1 : kW lo' lo = true) (h2 : kW hi' hi = true) {NL : Bool} {len cap : Nat} (hlc : len≤cap)
  (k1 : 0≤asNat s lo 0) (k2 : asNat s lo 0≤asNat s hi len) (k3 : asNat s hi len≤len) :
  (Instr.sliceBounds NL len cap (lo'.map a.eval) (hi'.map a.eval) none).run P w' = .ok ((asNat s lo 0).toNat,(asNat s hi len).toNat,cap) w':=by
 have B : ∀ {k : IntKind} {i : Int} {y : Nat} {code : BoundsCode},0≤i∧i≤y→(Instr.sliceBound (.int k i) y code).run P w' = .ok i.toNat w':=run_sliceBound
 unfold Instr.sliceBounds
 rcases Fo h h2 len (by omega) with ⟨e1,e2⟩ | ⟨k,e1⟩
 ·rw [e2] at k2 ⊢
  rcases Fo h h1 0 k1 with ⟨e3,e4⟩ | ⟨k',e3⟩
  ·rw [e1,e3,e4]
   simp
  ·rw [e1,e3]
   simp only [Sem.run_bind,Sem.run_pure,Result.andThen_ok,B (And.intro k1 k2)]
   simp
 ·rcases Fo h h1 0 k1 with ⟨e3,e4⟩ | ⟨k',e3⟩
  ·rw [e1,e3,e4]
   simp only [Sem.run_bind,Sem.run_pure,Result.andThen_ok,B (show 0≤asNat s hi len∧asNat s hi len≤(cap : Int) by omega)]
   simp
  ·rw [e1,e3]
   have hle : asNat s lo 0≤((asNat s hi len).toNat : Int):=by omega
   simp only [Sem.run_bind,Sem.run_pure,Result.andThen_ok,B (show 0≤asNat s hi len∧asNat s hi len≤(cap : Int) by omega),B (And.intro k1 hle)]
theorem adn (h : St c G zl s a w) {d : Nat} {ty : TypeId} {x : AV} {x' : Operand} {lo' hi' : Option Operand} {lo hi : Option AV} (ho : o.op = .slice ty x' lo' hi' none) (hu : P.underlying ty = some .string) (hd : o.dst = some d) (hn : d < c.nt) (hx : aK x' x = true)
  (h1 : kW lo' lo = true) (h2 : kW hi' hi = true) (hK : aN P (.fo d x lo hi) s K) : cW P c o a w K:=by
 obtain ⟨y,e1,e2,e3⟩:=bQ h hx
 simp only [aN] at hK
 split at hK
 ·rename_i t ht
  rw [← e1] at ht
  have:=Bb ht
  subst this
  obtain ⟨k1,k2,k3,k4⟩:=hK
  refine de h hd hn (x:=.str _) trivial (fun _ _ _ _ _ _ e=>(by cases e)) ?_ (fun w' _=>?_) k4
  ·have : t.size≤9223372036854775807:=e3.ok
   show (t.extract _ _).size≤_
   rw [ByteArray.size_extract]
   omega
  ·simp only [execOp,ho,← e2,C.val,Instr.sliceAt,Instr.slice,Sem.run_bind,run_underlying hu,Result.andThen_ok,Option.map_none,Option.isSome_none,Bool.false_eq_true,if_false,Sem.run_pure,Pm h h1 h2 (Nat.le_refl t.size) k1 k2 k3]
 ·exact hK.elim
theorem adj (h : St c G zl s a w) {d sz : Nat} {ty el : TypeId} {x : AV} {x' : Operand} {lo' hi' : Option Operand} {lo hi : Option AV} (ho : o.op = .slice ty x' lo' hi' none) (hu : P.underlying ty = some (.slice el)) (hsz : ∃ i,P.info? el = some i∧i.size = sz) (hd : o.dst = some d) (hn : d < c.nt) (hx : aK x' x = true)
  (h1 : kW lo' lo = true) (h2 : kW hi' hi = true) (hK : aN P (.kL d sz x lo hi) s K) : cW P c o a w K:=by
 obtain ⟨y,e1,e2,e3⟩:=bQ h hx
 obtain ⟨xs,k0,k1,k2,k3,hK⟩:=hK
 rw [← e1] at k0 hK
 obtain ⟨ii,hii,jt⟩:=hsz
 have hsize : ∀ w : World,(Go.sizeOf el).run P w = .ok sz w:=by intro w; simp [Go.sizeOf,typeInfo,hii,jt]
 have hrun : ∀ (A : Option Ad) (cap : Nat),y.val = .slice (A.map fun q=>⟨q.1,q.2.1,q.2.2⟩) xs.length cap→xs.length≤cap→∃ A' cap',(∀ w',Ext (fun _ _=>False) w w'→(execOp a.eval o).run P w' = .ok (.value (.slice (Option.map (fun q : Ad=>(⟨q.1,q.2.1,q.2.2⟩ : Addr)) A') (((asNat s hi xs.length).toNat - (asNat s lo 0).toNat)) cap')) w') ∧
   cap' = cap - (asNat s lo 0).toNat∧(A = none→A' = none)∧((asNat s lo 0).toNat < cap→A' = A.map fun q=>iA ((asNat s lo 0).toNat * sz) q)∧((A' = A∧cap' = 0)∨A' = A.map fun q=>iA ((asNat s lo 0).toNat * sz) q):=by
  intro A cap hv hcap
  refine ⟨if cap = (asNat s lo 0).toNat then A else A.map fun q=>iA ((asNat s lo 0).toNat * sz) q,cap - (asNat s lo 0).toNat,fun w' _=>?_,rfl,fun hA=>by subst hA; split <;> rfl,fun hlt=>if_neg (by omega),?_⟩
  rotate_left
  ·by_cases hh : cap = (asNat s lo 0).toNat
   ·exact .inl ⟨if_pos hh,by omega⟩
   ·exact .inr (if_neg hh)
  have hb:=Pm (P:=P) (w':=w') h h1 h2 (NL:=true) hcap k1 k2 k3
  simp only [execOp,ho,← e2,hv,Instr.sliceAt,Instr.slice,Sem.run_bind,run_underlying hu,Result.andThen_ok,Option.map_none,hb,hsize,Sem.run_pure]
  congr 3
  split
  ·rfl
  ·cases A with
   | none=>rfl
   | some q=>simp [SO]
 cases y with
 | row m z A len cap e =>
  simp only [C.er,rowAt,Option.some.injEq,Prod.mk.injEq] at k0
  obtain ⟨rfl,rfl⟩:=k0
  have hlen : ((List.range len).map fun i=>(List.range z).map fun j=>(e i j).er).length = len:=by simp
  rw [hlen] at hrun k2 k3 hK
  obtain ⟨o1,o2,o3,o4,o5⟩:=e3.ok
  obtain ⟨A',cap',r1,r2,r3,r4,-⟩:=hrun A cap rfl o1
  obtain ⟨L,hL⟩ : ∃ L,L = (asNat s lo 0).toNat:=⟨_,rfl⟩
  obtain ⟨H,hH⟩ : ∃ H,H = (asNat s hi len).toNat:=⟨_,rfl⟩
  rw [← hL,← hH] at r1 hK
  rw [← hL] at r2 r4
  have hLH : L≤H:=by omega
  have Z8 : H≤len:=by omega
  have jq : L < H→A' = A.map fun q=>iA (L * z) q:=fun hlt=>r4 (by omega)
  refine iF h hd hn (x:=.row m z A' (H - L) cap' fun i j=>e (i + L) j) ⟨⟨by omega,fun i j hi hj=>?_,fun i j hi hj=>o3 (i + L) j (by omega) hj,fun hm=>?_,fun i j hi hj b k hf=>?_⟩,trivial,fun b k hf=>?_⟩ r1 ?_
  ·obtain ⟨g,o',q1,q2,q3⟩:=o2 (i + L) j (by omega) hj
   refine ⟨g,o' + L * z,by rw [jq (by omega),q1,Option.map_some,mX],?_,fun hm=>?_⟩
   ·rw [show o' + L * z + i * z + j = o' + (i + L) * z + j by rw [Nat.add_mul]; omega]; exact q2
   ·rw [show o' + L * z + i * z + j = o' + (i + L) * z + j by rw [Nat.add_mul]; omega]; exact q3 hm
  ·rcases o4 hm with ⟨q1,q2⟩ | ⟨g,o',arr,t,fz,q1,_⟩
   ·exact .inl ⟨r3 q1,by omega⟩
   ·exact (e3.cz g 0 ⟨hm,.inl ⟨_,q1⟩⟩).elim
  ·exact (e3.cz b k (C.jd (o3 (i + L) j (by omega) hj).1 (o3 (i + L) j (by omega) hj).2.2.1 (by omega) hj hf)).elim
  ·obtain ⟨hm,⟨o',hA⟩ | ⟨i,j,hi,hj,hf⟩⟩:=hf
   ·rcases o4 hm with ⟨q1,_⟩ | ⟨g,o2',_,_,_,q1,_⟩
    ·rw [r3 q1] at hA; cases hA
    ·exact e3.cz g 0 ⟨hm,.inl ⟨_,q1⟩⟩
   ·exact e3.cz b k (C.jd (o3 (i + L) j (by omega) hj).1 (o3 (i + L) j (by omega) hj).2.2.1 (by omega) hj hf)
  ·have hX : (C.row m z A' (H - L) cap' fun i j=>e (i + L) j).er = .row m z ((((List.range len).map fun i=>(List.range z).map fun j=>(e i j).er).take H).drop L):=by
    simp only [C.er,← List.map_take,← List.map_drop,List.take_range]
    rw [Nat.min_eq_left Z8,mJ,List.map_map]
    rfl
   rw [hX]
   exact hK
 | ref v r p =>
  obtain ⟨y',z',hs,hF,hv,m,sz',A,len,cap,e,rfl⟩:=e3.rf
  cases hF with
  | row m m' sz' A len cap e e' =>
   simp only [C.er,rowAt,look] at k0
   rw [← h.inv.er,C.fI,hs] at k0
   simp only [Option.map_some,C.er,Option.some.injEq,Prod.mk.injEq] at k0
   obtain ⟨rfl,rfl⟩:=k0
   have hlen : ((List.range len).map fun i=>(List.range sz').map fun j=>(e' i j).er).length = len:=by simp
   rw [hlen] at hrun k2 k3 hK
   obtain ⟨o1,o2,o3,o4,o5⟩:=C.gd p hs (h.inv.ok r)
   obtain ⟨A',cap',r1,r2,r3,r4,r5⟩:=hrun A cap hv.symm o1
   refine iF h hd hn (x:=.cut _ r p (asNat s lo 0).toNat (asNat s hi len).toNat) ⟨trivial,⟨m',_,A,len,cap,e',A',cap',hs,rfl,by omega,by omega,by omega,fun hlt=>r4 (by omega),by omega,r5⟩,fun _ _ hh=>hh⟩ r1 hK
 | _=>exact hK.elim
def kf : List Operand→List AV→Bool
 | [],[]=>true
 | x' :: l',x :: l=>aK x' x && kf l' l
 | _,_=>false
theorem IF (h : St c G zl s a w) : ∀ {l' : List Operand} {l : List AV},kf l' l = true→∃ cs : List C,cs.map C.er = l.map (ax s)∧cs.map C.val = l'.map a.eval∧∀ x∈cs,dG w zl c.zb G x
 | [],[],_=>⟨[],rfl,rfl,fun _ hx=>(by cases hx)⟩
 | x' :: l',x :: l,hc=>by
  simp only [kf,Bool.and_eq_true] at hc
  obtain ⟨cs,l1,l2,l3⟩:=IF h hc.2
  obtain ⟨p,p1,p2,p3⟩:=bQ h hc.1
  refine ⟨p :: cs,by simp [p1,l1],by simp [p2,l2],fun x hx=>?_⟩
  rcases List.mem_cons.1 hx with rfl | hx
  ·exact p3
  ·exact l3 x hx
 | [],_ :: _,hc=>by cases hc
 | _ :: _,[],hc=>by cases hc
theorem adb (h : St c G zl s a w) {d : Nat} {f : FuncId} {cs : List AV} {cs' : Array Operand} (ho : o.op = .makeFunc (.func f) #[] cs') (hd : o.dst = some d) (hn : d < c.nt) (hx : kf cs'.toList cs = true)
  (hK : aN P (.lJ d f cs) s K) : cW P c o a w K:=by
 obtain ⟨l,l1,l2,l3⟩:=IF h hx
 refine iF h hd hn (x:=.fn f l.length fun j=>l.getD j (.dead undef)) ⟨fun j hj=>⟨(l3 _ (cv hj _)).ok,(l3 _ (cv hj _)).cz⟩,fun j hj=>(l3 _ (cv hj _)).rf,fun _ _ hh=>hh⟩ (fun w' _=>?_) ?_
 ·have : (C.fn f l.length fun j=>l.getD j (.dead undef)).val = .func (.func f) #[] (l.map C.val).toArray:=by
   show Value.func _ _ _ = _
   rw [kI l _ C.val]
  rw [this,l2]
  have hm : (cs'.toList.map a.eval).toArray = cs'.map a.eval:=by
   rw [← Array.toList_map,Array.toArray_toList]
  rw [hm]
  simp [execOp,ho,Instr.makeFunc]
 ·have : (C.fn f l.length fun j=>l.getD j (.dead undef)).er = .fn f (l.map C.er):=by
   show X.fn _ _ = _
   rw [kI l _ C.er]
  rw [this,l1]
  exact hK
theorem adp (h : St c G zl s a w) {d : Nat} {src dst el : TypeId} {x : AV} {x' : Operand} (ho : o.op = .convert src dst x') (hs : P.underlying src = some (.slice el)) (he : P.underlying el = some (.int .u8)) (hdt : P.underlying dst = some .string) (hd : o.dst = some d) (hn : d < c.nt) (hx : aK x' x = true)
  (hK : aN P (.text d x) s K) : cW P c o a w K:=by
 obtain ⟨y,e1,e2,e3⟩:=bQ h hx
 obtain ⟨xs,k1,k2,l,k3,hK⟩:=hK
 rw [← e1] at k1
 obtain ⟨A,len,cap,e,hxs,hv⟩:=I4 h.inv e3 k1
 have hlen : len = l.length:=by
  have:=congrArg List.length (hxs.symm.trans k3)
  simpa [cU] using this
 subst hlen
 have hcell : ∀ j (hj : j < l.length),(e j 0).val = .int .u8 (l[j].toNat : Int):=by
  intro j hj
  have:=congrArg (fun t : List (List X)=>t[j]?) (hxs.symm.trans k3)
  simp only [cU] at this
  rw [C.cD,if_pos hj,List.getElem?_map,List.getElem?_eq_getElem hj] at this
  simp only [Option.map_some,Option.some.injEq] at this
  have hz : (e j 0).er = .int .u8 (l[j].toNat : Int):=by
   have h2:=congrArg (fun t : List X=>t[0]?) this
   simpa using h2
  rw [kY hz]
  rfl
 refine de h hd hn (x:=.str ⟨l.toArray⟩) trivial (fun _ _ _ _ _ _ e=>(by cases e)) ?_ (fun w' hE=>?_) hK
 ·show (⟨l.toArray⟩ : ByteArray).size≤_
  rw [k3] at k2
  simpa [ByteArray.size] using k2
 ·cases hA : A with
  | none =>
   have hl0 : l = []:=by
    cases hl : l with
    | nil=>rfl
    | cons b t =>
     obtain ⟨g,o',hg,_⟩:=hv.cell 0 0 (by rw [hl]; simp) (by omega)
     rw [hA] at hg; cases hg
   subst hl0
   have dH:=hv.val
   rw [hA] at dH
   simp only [Option.map_none] at dH
   simp [execOp,ho,← e2,dH,convert,run_underlying hs,run_underlying he,run_underlying hdt,Conv.bytesToString,C.val]
   rfl
  | some q =>
   have dH:=hv.val
   rw [hA] at dH
   simp only [Option.map_some] at dH
   have:=run_convert_bytes_back (P:=P) w' src dst el ⟨q.1,q.2.1,q.2.2⟩ cap l hs he hdt (fun j hj=>by
    obtain ⟨g,o',hg,hcl⟩:=hv.cell j 0 hj (by omega)
    rw [hA] at hg
    injection hg with hg
    subst hg
    rw [oA,← hcell j hj]
    exact hE.cell (fun hs=>hs) (by simpa using hcl))
   simp [execOp,ho,← e2,dH,this,C.val]
end
end M
namespace M
open Go Go.RowKit
variable [Bs]
variable {w w' : World} {zl zb : Nat→Nat→Prop} {G G1 : Nat→C} {s s1 : ah} {Z : Md→Nat→Nat→Prop}
theorem nk {α : Type} {l : List α} {i : Nat} {x : α} (h : l[i]? = some x) (d : α) : l.getD i d = x:=by rw [List.getD_eq_getElem?_getD,h]; rfl
theorem C.Mn (c : C) : c.fits .own:=by cases c <;> first | trivial | exact .inl rfl
theorem wu {α : Type} {sz : Nat} : ∀ {L : List (List α)} (h : ∀ e∈L,e.length = sz) (i j : Nat) (hi : i < L.length) (hj : j < sz),L.flatten[i * sz + j]? = (L[i]?).bind (·[j]?)
 | [],h,i,j,hi,hj=>by simp at hi
 | e :: L,h,0,j,hi,hj=>by
  have:=h e (List.mem_cons_self ..)
  simp only [Nat.zero_mul,Nat.zero_add,List.flatten_cons,List.getElem?_cons_zero,Option.bind_some]
  rw [List.getElem?_append_left (by omega)]
 | e :: L,h,i + 1,j,hi,hj=>by
  have he:=h e (List.mem_cons_self ..)
  have hh : ∀ e∈L,e.length = sz:=fun x hx=>h x (List.mem_cons_of_mem _ hx)
  simp only [List.flatten_cons,List.getElem?_cons_succ]
  rw [List.getElem?_append_right (by rw [he,Nat.add_mul]; omega),← wu hh i j (by simpa using hi) hj,he]
  congr 1
  rw [Nat.add_mul]; omega
theorem oW {α : Type} {sz : Nat} : ∀ {L : List (List α)} (h : ∀ e∈L,e.length = sz),L.flatten.length = L.length * sz
 | [],h=>by simp
 | e :: L,h=>by
  rw [List.flatten_cons,List.length_append,h e (List.mem_cons_self ..),oW fun x hx=>h x (List.mem_cons_of_mem _ hx),List.length_cons,Nat.add_mul]
  omega
def uU (L : List (List C)) (i j : Nat) : C:=(L.getD i []).getD j (.dead undef)
def rT (g o sz cap : Nat) (L : List (List C)) : C:=.row .own sz (some (g,o,none)) L.length cap (uU L)
theorem uV {L : List (List C)} {sz i j : Nat} (h : ∀ e∈L,e.length = sz) (hi : i < L.length) (hj : j < sz) : L.flatten[i * sz + j]? = some (uU L i j)∧uU L i j∈L.flatten:=by
 have h1 : L[i]? = some L[i]:=List.getElem?_eq_getElem hi
 have hl : L[i].length = sz:=h _ (List.getElem_mem hi)
 have h2 : (L[i])[j]? = some (L[i])[j]:=List.getElem?_eq_getElem (by omega)
 have h3 : uU L i j = (L[i])[j]:=by unfold uU; rw [nk h1,nk h2]
 have h4:=wu h i j hi hj
 rw [h1,Option.bind_some,h2] at h4
 rw [h3]
 exact ⟨h4,List.mem_of_getElem? h4⟩
theorem O9 {g o sz cap : Nat} {L : List (List C)} (h : ∀ e∈L,e.length = sz) : (rT g o sz cap L).er = .row .own sz (L.map fun e=>e.map C.er):=by
 simp only [rT,C.er]
 congr 1
 apply List.ext_getElem?
 intro i
 rw [C.cD,List.getElem?_map]
 by_cases hi : i < L.length
 ·rw [if_pos hi,List.getElem?_eq_getElem hi,Option.map_some]
  congr 1
  have hl : L[i].length = sz:=h _ (List.getElem_mem hi)
  apply List.ext_getElem?
  intro j
  rw [C.cD,List.getElem?_map]
  by_cases hj : j < sz
  ·rw [if_pos hj,List.getElem?_eq_getElem (by omega),Option.map_some]
   unfold uU
   rw [nk (List.getElem?_eq_getElem hi),nk (List.getElem?_eq_getElem (by omega))]
  ·rw [if_neg hj,List.getElem?_eq_none (by omega)]; rfl
 ·rw [if_neg hi,List.getElem?_eq_none (by omega)]; rfl
theorem adQ (g o sz cap : Nat) (L : List (List C)) : (rT g o sz cap L).val = .slice (some ⟨g,o,none⟩) L.length cap:=rfl
theorem Pa {g o sz cap : Nat} {L : List (List C)} (h : ∀ e∈L,e.length = sz) {b k : Nat} (hf : (rT g o sz cap L).fp b k) : b = g∨∃ x∈L.flatten,x.fp b k:=by
 obtain ⟨_,⟨o',hA⟩ | ⟨i,j,hi,hj,hf⟩⟩:=hf
 ·injection hA with hA; injection hA with e1 e2; exact .inl e1.symm
 ·exact .inr ⟨_,(uV h hi hj).2,hf⟩
theorem ads {l : List C} (h : l.Pairwise fun a b=>∀ x k,a.fp x k→¬ b.fp x k) {p q : Nat} {x y : C} (hp : l[p]? = some x) (hq : l[q]? = some y) (hne : p≠q) {b k : Nat} (hf : x.fp b k) : ¬ y.fp b k:=by
 obtain ⟨hp',rfl⟩:=List.getElem?_eq_some_iff.1 hp
 obtain ⟨mq,rfl⟩:=List.getElem?_eq_some_iff.1 hq
 rcases Nat.lt_or_gt_of_ne hne with hlt | hlt
 ·exact List.pairwise_iff_getElem.1 h p q hp' mq hlt b k hf
 ·exact fun hf'=>List.pairwise_iff_getElem.1 h q p mq hp' hlt b k hf' hf
theorem Pb {g o sz cap : Nat} {L : List (List C)} (h : ∀ e∈L,e.length = sz) (hcap : L.length≤cap) {arr : Array Value} {t : TypeId} {fz : Nat×Nat} (hh : w.heap[g]? = some (.cells arr t fz)) (hsz : o + cap * sz≤arr.size)
  (hfr : ∀ k,o≤k→k < o + cap * sz→w.frozen? ⟨g,k,none⟩ = false) (hcell : ∀ q x,L.flatten[q]? = some x→w.cell? ⟨g,o + q,none⟩ = some x.val)
  (hx : ∀ x∈L.flatten,x.cell∧x.cA∧x.ok w Z) (fT : L.flatten.Pairwise fun a b=>∀ x k,a.fp x k→¬ b.fp x k) (hg : ∀ x∈L.flatten,∀ b k,x.fp b k→b≠g) : (rT g o sz cap L).ok w Z:=by
 refine ⟨hcap,fun i j hi hj=>⟨g,o,rfl,?_,fun hm=>(hm rfl).elim⟩,fun i j hi hj=>?_,fun _=>.inr ⟨g,o,arr,t,fz,rfl,hh,hsz,hfr⟩,fun i j hi hj b k hf=>⟨fun _ o' hA=>?_,fun i' j' hi' hj' hne=>?_⟩⟩
 ·rw [Nat.add_assoc]; exact hcell _ _ (uV h hi hj).1
 ·obtain ⟨a1,a2,a3⟩:=hx _ (uV h hi hj).2
  exact ⟨a1,a2,C.Mn _,a3⟩
 ·injection hA with hA; injection hA with e1 e2
  exact hg _ (uV h hi hj).2 b k hf e1.symm
 ·refine ads fT (uV h hi hj).1 (uV h hi' hj').1 (fun e=>hne ?_) hf
  obtain ⟨rfl,rfl⟩:=IJ hj hj' e
  rfl
def yX (g : Nat) (l : List C) : C:=.ptr .own g 0 l.length fun j=>l.getD j (.dead undef)
theorem adB (g : Nat) (l : List C) : (yX g l).er = .ptr .own (l.map C.er):=by simp only [yX,C.er,kI]
theorem adC {g : Nat} {l : List C} {b k : Nat} (hf : (yX g l).fp b k) : b = g∨∃ x∈l,x.fp b k:=by
 obtain ⟨_,hA | ⟨j,hj,hf⟩⟩:=hf
 ·exact .inl hA.1
 ·exact .inr ⟨_,cv hj _,hf⟩
theorem adD {g : Nat} {l : List C} (hg : g < w.heap.size) (hcell : ∀ q x,l[q]? = some x→w.cell? ⟨g,q,none⟩ = some x.val) (hfr : ∀ k,k < l.length→w.frozen? ⟨g,k,none⟩ = false)
  (hx : ∀ x∈l,x.cell∧x.ok w Z) (fT : l.Pairwise fun a b=>∀ x k,a.fp x k→¬ b.fp x k) (hgx : ∀ x∈l,∀ b k,x.fp b k→b≠g) : (yX g l).ok w Z:=by
 refine ⟨fun j hj=>⟨?_,fun hm=>(hm rfl).elim,fun _=>?_⟩,hg,fun j hj=>?_,fun j hj b k hf=>⟨fun _ hb=>?_,fun j' hj' hne=>?_⟩⟩
 ·rw [Nat.zero_add]
  exact hcell j _ (by show _ = some (l.getD j (.dead undef)); rw [nk (List.getElem?_eq_getElem hj)]; exact List.getElem?_eq_getElem hj)
 ·rw [Nat.zero_add]; exact hfr j hj
 ·obtain ⟨a1,a3⟩:=hx _ (cv hj (.dead undef))
  exact ⟨a1,C.Mn _,a3⟩
 ·exact hgx _ (cv hj _) b k hf hb.1
 ·exact uR fT _ hj hj' hne hf
def C.cells : C→List C
 | .agg n f=>(List.range n).map f
 | .au _ _=>[]
 | .dead _=>[]
 | x=>[x]
def C.shape (x : C) : Prop:=x.cells = []∨(∃ n f,x = .agg n f)∨(x.cells = [x]∧x.cell)
theorem Ez {x : C} (h : x.rf G) : x.shape:=by
 cases x with
 | agg n f=>exact .inr (.inl ⟨n,f,rfl⟩)
 | au n f=>exact .inl rfl
 | dead v=>exact .inl rfl
 | ref v r p=>exact .inr (.inr ⟨rfl,I2 h⟩)
 | aA v r p i c =>
  obtain ⟨y,hs,hy⟩:=h
  refine .inr (.inr ⟨rfl,?_⟩)
  rcases hy with ⟨m,sz,g,o',len,cap,e,rfl,hv⟩ | ⟨m,g,o',n,cc,rfl,_,hv⟩ <;> (subst hv; rfl)
 | cut v r p lo hi =>
  obtain ⟨m,sz,A,len,cap,e,A',cap',hs,hv,_⟩:=h
  refine .inr (.inr ⟨rfl,?_⟩)
  subst hv; rfl
 | _=>exact .inr (.inr ⟨rfl,trivial⟩)
theorem qI (x : C) : x.cells.map C.er = cellsOf x.er:=by
 cases x <;> simp [C.cells,C.er,cellsOf]
theorem AW {x : C} (h : 0 < x.cells.length) (hc : x.shape) : x.val.cells = (x.cells.map C.val).toArray:=by
 rcases hc with hc | ⟨n,f,rfl⟩ | ⟨h1,h2⟩
 ·rw [hc] at h; simp at h
 ·simp [C.cells,C.val,Value.cells]
 ·rw [h1]; exact acM (Inv.oK h2)
theorem vW {x y : C} (hy : y∈x.cells) {b k : Nat} (hf : y.fp b k) : x.fp b k:=by
 cases x with
 | agg n f =>
  obtain ⟨j,hj,rfl⟩:=List.mem_map.1 hy
  exact ⟨j,by simpa using hj,hf⟩
 | au n f=>cases hy
 | dead v=>cases hy
 | _=>simp only [C.cells,List.mem_singleton] at hy; subst hy; exact hf
theorem s7 {x y : C} (hc : x.shape) (hx : x.ok w Z) (hy : y∈x.cells) : y.cell∧y.ok w Z:=by
 rcases hc with hc | ⟨n,f,rfl⟩ | ⟨h1,h2⟩
 ·rw [hc] at hy; cases hy
 ·obtain ⟨j,hj,rfl⟩:=List.mem_map.1 hy
  exact hx.1 j (by simpa using hj)
 ·rw [h1,List.mem_singleton] at hy; subst hy; exact ⟨h2,hx⟩
theorem F1 {x y : C} (hx : x.rf G) (hy : y∈x.cells) : y.rf G:=by
 cases x with
 | agg n f =>
  obtain ⟨j,hj,rfl⟩:=List.mem_map.1 hy
  exact hx j (by simpa using hj)
 | au n f=>cases hy
 | dead v=>cases hy
 | _=>simp only [C.cells,List.mem_singleton] at hy; subst hy; exact hx
theorem Vx {x : C} (hx : x.ok w Z) : x.cells.Pairwise fun a b=>∀ x k,a.fp x k→¬ b.fp x k:=by
 cases x with
 | agg n f =>
  refine List.pairwise_map.2 ?_
  refine List.Pairwise.imp_of_mem (R:=fun a b=>a < b) ?_ List.pairwise_lt_range
  intro i j hi hj hlt b k hf
  exact hx.2 i (by simpa using hi) b k hf j (by simpa using hj) (by omega)
 | au n f=>exact List.Pairwise.nil
 | dead v=>exact List.Pairwise.nil
 | _=>exact List.pairwise_singleton _ _
theorem bx.one {c : C} (h : ey w zl zb G c G1 s1) : bx w zl zb G [c] G1 s1:=bx.cons h (bx.nil h.inv)
theorem bx.flat {cs : List C} (h : bx w zl zb G cs G1 s1) (hc : ∀ x∈cs,x.shape) : bx w zl zb G (cs.flatMap C.cells) G1 s1 where
 inv:=h.inv
 all:=fun c hx=>by
  obtain ⟨x,hx,jb⟩:=List.mem_flatMap.1 hx
  obtain ⟨a1,a2,a3,a4⟩:=h.all x hx
  exact ⟨(s7 (hc x hx) a1 jb).2,fun t b k hf=>a2 t b k (vW jb hf),fun b k hf=>a3 b k (vW jb hf),fun b k hf=>a4 b k (vW jb hf)⟩
 apart:=by
  have h1:=h.apart
  have h2:=h.all
  clear h hc
  induction cs with
  | nil=>exact List.Pairwise.nil
  | cons x cs ih =>
   rw [List.flatMap_cons]
   rw [List.pairwise_cons] at h1
   refine List.pairwise_append.2 ⟨Vx (h2 x (List.mem_cons_self ..)).1,ih h1.2 (fun c hc=>h2 c (List.mem_cons_of_mem _ hc)),fun a ha b hb y k hf hf'=>?_⟩
   obtain ⟨x',hx',hb⟩:=List.mem_flatMap.1 hb
   exact h1.1 x' hx' y k (vW ha hf) (vW hb hf')
 val:=h.val
 mono:=h.mono
namespace Inv
theorem ext (h : Inv w zl zb G s) {S : Nat→Nat→Prop} (hE : Ext S w w') (hS : ∀ t b k,(G t).fp b k→¬ S b k) (hZ : ∀ b k,zl b k∨zb b k→¬ S b k) : Inv w' zl zb G s where
 er:=h.er
 ok:=fun t=>C.eL hE (fun m b k hz=>by cases m with
  | own=>exact hz.elim
  | sl=>exact hZ b k (.inl hz)
  | af=>exact hZ b k hz) _ (hS t) (h.ok t)
 sep:=h.sep
 fz:=h.fz
 rf:=h.rf
 cm:=fun b k hz=>Nat.lt_of_lt_of_le (h.cm b k hz) hE.size
end Inv
theorem St.fresh' {c : Ctx} {zl : Nat→Nat→Prop} {a : Act} {l : List C} {S : Nat→Nat→Prop} (h : St c G zl s a w) (hT : bx w zl c.zb G l G1 s1) (hE : Ext S w w') (hS : ∀ b k,S b k→w.heap.size≤b∨∃ y∈l,y.fp b k) {x : C} {n : Nat} (hn : n < c.nt) (hok : x.ok w' (Zf zl c.zb)) (hrf : x.rf G1)
  (bV : ∀ b k,x.fp b k→w.heap.size≤b∨∃ y∈l,y.fp b k) : ∃ G',St c G' zl (M.put n x.er s1) (a.put (some n) x.val) w':=by
 have hi : Inv w' zl c.zb G1 s1:=hT.inv.ext hE (fun t b k hf hs=>by
  rcases hS b k hs with hb | ⟨y,hy,hf'⟩
  ·have:=C.eC _ (hT.inv.ok t) b k hf; omega
  ·exact (hT.all y hy).2.1 t b k hf' hf) (fun b k hz hs=>by
  rcases hS b k hs with hb | ⟨y,hy,hf'⟩
  ·have:=hT.inv.cm b k hz; omega
  ·exact hz.elim ((hT.all y hy).2.2.1 b k hf').1 ((hT.all y hy).2.2.1 b k hf').2)
 have hdom : ∀ b k,(w.heap.size≤b∨∃ y∈l,y.fp b k)→c.F0 b k∨c.w0.heap.size≤b:=fun b k hh=>by
  rcases hh with hb | ⟨y,hy,hf⟩
  ·exact .inr (Nat.le_trans h.tr.ext.size hb)
  ·obtain ⟨t,ht⟩:=(hT.all y hy).2.2.2 b k hf
   exact h.tr.dom t b k ht
 have h1 : St c G1 zl s1 a w':=h.move hi hT.val hE (fun b k hs=>hdom b k (hS b k hs)) (fun t b k hf=>.inl ⟨t,hT.mono t b k hf⟩)
 refine h1.put hn hok (fun t _ b k hf hf'=>?_) (fun b k hf=>?_) hrf (fun b k hf=>hdom b k (bV b k hf))
 ·rcases bV b k hf with hb | ⟨y,hy,hf⟩
  ·have:=C.eC _ (hT.inv.ok t) b k hf'; omega
  ·exact (hT.all y hy).2.1 t b k hf hf'
 ·rcases bV b k hf with hb | ⟨y,hy,hf⟩
  ·exact ⟨fun hz=>by have:=hT.inv.cm b k (.inl hz); omega,fun hz=>by have:=hT.inv.cm b k (.inr hz); omega⟩
  ·exact (hT.all y hy).2.2.1 b k hf
theorem St.fresh {c : Ctx} {zl : Nat→Nat→Prop} {a : Act} {l : List C} (h : St c G zl s a w) (hT : bx w zl c.zb G l G1 s1) (hE : Ext (fun b _=>w.heap.size≤b) w w') {x : C} {n : Nat} (hn : n < c.nt) (hok : x.ok w' (Zf zl c.zb)) (hrf : x.rf G1)
  (bV : ∀ b k,x.fp b k→w.heap.size≤b∨∃ y∈l,y.fp b k) : ∃ G',St c G' zl (M.put n x.er s1) (a.put (some n) x.val) w' :=
 h.fresh' hT hE (fun _ _ hs=>.inl hs) hn hok hrf bV
theorem bx.fits' {l : List C} {S : Nat→Nat→Prop} (hT : bx w zl zb G l G1 s1) (hE : Ext S w w') (hZ : ∀ b k,zl b k∨zb b k→¬ S b k) {x : C} (hx : x.ok w (Zf zl zb)) (hS : ∀ b k,x.fp b k→¬ S b k) : x.ok w' (Zf zl zb) :=
 C.eL hE (fun m b k hz=>by cases m with
  | own=>exact hz.elim
  | sl=>exact hZ b k (.inl hz)
  | af=>exact hZ b k hz) _ hS hx
theorem bx.fits {l : List C} (hT : bx w zl zb G l G1 s1) (hE : Ext (fun b _=>w.heap.size≤b) w w') {x : C} (hx : x∈l) : x.ok w' (Zf zl zb):=by
 obtain ⟨a1,a2,a3,a4⟩:=hT.all x hx
 exact C.eL hE (fun m b k hz hs=>by have:=Fb hT.inv.cm m b k hz; omega) _ (fun b k hf hs=>by have:=C.eC _ a1 b k hf; omega) a1
theorem wM (w : World) (o : Obj) : (w.alloc o).heap[w.heap.size]? = some o:=by
 show (w.heap.push o)[w.heap.size]? = _
 simp
theorem Fg (w : World) (o : Obj) : Ext (fun b _=>w.heap.size≤b) w (w.alloc o):=Ext.alloc w _ o
theorem LW (w : World) (o : Obj) : Ext (fun b _=>w.heap.size≤b) w (w.drew.alloc o) :=
 (Ext.drew w (fun b _=>w.heap.size≤b)).trans (Ext.alloc w.drew (fun b _=>w.heap.size≤b) o) (fun _ _ h _=>h)
end M
namespace M
open Go Go.RowKit
variable [Bs]
section
variable {P : Program} {c : Ctx} {G : Nat→C} {zl : Nat→Nat→Prop} {s : ah} {a : Act} {w : World} {o : Oper} {K : ah→Prop}
def kX : List Value→List X→Bool
 | [],[]=>true
 | v :: vs,x :: xs=>(AX v x || (match x with | .dead=>v.oneCell' | _=>false)) && kX vs xs
 | _,_=>false
structure SL (w : World) (zl zb : Nat→Nat→Prop) (vs : List Value) (xs : List X) (l : List C) : Prop where
 er : l.map C.er = xs
 val : l.map C.val = vs
 all : ∀ x∈l,x.plain∧x.ok w (Zf zl zb)∧∀ b k,¬ x.fp b k
theorem Av (w : World) (zl zb : Nat→Nat→Prop) : ∀ {vs : List Value} {xs : List X},kX vs xs = true→∃ l,SL w zl zb vs xs l
 | [],[],_=>⟨[],rfl,rfl,fun _ hx=>(by cases hx)⟩
 | v :: vs,x :: xs,h=>by
  simp only [kX,Bool.and_eq_true,Bool.or_eq_true] at h
  obtain ⟨l,l1,l2,l3⟩:=Av w zl zb h.2
  have : ∃ d : C,d.er = x∧d.val = v∧d.plain∧d.ok w (Zf zl zb)∧∀ b k,¬ d.fp b k:=by
   rcases h.1 with h1 | h1
   ·obtain ⟨d,d1,d2,d3,d4⟩:=LM (w:=w) (zl:=zl) (c:=⟨w,zl,zl,zb,0,[]⟩) (G:=fun _=>.dead undef) h1
    exact ⟨d,d1,d2,d4,d3.ok,d3.cz⟩
   ·cases x with
    | dead=>exact ⟨.dead v,rfl,rfl,h1,trivial,fun _ _ h=>h⟩
    | _=>cases h1
  obtain ⟨d,d1,d2,d3⟩:=this
  refine ⟨d :: l,by simp [d1,l1],by simp [d2,l2],fun x hx=>?_⟩
  rcases List.mem_cons.1 hx with rfl | hx
  ·exact d3
  ·exact l3 x hx
 | [],_ :: _,h=>by cases h
 | _ :: _,[],h=>by cases h
theorem oD {l : List C} (h : ∀ x∈l,∀ b k,¬ x.fp b k) : l.Pairwise fun a b=>∀ x k,a.fp x k→¬ b.fp x k:=by
 induction l with
 | nil=>exact List.Pairwise.nil
 | cons x l ih=>exact List.pairwise_cons.2 ⟨fun y _ b k hf=>(h x (List.mem_cons_self ..) b k hf).elim,ih fun y hy=>h y (List.mem_cons_of_mem _ hy)⟩
theorem bx.none (h : Inv w zl c.zb G s) {l : List C} (hl : ∀ x∈l,x.ok w (Zf zl c.zb)∧∀ b k,¬ x.fp b k) : bx w zl c.zb G l G s :=
 ⟨h,fun x hx=>⟨(hl x hx).1,fun t b k hf=>((hl x hx).2 b k hf).elim,fun b k hf=>((hl x hx).2 b k hf).elim,fun b k hf=>((hl x hx).2 b k hf).elim⟩,oD fun x hx=>(hl x hx).2,fun _=>rfl,fun _ _ _ hf=>hf⟩
theorem MR (h : St c G zl s a w) {l : List C} {G1 : Nat→C} {s1 : ah} (hT : bx w zl c.zb G l G1 s1) (hcell : ∀ x∈l,x.cell) (hrf : ∀ x∈l,x.rf G1) {d : Nat} (hd : o.dst = some d) (hn : d < c.nt) {t : TypeId} {arr : Array Value} (GK : arr = (l.map C.val).toArray)
  (hrun : (execOp a.eval o).run P w = .ok (.value (.pointer (some ⟨w.heap.size,0,none⟩))) (w.alloc (.cells arr t))) (hK : K (put d (.ptr .own (l.map C.er)) s1)) : iU P c o a w K:=by
 subst GK
 have hE:=Fg w (.cells (l.map C.val).toArray t)
 have hnew:=wM w (.cells (l.map C.val).toArray t)
 have hok : (yX w.heap.size l).ok (w.alloc (.cells (l.map C.val).toArray t)) (Zf zl c.zb):=by
  refine adD ?_ (fun q x hq=>?_) (fun k _=>frozen_of_row _ _ _ _ _ hnew) (fun x hx=>⟨hcell x hx,hT.fits hE hx⟩) hT.apart (fun x hx b k hf=>?_)
  ·exact (Array.getElem?_eq_some_iff.1 hnew).1
  ·rw [cell_of_row _ _ _ _ _ (0,0) hnew]
   simp [hq]
  ·have:=C.eC _ (hT.all x hx).1 b k hf; omega
 obtain ⟨G',h'⟩:=h.fresh hT hE hn hok (fun j hj=>hrf _ (cv hj _)) (fun b k hf=>(adC hf).imp (fun e=>by omega) id)
 refine ⟨_,_,hrun,hE.mono (fun b k hs hb=>by omega),G',zl,_,hK,?_⟩
 rw [hd]
 rw [adB] at h'
 exact h'
theorem good_row (h : St c G zl s a w) {L : List (List C)} {sz cap : Nat} {G1 : Nat→C} {s1 : ah} (hL : ∀ e∈L,e.length = sz) (hcap : L.length≤cap) (hT : bx w zl c.zb G L.flatten G1 s1) (hpl : ∀ x∈L.flatten,x.plain) {d : Nat} (hd : o.dst = some d) (hn : d < c.nt)
  {t : TypeId} {arr : Array Value} {fz : Nat×Nat} {w' : World} (hE : Ext (fun b _=>w.heap.size≤b) w w') (hnew : w'.heap[w.heap.size]? = some (.cells arr t fz)) (hsz : cap * sz≤arr.size) (hfz : ∀ k,k < cap * sz→¬ (fz.1≤k∧k < fz.2)) (GK : ∀ (q : Nat) (x : C),L.flatten[q]? = some x→arr[q]? = some x.val)
  (hrun : (execOp a.eval o).run P w = .ok (.value (.slice (some ⟨w.heap.size,0,none⟩) L.length cap)) w') (hK : K (put d (.row .own sz (L.map fun e=>e.map C.er)) s1)) : iU P c o a w K:=by
 have hok : (rT w.heap.size 0 sz cap L).ok w' (Zf zl c.zb):=by
  refine Pb hL hcap hnew (by omega) (fun k _ hk=>?_) (fun q x hq=>?_) (fun x hx=>⟨C.jX (hpl x hx),C.yW (hpl x hx),hT.fits hE hx⟩) hT.apart (fun x hx b k hf=>?_)
  ·have:=hfz k (by omega)
   simp [World.frozen?,hnew]
   omega
  ·rw [cell_of_row _ _ _ _ _ fz hnew,Nat.zero_add]
   exact GK q x hq
  ·have:=C.eC _ (hT.all x hx).1 b k hf; omega
 obtain ⟨G',h'⟩:=h.fresh hT hE hn hok trivial (fun b k hf=>(Pa hL hf).imp (fun e=>by omega) id)
 refine ⟨_,_,hrun,hE.mono (fun b k hs hb=>by omega),G',zl,_,hK,?_⟩
 rw [hd]
 rw [O9 hL] at h'
 exact h'
theorem adg (h : St c G zl s a w) {d : Nat} {ty : TypeId} {i : TypeInfo} {v : Value} {z : List X} (ho : o.op = .alloc ty) (hi : P.info? ty = some i) (hz : i.zero = some v) (hc : kX v.cells.toList z = true) (hd : o.dst = some d) (hn : d < c.nt)
  (hK : aN P (.new d z) s K) : iU P c o a w K:=by
 obtain ⟨l,l1,l2,l3⟩:=Av w zl c.zb hc
 refine MR h (bx.none h.inv fun x hx=>(l3 x hx).2) (fun x hx=>C.jX (l3 x hx).1) (fun x hx=>C.mI (l3 x hx).1 _) hd hn (t:=ty) (arr:=v.cells) ?_ ?_ (by rw [l1]; exact hK)
 ·rw [l2]
 ·simp [execOp,ho,Instr.alloc,zeroValue,typeInfo,hi,hz,newVar,newRow]
theorem acU (h : St c G zl s a w) {d : Nat} {tk : Tk} {ty : TypeId} {x : AV} {x' : Operand} (ho : o.op = .box ty x') (hd : o.dst = some d) (hn : d < c.nt) (hx : aK x' x = true)
  (hK : aN P (.box d tk x) s K) : iU P c o a w K:=by
 obtain ⟨y,e1,e2,e3⟩:=bQ h hx
 obtain ⟨y',G1,f1,f2,f3,f4⟩:=oo tk h.inv e3
 obtain ⟨k1,k2⟩:=hK
 rw [← e1,← f1,← qI] at k1 k2
 have hsh:=Ez f4.rf
 have hT:=bx.flat (bx.one f4) (fun x hx=>by rw [List.mem_singleton] at hx; subst hx; exact hsh)
 simp only [List.flatMap_cons,List.flatMap_nil,List.append_nil] at hT
 refine MR h hT (fun x hx=>(s7 hsh f4.ok hx).1) (fun x hx=>F1 f4.rf hx) hd hn (t:=ty) (AW (by simpa using k1) hsh) ?_ k2
 rw [f2,e2]
 simp [execOp,ho,Instr.box,newVar,newRow]
theorem ada (h : St c G zl s a w) {d sz bytes : Nat} {ty el : TypeId} {i : TypeInfo} {v : Value} {z : List X} {n : AV} {n' n2 : Operand} (ho : o.op = .makeSlice ty n' n2) (hu : P.underlying ty = some (.slice el)) (hi : P.info? el = some i) (hz : i.zero = some v) (hsz : i.size = sz) (hb : i.bytes = bytes) (hb0 : 0 < bytes)
  (h0 : 0 < sz) (hzs : z.length = sz) (hc : kX v.cells.toList z = true) (hd : o.dst = some d) (hn : d < c.nt) (hx : aK n' n = true) (hx2 : aK n2 n = true) (hK : aN P (.make d sz bytes z n) s K) : iU P c o a w K:=by
 obtain ⟨y,e1,e2,e3⟩:=bQ h hx
 obtain ⟨y2,g1,g2,g3⟩:=bQ h hx2
 simp only [aN] at hK
 split at hK
 ·rename_i k m hm
  have hm2:=hm
  rw [← e1] at hm
  rw [← g1] at hm2
  have:=kY hm
  subst this
  have:=kY hm2
  subst this
  obtain ⟨k1,k2,k3⟩:=hK
  obtain ⟨l,l1,l2,l3⟩:=Av w zl c.zb hc
  have qV : l.length = sz:=by rw [← hzs,← l1]; simp
  have hvs : v.cells.size = sz:=by
   have:=congrArg List.length l2
   simp only [List.length_map,Array.length_toList] at this
   omega
  have hL : ∀ e∈List.replicate m.toNat l,e.length = sz:=fun e he=>by rw [(List.mem_replicate.1 he).2]; exact qV
  have hfl : ∀ x∈(List.replicate m.toNat l).flatten,x∈l:=fun x hx=>by
   obtain ⟨e,he,hx⟩:=List.mem_flatten.1 hx
   rw [(List.mem_replicate.1 he).2] at hx; exact hx
  have hmul : m≤m * bytes:=by
   have : m * 1≤m * (bytes : Int):=Int.mul_le_mul_of_nonneg_left (by omega) k1
   omega
  have hr:=run_make (P:=P) w ty el i v hu hi hz k k m m k1 (Int.le_refl _) (by rw [hb,Int.mul_comm]; omega) (by omega)
  refine good_row h (L:=List.replicate m.toNat l) (cap:=m.toNat) hL (by simp) (bx.none h.inv fun x hx=>(l3 x (hfl x hx)).2) (fun x hx=>(l3 x (hfl x hx)).1) hd hn (Fg w (.cells (madeCells v.cells (m.toNat * i.size)) el (0,0))) (wM w (.cells (madeCells v.cells (m.toNat * i.size)) el (0,0))) ?_ ?_ ?_ ?_ ?_
  ·rw [size_madeCells,hsz]; exact Nat.le_refl _
  ·intro k _ hh; simp at hh
  ·intro q x hq
   have wV : q < m.toNat * sz:=by
    have:=(List.getElem?_eq_some_iff.1 hq).1
    rw [oW hL,List.length_replicate] at this
    exact this
   have hj : q % sz < sz:=Nat.mod_lt _ h0
   have hi' : q / sz < m.toNat:=Nat.div_lt_of_lt_mul (by rw [Nat.mul_comm]; exact wV)
   have wU : q = q / sz * sz + q % sz:=by have:=Nat.div_add_mod q sz; rw [Nat.mul_comm] at this; omega
   have:=wu hL (q / sz) (q % sz) (by simpa using hi') hj
   rw [← wU,hq,List.getElem?_replicate,if_pos hi'] at this
   simp only [Option.bind_some] at this
   have hv : v.cells.toList[q % sz]? = some x.val:=by rw [← l2,List.getElem?_map,← this]; rfl
   have dH : v.cells[q % sz]? = some x.val:=by simpa using hv
   rw [hsz]
   simp only [madeCells,Array.getElem?_map]
   rw [Array.getElem?_range,if_pos wV]
   simp [hvs,getElem!_def,dH]
  ·simp [execOp,ho,← e2,← g2,C.val,hr]
  ·rw [List.map_replicate,l1]; exact k3
 ·exact hK.elim
theorem acW (h : St c G zl s a w) {d : Nat} {src dst el : TypeId} {x : AV} {x' : Operand} (ho : o.op = .convert src dst x') (hs : P.underlying src = some .string) (hu : P.underlying dst = some (.slice el)) (he : P.underlying el = some (.int .u8)) (hd : o.dst = some d) (hn : d < c.nt) (hx : aK x' x = true)
  (hK : aN P (.bytes d x) s K) : iU P c o a w K:=by
 obtain ⟨y,e1,e2,e3⟩:=bQ h hx
 simp only [aN] at hK
 split at hK
 ·rename_i t ht
  rw [← e1] at ht
  have:=Bb ht
  subst this
  have hr:=run_bytes_of_string (P:=P) w src dst el t hs hu he
  have hge:=grownCap_ge w t.size 0 el
  generalize grownCap w t.size 0 el = cap at hr hge
  have hL : ∀ e∈t.data.toList.map (fun b : UInt8=>[C.int .u8 (b.toNat : Int)]),e.length = 1:=fun e he=>by
   obtain ⟨b,_,rfl⟩:=List.mem_map.1 he; rfl
  have hfl : ∀ x∈(t.data.toList.map (fun b : UInt8=>[C.int .u8 (b.toNat : Int)])).flatten,∃ n,x = C.int .u8 n:=fun x hx=>by
   obtain ⟨e,he,hx⟩:=List.mem_flatten.1 hx
   obtain ⟨b,_,rfl⟩:=List.mem_map.1 he
   exact ⟨_,List.mem_singleton.1 hx⟩
  have hts : t.size = t.data.size:=rfl
  have hlen : (t.data.toList.map (fun b : UInt8=>[C.int .u8 (b.toNat : Int)])).length = t.size:=by rw [List.length_map,Array.length_toList]; rfl
  have hsz : (bytesRow t cap).size = cap:=by simp [bytesRow]; omega
  refine good_row h (L:=t.data.toList.map (fun b : UInt8=>[C.int .u8 (b.toNat : Int)])) (cap:=cap) (sz:=1) hL (by rw [hlen]; exact hge) (bx.none h.inv fun x hx=>?_) (fun x hx=>?_) hd hn (LW w (.cells (bytesRow t cap) el ((bytesRow t cap).size,(bytesRow t cap).size + 1))) (wM w.drew (.cells (bytesRow t cap) el ((bytesRow t cap).size,(bytesRow t cap).size + 1))) ?_ ?_ ?_ ?_ ?_
  ·obtain ⟨n,rfl⟩:=hfl x hx; exact ⟨trivial,fun _ _ hf=>hf⟩
  ·obtain ⟨n,rfl⟩:=hfl x hx; trivial
  ·rw [hsz]; omega
  ·intro k hk; rw [hsz]; omega
  ·intro q x hq
   have wV : q < t.data.size:=by
    have:=(List.getElem?_eq_some_iff.1 hq).1
    rw [oW hL,hlen] at this
    omega
   have:=wu hL q 0 (by rw [hlen]; omega) (by omega)
   rw [Nat.mul_one,Nat.add_zero,hq,List.getElem?_map] at this
   rw [bytesRow_at t cap q wV]
   rw [List.getElem?_eq_getElem (by simpa using wV)] at this
   simp at this
   rw [this]
   rfl
  ·rw [hlen]
   simp [execOp,ho,← e2,C.val,hr]
  ·rw [List.map_map]
   exact hK
 ·exact hK.elim
end
end M
namespace M
open Go Go.RowKit
variable [Bs]
theorem ady {y : C} (hc : y.cell) (h : cA y.er = true) : y.plain:=by
 cases y <;> first | exact hc | trivial | (simp [C.er,cA] at h)
theorem EA : ∀ {l : List X},ga l = true→∀ x∈l,cA x = true
 | [],_,x,hx=>by cases hx
 | y :: l,h,x,hx=>by
  simp only [ga,Bool.and_eq_true] at h
  rcases List.mem_cons.1 hx with rfl | hx
  ·exact h.1
  ·exact EA h.2 x hx
theorem NR {w : World} {Z : Md→Nat→Nat→Prop} {x y : C} (hs : x.shape) (hok : x.ok w Z) (h : ga (cellsOf x.er) = true) (hy : y∈x.cells) : y.plain:=by
 refine ady (s7 hs hok hy).1 (EA h _ ?_)
 rw [← qI]
 exact List.mem_map_of_mem hy
section
variable {P : Program} {c : Ctx} {G : Nat→C} {zl : Nat→Nat→Prop} {s : ah} {a : Act} {w : World} {o : Oper} {K : ah→Prop}
theorem St.vw {x : C} {G1 : Nat→C} {s1 : ah} (h : St c G zl s a w) (hT : ey w zl c.zb G x G1 s1) : St c G1 zl s1 a w :=
 h.move hT.inv hT.val (Ext.refl (fun _ _=>False) w) (fun _ _ hs=>hs.elim) (fun t b k hf=>.inl ⟨t,hT.mono t b k hf⟩)
theorem JN (tk : Tk) : ∀ {l' : List Operand} {l : List AV},kf l' l = true→∀ {G : Nat→C} {s : ah},St c G zl s a w →
  ∃ cs G',cs.map C.er = (takes tk l s).1∧cs.map C.val = l'.map a.eval∧bx w zl c.zb G cs G' (takes tk l s).2∧∀ x∈cs,x.shape
 | [],[],_,G,s,h=>⟨[],G,rfl,rfl,bx.nil h.inv,fun _ hx=>(by cases hx)⟩
 | x' :: l',x :: l,hc,G,s,h=>by
  simp only [kf,Bool.and_eq_true] at hc
  obtain ⟨p,p1,p2,p3⟩:=bQ h hc.1
  obtain ⟨y,G1,f1,f2,f3,f4⟩:=oo tk h.inv p3
  obtain ⟨cs,G',g1,g2,g3,g4⟩:=JN tk hc.2 (h.vw f4)
  rw [p1] at f1 g1 g3 f4
  refine ⟨y :: cs,G',by simp [takes,f1,g1],by simp [f2,p2,g2],bx.cons f4 g3,fun z hz=>?_⟩
  rcases List.mem_cons.1 hz with rfl | hz
  ·exact Ez f4.rf
  ·exact g4 z hz
 | [],_ :: _,hc,_,_,_=>by cases hc
 | _ :: _,[],hc,_,_,_=>by cases hc
theorem aeA (x : X) (s : ah) : take .al x s = (x,s):=by
 cases x <;> rfl
theorem PU : ∀ (l : List AV) (s : ah),takes .al l s = (l.map (ax s),s)
 | [],s=>rfl
 | x :: l,s=>by simp only [takes,aeA,PU l s,List.map_cons]
theorem aeB (tk : Tk) {l' : List Operand} {l : List AV} (hc : kf l' l = true) (h : St c G zl s a w) (hs : EB tk (takes tk l s).1) :
  ∃ cs G',cs.map C.er = (takes tk l s).1∧cs.map C.val = l'.map a.eval∧bx w zl c.zb G cs G' (takes tk l s).2∧(∀ x∈cs,x.shape)∧∀ x∈cs,∀ y∈x.cells,y.rf G':=by
 have gen : (∀ x∈(takes tk l s).1,ga (cellsOf x) = true)→∃ cs G',cs.map C.er = (takes tk l s).1∧cs.map C.val = l'.map a.eval∧bx w zl c.zb G cs G' (takes tk l s).2∧(∀ x∈cs,x.shape)∧∀ x∈cs,∀ y∈x.cells,y.rf G':=by
  intro hs
  obtain ⟨cs,G',g1,g2,g3,g4⟩:=JN tk hc h
  refine ⟨cs,G',g1,g2,g3,g4,fun x hx y hy=>C.mI (NR (g4 x hx) (g3.all x hx).1 (hs _ ?_) hy) _⟩
  rw [← g1]
  exact List.mem_map_of_mem hx
 cases tk with
 | al =>
  rw [PU]
  obtain ⟨cs,l1,l2,l3⟩:=IF h hc
  exact ⟨cs,G,l1,l2,bx.none h.inv fun x hx=>⟨(l3 x hx).ok,(l3 x hx).cz⟩,fun x hx=>Ez (l3 x hx).rf,fun x hx y hy=>F1 (l3 x hx).rf hy⟩
 | mv=>exact gen hs
 | aO=>exact gen hs
def vY : Nat→List (Nat×Operand)→List AV→Bool
 | _,[],[]=>true
 | k,(i,x') :: l',x :: l=>i == k && aK x' x && vY (k + 1) l' l
 | _,_,_=>false
theorem LA (a : Act) : ∀ {k : Nat} {l' : List (Nat×Operand)} {l : List AV},vY k l' l = true→kf (l'.map (·.2)) l = true∧l'.length = l.length∧(l'.map fun x=>(x.1,a.eval x.2)) = (((l'.map (·.2)).map a.eval).zipIdx k).map fun x=>(x.2,x.1)
 | k,[],[],_=>⟨rfl,rfl,rfl⟩
 | k,(i,x') :: l',x :: l,h=>by
  simp only [vY,Bool.and_eq_true,beq_iff_eq] at h
  obtain ⟨⟨rfl,h1⟩,h2⟩:=h
  obtain ⟨i1,i2,i3⟩:=LA a h2
  exact ⟨by simp [kf,h1,i1],by simp [i2],by simp [i3,List.zipIdx_cons]⟩
 | k,[],_ :: _,h=>by cases h
 | k,_ :: _,[],h=>by cases h
theorem ac8 (h : St c G zl s a w) {d sz n : Nat} {tk : Tk} {ty el : TypeId} {i : TypeInfo} {v : Value} {ps : List AV} {ps' : Array (Nat×Operand)} (ho : o.op = .buildSlice ty n ps') (hu : P.underlying ty = some (.slice el)) (hi : P.info? el = some i) (hz : i.zero = some v) (hsz : i.size = sz)
  (h0 : 0 < sz) (hvs : v.cells.size = sz) (hn' : ps'.toList.length = n) (hbig : n * sz≤16777216) (hd : o.dst = some d) (hn : d < c.nt) (hx : vY 0 ps'.toList ps = true) (hK : aN P (.lit d tk sz ps) s K) : iU P c o a w K:=by
 obtain ⟨i1,i2,i3⟩:=LA a hx
 obtain ⟨k1,k2⟩:=hK
 obtain ⟨cs,G',g1,g2,g3,g4⟩:=JN tk i1 h
 rw [← g1] at k1 k2
 have hlen : ∀ x∈cs,x.cells.length = sz:=fun x hx=>by
  have:=(k1 x.er (List.mem_map_of_mem hx)).1
  rw [← qI] at this
  simpa using this
 have hcl : cs.length = n:=by
  have:=congrArg List.length g2
  simp only [List.length_map] at this
  omega
 have hL : ∀ e∈cs.map C.cells,e.length = sz:=fun e he=>by
  obtain ⟨x,hx,rfl⟩:=List.mem_map.1 he
  exact hlen x hx
 have hfl : (cs.map C.cells).flatten = cs.flatMap C.cells:=by rw [List.flatMap_def]
 have hval : ∀ x∈cs,x.val.cells = (x.cells.map C.val).toArray:=fun x hx=>AW (by rw [hlen x hx]; exact h0) (g4 x hx)
 have hvl : ∀ v∈cs.map C.val,v.cells.size = sz:=fun v hv=>by
  obtain ⟨x,hx,rfl⟩:=List.mem_map.1 hv
  rw [hval x hx]
  simp [hlen x hx]
 have aat : ((cs.map C.val).flatMap fun v=>v.cells.toList) = (cs.flatMap C.cells).map C.val:=by
  rw [List.map_flatMap,List.flatMap_map]
  clear k1 k2 g1 g2 g3 g4 hcl hL hfl hvl hlen
  induction cs with
  | nil=>rfl
  | cons x cs ih =>
   rw [List.flatMap_cons,List.flatMap_cons,ih fun y hy=>hval y (List.mem_cons_of_mem _ hy),hval x (List.mem_cons_self ..)]
 have hparts : (ps'.map fun (i,x)=>(i,a.eval x)).toList = ((cs.map C.val).zipIdx 0).map fun x=>(x.2,x.1):=by
  rw [Array.toList_map,g2]
  exact i3
 have hrun : (Instr.buildSlice ty n (ps'.map fun (i,x)=>(i,a.eval x))).run P w = .ok (.slice (some ⟨w.heap.size,0,none⟩) n n) (w.alloc (.cells ((cs.flatMap C.cells).map C.val).toArray el)):=by
  by_cases hz0 : n = 0
  ·subst hz0
   have hc0 : cs = []:=List.eq_nil_of_length_eq_zero hcl
   subst hc0
   have hp : ps' = #[]:=by
    apply Array.ext'
    exact List.eq_nil_of_length_eq_zero hn'
   subst hp
   simp [Instr.buildSlice,run_underlying hu,Go.sizeOf,typeInfo,hi,newRow,Instr.fill,Array.range_zero']
  ·have hsmall : ¬ n * i.size > 2 ^ 24:=by rw [hsz]; omega
   have hpos : ¬ n * i.size = 0:=by
    rw [hsz]
    have:=Nat.mul_pos (Nat.pos_of_ne_zero hz0) h0
    omega
   refine run_buildSlice (P:=P) w ty el n _ _ i v hu hi hz hsmall hpos ?_
   rw [hparts,hsz,← aat]
   exact Great.fill_whole h0 _ _ hvl (by simp [hcl])
 refine good_row h (L:=cs.map C.cells) (cap:=n) (sz:=sz) (fz:=(0,0)) (w':=w.alloc (.cells ((cs.flatMap C.cells).map C.val).toArray el)) hL (by simp [hcl]) (by rw [hfl]; exact bx.flat g3 g4) (fun y hy=>?_) hd hn (Fg w _) (wM w _) ?_ (fun k _ hh=>by simp at hh) ?_ ?_ ?_
 ·rw [hfl] at hy
  obtain ⟨x,hx,hy⟩:=List.mem_flatMap.1 hy
  exact NR (g4 x hx) (g3.all x hx).1 (k1 x.er (List.mem_map_of_mem hx)).2 hy
 ·have:=oW hL
  rw [hfl] at this
  simp only [List.length_map] at this
  simp [this,hcl]
 ·intro q x hq
  rw [hfl] at hq
  simp [hq]
 ·have : (cs.map C.cells).length = n:=by simp [hcl]
  rw [this]
  simp only [execOp,ho,Sem.run_bind,hrun,Result.andThen_ok,Sem.run_pure]
 ·rw [List.map_map] at k2 ⊢
  have : cs.map (cellsOf ∘ C.er) = cs.map ((fun e=>e.map C.er) ∘ C.cells):=List.map_congr_left fun x _=>(qI x).symm
  rw [← this]
  exact k2
theorem MB : ∀ (vs : List Value) (off k : Nat) (cells : Array Value),((vs.zipIdx k).foldl (fun cs (x : Value×Nat)=>cs.setIfInBounds (off + x.2) x.1) cells).toList = jo cells.toList (off + k) vs
 | [],off,k,cells=>rfl
 | v :: vs,off,k,cells=>by
  rw [List.zipIdx_cons,List.foldl_cons,MB vs off (k + 1)]
  rw [Array.toList_setIfInBounds]
  rfl
theorem Gp {α β : Type} (f : α→β) : ∀ (ys : List α) (l : List α) (o : Nat),(jo l o ys).map f = jo (l.map f) o (ys.map f)
 | [],l,o=>rfl
 | y :: ys,l,o=>by
  simp only [jo,List.map_cons]
  rw [Gp f ys,List.map_set]
theorem Mf {α : Type} : ∀ (ys : List α) (l : List α) (o : Nat),(jo l o ys).length = l.length
 | [],l,o=>rfl
 | y :: ys,l,o=>by simp only [jo]; rw [Mf ys,List.length_set]
theorem Gq {α : Type} : ∀ (ys : List α) (l : List α) (o : Nat),∀ x∈jo l o ys,x∈l∨x∈ys
 | [],l,o,x,hx=>.inl hx
 | y :: ys,l,o,x,hx=>by
  rcases Gq ys _ _ x hx with hx | hx
  ·rcases List.mem_or_eq_of_mem_set hx with hx | rfl
   ·exact .inl hx
   ·exact .inr (List.mem_cons_self ..)
  ·exact .inr (List.mem_cons_of_mem _ hx)
theorem Pu {α : Type} {R : α→α→Prop} (pz : ∀ a b,R a b→R b a) {y : α} : ∀ {l : List α},l.Pairwise R→(∀ x∈l,R x y)→∀ o,(l.set o y).Pairwise R
 | [],h,hy,o=>by simp
 | x :: l,h,hy,0=>by
  rw [List.pairwise_cons] at h
  rw [List.set_cons_zero]
  exact List.pairwise_cons.2 ⟨fun a ha=>pz _ _ (hy a (List.mem_cons_of_mem _ ha)),h.2⟩
 | x :: l,h,hy,o + 1=>by
  rw [List.pairwise_cons] at h
  rw [List.set_cons_succ]
  refine List.pairwise_cons.2 ⟨fun a ha=>?_,Pu pz h.2 (fun z hz=>hy z (List.mem_cons_of_mem _ hz)) o⟩
  rcases List.mem_or_eq_of_mem_set ha with ha | rfl
  ·exact h.1 a ha
  ·exact hy x (List.mem_cons_self ..)
theorem Mg {α : Type} {R : α→α→Prop} (pz : ∀ a b,R a b→R b a) : ∀ (ys : List α) (l : List α) (o : Nat),l.Pairwise R→ys.Pairwise R→(∀ x∈l,∀ y∈ys,R x y)→(jo l o ys).Pairwise R
 | [],l,o,h,_,_=>h
 | y :: ys,l,o,h,h2,h3=>by
  rw [List.pairwise_cons] at h2
  refine Mg pz ys _ _ (Pu pz h (fun x hx=>h3 x hx y (List.mem_cons_self ..)) o) h2.2 fun x hx z hz=>?_
  rcases List.mem_or_eq_of_mem_set hx with hx | rfl
  ·exact h3 x hx z (List.mem_cons_of_mem _ hz)
  ·exact h2.1 z hz
def kn : List C→List Nat→List C→List C
 | cs,o :: os,y :: ys=>kn (jo cs o y.cells) os ys
 | cs,_,_=>cs
theorem Mj : ∀ (cs : List C) (os : List Nat) (ys : List C),(kn cs os ys).map C.er = tj (cs.map C.er) os (ys.map C.er)
 | cs,[],ys=>by cases ys <;> rfl
 | cs,o :: os,[]=>rfl
 | cs,o :: os,y :: ys=>by
  simp only [kn,tj,List.map_cons]
  rw [Mj,Gp,qI]
theorem Mk : ∀ (cs : List C) (os : List Nat) (ys : List C),∀ x∈kn cs os ys,x∈cs∨x∈ys.flatMap C.cells
 | cs,[],ys,x,hx=>by cases ys <;> exact .inl hx
 | cs,o :: os,[],x,hx=>.inl hx
 | cs,o :: os,y :: ys,x,hx=>by
  rw [List.flatMap_cons,List.mem_append]
  rcases Mk _ os ys x hx with hx | hx
  ·exact (Gq _ _ _ x hx).imp id .inl
  ·exact .inr (.inr hx)
theorem Ml {R : C→C→Prop} (pz : ∀ a b,R a b→R b a) : ∀ (cs : List C) (os : List Nat) (ys : List C),cs.Pairwise R→(ys.flatMap C.cells).Pairwise R→(∀ x∈cs,∀ y∈ys.flatMap C.cells,R x y)→(kn cs os ys).Pairwise R
 | cs,[],ys,h,_,_=>by cases ys <;> exact h
 | cs,o :: os,[],h,_,_=>h
 | cs,o :: os,y :: ys,h,h2,h3=>by
  rw [List.flatMap_cons,List.pairwise_append] at h2
  refine Ml pz _ os ys (Mg pz _ _ _ h h2.1 fun x hx z hz=>h3 x hx z (by rw [List.flatMap_cons]; exact List.mem_append_left _ hz)) h2.2.1 fun x hx z hz=>?_
  rcases Gq _ _ _ x hx with hx | hx
  ·exact h3 x hx z (by rw [List.flatMap_cons]; exact List.mem_append_right _ hz)
  ·exact h2.2.2 x hx z hz
def qJ (places : List (Nat×Nat)) (len : Nat) : List (Nat×Operand)→List ((Nat×Nat)×AV)→Bool
 | [],[]=>true
 | (i,x') :: l',((off,size),x) :: l=>(match places[i]? with | some q=>q.1 == off && q.2 == size | none=>false) && decide (0 < size) && decide (off + size≤len) && aK x' x && qJ places len l' l
 | _,_=>false
theorem Lv {places : List (Nat×Nat)} {len : Nat} : ∀ {l' : List (Nat×Operand)} {l : List ((Nat×Nat)×AV)},qJ places len l' l = true→kf (l'.map (·.2)) (l.map (·.2)) = true
 | [],[],_=>rfl
 | (i,x') :: l',((off,size),x) :: l,h=>by
  simp only [qJ,Bool.and_eq_true] at h
  simp only [List.map_cons,kf,h.1.2,Lv h.2,Bool.and_self]
 | [],_ :: _,h=>by cases h
 | _ :: _,[],h=>by cases h
theorem Mh (a : Act) {places : List (Nat×Nat)} {len : Nat} : ∀ {l' : List (Nat×Operand)} {l : List ((Nat×Nat)×AV)},qJ places len l' l = true→∀ (zs cs : List C),zs.length = len→cs.map C.val = (l'.map (·.2)).map a.eval→(∀ x∈cs,x.shape)→vp (l.map (·.1.2)) (cs.map C.er) →
  Instr.fill (fun i=>places[i]?) (zs.map C.val).toArray (l'.map fun x=>(x.1,a.eval x.2)) = some ((kn zs (l.map (·.1.1)) cs).map C.val).toArray
 | [],[],_,zs,cs,hz,hv,hs,hsz=>by
  cases cs with
  | nil=>rfl
  | cons x cs=>simp at hv
 | (i,x') :: l',((off,size),x) :: l,h,zs,cs,hz,hv,hs,hsz=>by
  simp only [qJ,Bool.and_eq_true,decide_eq_true_eq] at h
  obtain ⟨⟨⟨⟨h1,h2⟩,h3⟩,h4⟩,h5⟩:=h
  cases cs with
  | nil=>simp at hv
  | cons y cs =>
   simp only [List.map_cons,List.cons.injEq] at hv
   simp only [List.map_cons,vp] at hsz
   have hpl : places[i]? = some (off,size):=by
    cases hp : places[i]? with
    | none=>rw [hp] at h1; cases h1
    | some q =>
     rw [hp] at h1
     simp only [Bool.and_eq_true,beq_iff_eq] at h1
     rw [← h1.1,← h1.2]
   have nD : y.cells.length = size:=by
    have:=hsz.1
    rw [← qI] at this
    simpa using this
   have mw:=AW (by rw [nD]; exact h2) (hs y (List.mem_cons_self ..))
   simp only [List.map_cons]
   unfold Instr.fill
   simp only [hpl,← hv.1,mw]
   rw [if_neg (by simp [nD,hz]; exact h3)]
   have : (((y.cells.map C.val).toArray.zipIdx).foldl (fun cs (x : Value×Nat)=>cs.setIfInBounds (off + x.2) x.1) (zs.map C.val).toArray) = ((jo zs off y.cells).map C.val).toArray:=by
    apply Array.ext'
    rw [← Array.foldl_toList,Array.toList_zipIdx,MB,Gp]
    rfl
   have ih:=Mh a h5 (jo zs off y.cells) cs (by rw [Mf]; exact hz) hv.2 (fun x hx=>hs x (List.mem_cons_of_mem _ hx)) hsz.2
   simp only [kn]
   rw [← ih,← this]
 | [],_ :: _,h,_,_,_,_,_,_=>by cases h
 | _ :: _,[],h,_,_,_,_,_,_=>by cases h
theorem acV (h : St c G zl s a w) {d : Nat} {tk : Tk} {ty : TypeId} {i : TypeInfo} {v : Value} {z : List X} {ps : List ((Nat×Nat)×AV)} {ps' : Array (Nat×Operand)} {places : List (Nat×Nat)} (ho : o.op = .build ty ps')
  (hb : ∀ parts cells,Instr.fill (fun i=>places[i]?) v.cells parts = some cells→P.built ty parts = some cells) (hc : kX v.cells.toList z = true) (hd : o.dst = some d) (hn : d < c.nt) (hx : qJ places z.length ps'.toList ps = true)
  (hK : aN P (.build d tk z ps) s K) : iU P c o a w K:=by
 obtain ⟨k1,k2,k3⟩:=hK
 obtain ⟨cs,G',g1,g2,g3,g4,g5⟩:=aeB tk (Lv hx) h k1
 obtain ⟨l,l1,l2,l3⟩:=Av w zl c.zb hc
 rw [← g1] at k2 k3
 have qV : l.length = z.length:=by rw [← l1]; simp
 have Nh:=Mh a hx l cs qV g2 g4 k2
 have hvz : (l.map C.val).toArray = v.cells:=by rw [l2]
 rw [hvz] at Nh
 have hrun : (Instr.build ty (ps'.map fun (i,x)=>(i,a.eval x))).run P w = .ok (.agg ((kn l (ps.map (·.1.1)) cs).map C.val).toArray) w:=by
  refine run_build w ty _ _ (hb _ _ ?_)
  rw [Array.toList_map]
  exact Nh
 have hT:=bx.flat g3 g4
 have hall : ∀ x∈kn l (ps.map (·.1.1)) cs,x.cell∧x.ok w (Zf zl c.zb)∧x.rf G'∧∀ b k,x.fp b k→∃ y∈cs.flatMap C.cells,y.fp b k:=fun x hx=>by
  rcases Mk _ _ _ x hx with hx | hx
  ·obtain ⟨a1,a2,a3⟩:=l3 x hx
   exact ⟨C.jX a1,a2,C.mI a1 _,fun b k hf=>(a3 b k hf).elim⟩
  ·obtain ⟨y,hy,hx'⟩:=List.mem_flatMap.1 hx
   obtain ⟨b1,b2⟩:=s7 (g4 y hy) (g3.all y hy).1 hx'
   exact ⟨b1,b2,g5 y hy x hx',fun b k hf=>⟨x,hx,hf⟩⟩
 have fT : (kn l (ps.map (·.1.1)) cs).Pairwise fun a b=>∀ x k,a.fp x k→¬ b.fp x k :=
  Ml (fun a b hab x k hf hf'=>hab x k hf' hf) _ _ _ (oD fun x hx=>(l3 x hx).2.2) hT.apart fun x hx y _ b k hf=>((l3 x hx).2.2 b k hf).elim
 obtain ⟨G2,h'⟩:=h.fresh hT (Ext.refl _ w) hn (x:=fL (kn l (ps.map (·.1.1)) cs)) ⟨fun j hj=>⟨(hall _ (cv hj _)).1,(hall _ (cv hj _)).2.1⟩,fun j hj b k hf j' hj' hne=>uR fT _ hj hj' hne hf⟩ (fun j hj=>(hall _ (cv hj _)).2.2.1) (fun b k hf=>by
  obtain ⟨x,hx,hf⟩:=(oB _ _ _).1 hf
  exact .inr ((hall x hx).2.2.2 b k hf))
 refine ⟨.agg ((kn l (ps.map (·.1.1)) cs).map C.val).toArray,w,?_,Ext.refl _ _,G2,zl,_,k3,?_⟩
 ·simp only [execOp,ho,Sem.run_bind,hrun,Result.andThen_ok,Sem.run_pure]
 ·rw [hd]
  rw [sI,Mj,l1,vN] at h'
  exact h'
end
end M
namespace M
open Go Go.RowKit
variable [Bs]
section
variable {P : Program}
theorem ad3 {w : World} {g k : Nat} {v u : Value} (hv : v.oneCell' = true) (hc : w.cell? ⟨g,k,none⟩ = some u) (hf : w.frozen? ⟨g,k,none⟩ = false) : (store ⟨g,k,none⟩ v).run P w = .ok () (w.setCell ⟨g,k,none⟩ v):=by
 rw [run_store P w _ v _ hv,hc]
 simp [hf]
theorem ei.hand {d y z : C} {i c g k : Nat} (h : ei d i c y g k) (hz : y.cA→z.cA) : ei d i c z g k:=by
 cases h with
 | row h hi hc hs=>exact .row h hi hc (hz hs)
 | ptr h hi hc=>exact .ptr h hi hc
theorem ei.fp {d y : C} {i c g k : Nat} (h : ei d i c y g k) : d.fp g k:=by
 cases h with
 | row hd hi hc hs=>subst hd; exact ⟨rfl,.inl ⟨_,rfl⟩⟩
 | ptr hd hi hc=>subst hd; exact ⟨rfl,.inl ⟨rfl,by omega,by omega⟩⟩
structure Ks (w : World) (zl zb : Nat→Nat→Prop) (G : Nat→C) (l : List C) : Prop where
 all : ∀ x∈l,x.cell∧x.ok w (Zf zl zb)∧x.rf G∧(∀ t b k,x.fp b k→¬ (G t).fp b k)∧∀ b k,x.fp b k→¬ zl b k∧¬ zb b k
 apart : l.Pairwise fun a b=>∀ x k,a.fp x k→¬ b.fp x k
theorem aby (r : Nat) (p : Path) (l : List C) : X.fU r p (l.map C.er) = (l.map fun x=>x.ay (C.bA r p)).map C.er:=by
 rw [X.ua,List.map_map]
 exact List.map_congr_left fun x _=>(C.mB r p x).symm
theorem PG (r : Nat) (p : Path) (i : Nat) {zl zb : Nat→Nat→Prop} {g k0 : Nat} : ∀ (n : Nat) (l : List C),l.length = n→∀ (c m : Nat) {w : World} {G : Nat→C} {s : ah} {d : C},Inv w zl zb G s→(G r).sub p = some d →
  (∀ q x,l[q]? = some x→ei d i (c + q) x g (k0 + m + q))→Ks w zl zb G l →
  ∃ w' G',(storeCells ⟨g,k0,none⟩ (l.map C.val) m).run P w = .ok () w'∧Inv w' zl zb G' (setCells r p i c (l.map C.er) s)∧(∀ t,(G' t).val = (G t).val)∧(∀ t b k,(G' t).fp b k→(∃ x∈l,x.fp b k)∨(G t).fp b k)∧Ext (fun b k=>b = g∧k0 + m≤k∧k < k0 + m + n) w w'
 | 0,l,hn,c,m,w,G,s,d,h,hsub,hsp,hh=>by
  have : l = []:=List.eq_nil_of_length_eq_zero hn
  subst this
  exact ⟨w,G,rfl,by simpa [setCells] using h,fun _=>rfl,fun t b k hf=>.inr hf,Ext.refl _ _⟩
 | n + 1,[],hn,c,m,w,G,s,d,h,hsub,hsp,hh=>by simp at hn
 | n + 1,y :: l,hn,c,m,w,G,s,d,h,hsub,hsp,hh=>by
  have Ns:=hsp 0 y rfl
  simp only [Nat.add_zero] at Ns
  obtain ⟨y1,y2,y3,y4,y5⟩:=hh.all y (List.mem_cons_self ..)
  obtain ⟨G1,i1,i2,i3,i4,i5,i6,i7,d',i8,i9⟩:=h.store r p i c d y g (k0 + m) hsub Ns y2 y1 y3 y4 y5
  obtain ⟨u,hu⟩:=i5
  have hE:=Ext.setCell w g (k0 + m) y.val
  have fT:=List.pairwise_cons.1 hh.apart
  have aX : ∀ {b k},d.fp b k→(G r).fp b k:=fun hf=>C.fJ p hsub (h.ok r) hf
  have aad : ∀ (f : C→C),(∀ x,f x = if mG r p i c s then x.ay (C.bA r (p ++ [(i,c)])) else x)→Ks (w.setCell ⟨g,k0 + m,none⟩ y.val) zl zb G1 (l.map f):=by
   intro f nw
   have bV : ∀ x b k,(f x).fp b k↔x.fp b k:=fun x b k=>by
    rw [nw]; split
    ·exact C.cu _ x b k
    ·exact Iff.rfl
   refine ⟨fun x hx=>?_,?_⟩
   ·obtain ⟨x,hx0,rfl⟩:=List.mem_map.1 hx
    clear hx
    have hx : x∈l:=hx0
    obtain ⟨x1,x2,x3,x4,x5⟩:=hh.all x (List.mem_cons_of_mem _ hx)
    have hok : x.ok (w.setCell ⟨g,k0 + m,none⟩ y.val) (Zf zl zb):=C.eL hE (fun mm b k hz hs=>by
     obtain ⟨rfl,rfl⟩:=hs
     exact h.vI r mm _ _ hz (aX i4)) _ (fun b k hf hs=>by
     obtain ⟨rfl,rfl⟩:=hs
     exact x4 r _ _ hf (aX i4)) x2
    refine ⟨?_,?_,?_,fun t b k hf hf'=>?_,fun b k hf=>x5 b k ((bV x b k).1 hf)⟩
    ·rw [nw]; split
     ·exact C.DB _ _ x1
     ·exact x1
    ·rw [nw]; split
     ·exact C.kH _ _ hok
     ·exact hok
    ·have:=i7 x x3
     rw [nw]
     cases hb : mG r p i c s <;> rw [hb] at this <;> exact this
    ·rcases i3 t b k hf' with hy | hg
     ·exact fT.1 x hx b k hy ((bV x b k).1 hf)
     ·exact x4 t b k ((bV x b k).1 hf) hg
   ·refine List.pairwise_map.2 (fT.2.imp ?_)
    intro a b hab x k hf hf'
    exact hab x k ((bV a x k).1 hf) ((bV b x k).1 hf')
  have fin : ∀ (f : C→C),(∀ x,f x = if mG r p i c s then x.ay (C.bA r (p ++ [(i,c)])) else x)→setCells r p i c ((y :: l).map C.er) s = setCells r p i (c + 1) ((l.map f).map C.er) (setCell r p i c y.er s) →
    ∃ w' G',(storeCells ⟨g,k0,none⟩ ((y :: l).map C.val) m).run P w = .ok () w'∧Inv w' zl zb G' (setCells r p i c ((y :: l).map C.er) s)∧(∀ t,(G' t).val = (G t).val)∧(∀ t b k,(G' t).fp b k→(∃ x∈y :: l,x.fp b k)∨(G t).fp b k)∧Ext (fun b k=>b = g∧k0 + m≤k∧k < k0 + m + (n + 1)) w w':=by
   intro f nw wX
   have bV : ∀ x b k,(f x).fp b k↔x.fp b k:=fun x b k=>by
    rw [nw]; split
    ·exact C.cu _ x b k
    ·exact Iff.rfl
   have hval : (l.map f).map C.val = l.map C.val:=by
    rw [List.map_map]
    refine List.map_congr_left fun x _=>?_
    show (f x).val = x.val
    rw [nw]; split
    ·exact C.iu _ x
    ·rfl
   obtain ⟨w',G',j1,j2,j3,j4,j5⟩:=PG r p i n (l.map f) (by simpa using hn) (c + 1) (m + 1) i1 i8 (fun q x hq=>by
    rw [List.getElem?_map] at hq
    cases qW : l[q]? with
    | none=>rw [qW] at hq; cases hq
    | some x0 =>
     rw [qW] at hq
     simp only [Option.map_some,Option.some.injEq] at hq
     subst hq
     have h1:=i9 _ _ _ _ _ (hsp (q + 1) x0 (by simpa using qW))
     rw [show c + 1 + q = c + (q + 1) by omega,show k0 + (m + 1) + q = k0 + m + (q + 1) by omega]
     rw [nw]; split
     ·exact h1.hand fun hs=>by rw [C.uO _ _ hs]; exact hs
     ·exact h1) (aad f nw)
   refine ⟨w',G',?_,by rw [wX]; exact j2,fun t=>(j3 t).trans (i2 t),fun t b k hf=>?_,?_⟩
   ·rw [List.map_cons,storeCells,Sem.run_bind,oA,ad3 (Inv.oK y1) hu i6]
    simp only [Result.andThen_ok]
    rw [← hval]
    exact j1
   ·rcases j4 t b k hf with ⟨x,hx,hf'⟩ | hf'
    ·obtain ⟨x0,hx0,rfl⟩:=List.mem_map.1 hx
     exact .inl ⟨x0,List.mem_cons_of_mem _ hx0,(bV x0 b k).1 hf'⟩
    ·exact (i3 t b k hf').imp (fun hy=>⟨y,List.mem_cons_self ..,hy⟩) id
   ·refine (hE.mono (S':=fun b k=>b = g∧k0 + m≤k∧k < k0 + m + (n + 1)) (fun b k hs _=>⟨hs.1,by omega,by omega⟩)).trans j5 fun b k hs hb=>⟨hs.1,by omega,by omega⟩
  cases tD : mG r p i c s with
  | true =>
   refine fin (fun x=>x.ay (C.bA r (p ++ [(i,c)]))) (fun x=>by rw [if_pos tD]) ?_
   simp only [List.map_cons]
   rw [setCells,tD,cond_true,aby]
  | false =>
   refine fin id (fun x=>by rw [tD]; rfl) ?_
   simp only [List.map_cons]
   rw [setCells,tD,cond_false]
   simp
end
end M
