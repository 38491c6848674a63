/- A machine of values for loaded Go functions, sound for the calculus of calls; part 1; no conditions. -/
import Derived.Calls
import Derived.Orders
import Derived.Laws.Sem
import Derived.Below
import Derived.Laws.Cells
import Derived.Laws.Strings
import Derived.Laws.StructEq
import Derived.Laws.IdiomStrings
import Derived.Laws.Entries
import Derived.Laws.OwnMore
import Derived.Great.BuildSlice
set_option linter.unusedSectionVars false
set_option linter.unusedVariables false
set_option linter.unusedSimpArgs false
namespace M
open Go
inductive Md where | own | sl | af
 deriving DecidableEq,Repr
abbrev Path:=List (Nat×Nat)
inductive X where
 | dead
 | int (k : IntKind) (n : Int)
 | bool (b : Bool)
 | str (s : ByteArray)
 | row (m : Md) (sz : Nat) (xs : List (List X))
 | ptr (m : Md) (cs : List X)
 | agg (cs : List X)
 | au (cs : List X)
 | fn (f : FuncId) (caps : List X)
 | ref (s : Nat) (p : Path)
 | az (s : Nat) (p : Path) (i c : Nat)
 | cut (s : Nat) (p : Path) (lo hi : Nat)
namespace X
def step : X→Nat×Nat→Option X
 | .row _ _ xs,q=>(xs[q.1]?).bind (·[q.2]?)
 | .ptr _ cs,q=>bif q.1 == 0 then cs[q.2]? else none
 | .agg cs,q=>bif q.1 == 0 then cs[q.2]? else none
 | .au cs,q=>bif q.1 == 0 then cs[q.2]? else none
 | _,_=>none
def sub (x : X) : Path→Option X
 | []=>some x
 | q :: p=>(x.step q).bind (·.sub p)
def aM : X→Nat×Nat→X→X
 | .row m sz xs,q,y=>.row m sz (xs.modify q.1 (·.set q.2 y))
 | .ptr m cs,q,y=>.ptr m (cs.set q.2 y)
 | .agg cs,q,y=>.agg (cs.set q.2 y)
 | .au cs,q,y=>.au (cs.set q.2 y)
 | x,_,_=>x
def putAt : Path→X→X→X
 | [],_,y=>y
 | q :: p,x,y=>match x.step q with
  | some z=>x.aM q (putAt p z y)
  | none=>x
mutual
def md (m : Md) : X→X
 | .row _ sz xs=>.row m sz (bx m xs)
 | .ptr _ cs=>.ptr m (cJ m cs)
 | .agg cs=>.agg (cJ m cs)
 | .au cs=>.au (cJ m cs)
 | .fn f cs=>.fn f (cJ m cs)
 | .ref _ _=>.dead
 | .az _ _ _ _=>.dead
 | .cut _ _ _ _=>.dead
 | .dead=>.dead
 | .int k n=>.int k n
 | .bool b=>.bool b
 | .str s=>.str s
def cJ (m : Md) : List X→List X
 | []=>[]
 | x :: l=>x.md m :: cJ m l
def bx (m : Md) : List (List X)→List (List X)
 | []=>[]
 | x :: l=>cJ m x :: bx m l
end
def eY : X→Bool
 | .row _ _ _=>true
 | .ptr _ _=>true
 | .agg _=>true
 | .au _=>true
 | _=>false
def pfx : Path→Path→Bool
 | [],_=>true
 | _ :: _,[]=>false
 | q :: p,r :: t=>q.1 == r.1 && q.2 == r.2 && pfx p t
mutual
def kill (r : Nat) (p : Path) : X→X
 | .ref s q=>bif s == r && pfx p q then .dead else .ref s q
 | .az s q i c=>bif s == r && pfx p q then .dead else .az s q i c
 | .cut s q i c=>bif s == r && pfx p q then .dead else .cut s q i c
 | .ptr m cs=>.ptr m (ep r p cs)
 | .agg cs=>.agg (ep r p cs)
 | .au cs=>.au (ep r p cs)
 | .fn f cs=>.fn f (ep r p cs)
 | .dead=>.dead
 | .int k n=>.int k n
 | .bool b=>.bool b
 | .str s=>.str s
 | .row m sz xs=>.row m sz xs
def ep (r : Nat) (p : Path) : List X→List X
 | []=>[]
 | x :: l=>x.kill r p :: ep r p l
end
theorem AP (r : Nat) (p : Path) : ∀ l : List X,(ep r p l).length = l.length
 | []=>rfl
 | x :: l=>by simp only [ep,List.length_cons,AP r p l]
mutual
def only (ks : List Nat) : X→X
 | .ref s q=>bif ks.contains s then .ref s q else .dead
 | .az s q i c=>bif ks.contains s then .az s q i c else .dead
 | .cut s q i c=>bif ks.contains s then .cut s q i c else .dead
 | .ptr m cs=>.ptr m (kZ ks cs)
 | .agg cs=>.agg (kZ ks cs)
 | .au cs=>.au (kZ ks cs)
 | .fn f cs=>.fn f (kZ ks cs)
 | .dead=>.dead
 | .int k n=>.int k n
 | .bool b=>.bool b
 | .str s=>.str s
 | .row m sz xs=>.row m sz xs
def kZ (ks : List Nat) : List X→List X
 | []=>[]
 | x :: l=>x.only ks :: kZ ks l
end
end X
abbrev ag:=List (Nat×X)
def get : ag→Nat→X
 | [],_=>.dead
 | (k',v) :: s,k=>bif k' == k then v else get s k
def mo (r : Nat) (p : Path) : ag→ag
 | []=>[]
 | (k,v) :: s=>(k,v.kill r p) :: mo r p s
def put (d : Nat) (v : X) (s : ag) : ag:=bif (get s d).eY then (d,v.kill d []) :: mo d [] s else (d,v) :: s
def dB : Option Nat→X→ag→ag
 | some d,v,s=>put d v s
 | none,_,s=>s
inductive AV where
 | t (n : Nat)
 | k (x : X)
def X.clean : X→Bool
 | .ref _ _=>false
 | .az _ _ _ _=>false
 | .cut _ _ _ _=>false
 | .row m _ xs=>(match m with | .af=>false | _=>true) && aR xs
 | .ptr m cs=>(match m with | .af=>false | _=>true) && bE cs
 | .agg cs=>bE cs
 | .au cs=>bE cs
 | .fn _ cs=>bE cs
 | _=>true
where
 bE : List X→Bool
 | []=>true
 | x :: l=>X.clean x && bE l
 aR : List (List X)→Bool
 | []=>true
 | x :: l=>bE x && aR l
def e9 (n : Nat) (p : Path) : X→X
 | .row .own _ _=>.ref n p
 | .ptr .own _=>.az n p 0 0
 | x=>x
def mR (n : Nat) (p : Path) (i : Nat) : Nat→List X→List X
 | _,[]=>[]
 | c,x :: l=>e9 n (p ++ [(i,c)]) x :: mR n p i (c + 1) l
def ei (n : Nat) (p : Path) : X→X
 | .agg cs=>.agg (mR n p 0 0 cs)
 | x=>e9 n p x
def qN (n : Nat) (p : Path) : Nat→List X→List X
 | _,[]=>[]
 | j,x :: l=>ei n (p ++ [(0,j)]) x :: qN n p (j + 1) l
def alias (n : Nat) (p : Path) : X→X
 | .au cs=>.au (qN n p 0 cs)
 | x=>ei n p x
def ai (s : ag) : AV→X
 | .t n=>alias n [] (get s n)
 | .k x=>x
def look (s : ag) (r : Nat) (p : Path) : Option X:=(get s r).sub p
def eZ (r : Nat) (p : Path) (y : X) (s : ag) : ag:=(r,X.putAt p (get (mo r p s) r) (y.kill r p)) :: mo r p s
def Gi (r : Nat) (p : Path) (y : X) (s : ag) : ag:=(r,X.putAt p (get s r) y) :: s
inductive Tk where | mv | al | bJ
def move (r : Nat) (p : Path) (s : ag) : X×ag:=match look s r p with
 | some y=>(y.kill r p,eZ r p .dead s)
 | none=>(.dead,s)
def tw (r : Nat) (p : Path) (lo hi : Nat) (s : ag) : X×ag:=match look s r p with
 | some (.row .own z xs)=>(.row .own z ((xs.take hi).drop lo),eZ r p .dead s)
 | _=>(.cut r p lo hi,s)
def xA (r : Nat) (p : Path) (i c : Nat) (s : ag) : X×ag:=match look s r p with
 | some (.ptr .own cs)=>bif i == 0 && c == 0 then (.ptr .own (X.ep r p cs),eZ r p .dead s) else (.az r p i c,s)
 | _=>(.az r p i c,s)
def GA (h : Tk) : X→ag→X×ag
 | .ref r p,s=>match h with
  | .al=>(.ref r p,s)
  | .bJ=>match p with
   | []=>move r [] s
   | q :: t=>(.ref r (q :: t),s)
  | .mv=>move r p s
 | .cut r p lo hi,s=>match h with
  | .al=>(.cut r p lo hi,s)
  | .bJ=>match p with
   | []=>tw r [] lo hi s
   | q :: t=>(.cut r (q :: t) lo hi,s)
  | .mv=>tw r p lo hi s
 | .az r p i c,s=>match h with
  | .al=>(.az r p i c,s)
  | .bJ=>(.az r p i c,s)
  | .mv=>xA r p i c s
 | x,s=>(x,s)
def bk : List X→ag→List X×ag
 | [],s=>([],s)
 | x :: l,s=>match x with
  | .ref r p=>((move r p s).1 :: (bk l (move r p s).2).1,(bk l (move r p s).2).2)
  | .az _ _ _ _=>(.dead :: (bk l s).1,(bk l s).2)
  | .cut _ _ _ _=>(.dead :: (bk l s).1,(bk l s).2)
  | .fn _ _=>(.dead :: (bk l s).1,(bk l s).2)
  | .ptr _ _=>(.dead :: (bk l s).1,(bk l s).2)
  | .agg _=>(.dead :: (bk l s).1,(bk l s).2)
  | .au _=>(.dead :: (bk l s).1,(bk l s).2)
  | y=>(y :: (bk l s).1,(bk l s).2)
def take (h : Tk) : X→ag→X×ag
 | .agg cs,s=>match h with
  | .mv=>(.agg (bk cs s).1,(bk cs s).2)
  | _=>(.agg cs,s)
 | x,s=>GA h x s
def jH (s : ag) (r : Nat) (p : Path) : Bool:=match look s r p with
 | some .dead=>(match p.getLast? with
  | some _=>(match look s r p.dropLast with
   | some (.row .own _ _)=>true
   | some (.ptr .own _)=>true
   | some (.agg _)=>true
   | some (.au _)=>true
   | _=>false)
  | none=>false)
 | _=>false
def gZ (r : Nat) (p : Path) : List X→Bool
 | []=>true
 | .ref r' p' :: l=>!(r' == r && X.pfx p p') && gZ r p l
 | _ :: l=>gZ r p l
def fe : List X→List X→ag→Option ag
 | [],_,s=>some s
 | x :: l,ys,s=>match x,ys with
  | .ref r p,y :: ys=>bif jH s r p && gZ r p l then fe l ys ((r,X.putAt p (get s r) y) :: s) else none
  | _,_ :: ys=>fe l ys s
  | _,[]=>none
def cellsOf : X→List X
 | .agg cs=>cs
 | .au _=>[]
 | .dead=>[]
 | x=>[x]
inductive PM where | af | fW (n : Nat) | mv | mut (n : Nat)
def scalar : X→Bool
 | .int _ _=>true
 | .bool _=>true
 | .str _=>true
 | _=>false
def dN (s : ag) : X→Option (List X)
 | .ptr _ cs=>some cs
 | .az r p i c=>match look s r p with
  | some (.row _ _ xs)=>(xs[i]?).map fun e=>mR r p i c (e.drop c)
  | some (.ptr _ cs)=>some (mR r p i c (cs.drop c))
  | _=>none
 | _=>none
def rowAt (s : ag) : X→Option (Nat×List (List X))
 | .row _ z xs=>some (z,xs)
 | .ref r p=>match look s r p with
  | some (.row _ z xs)=>some (z,xs)
  | _=>none
 | .cut r p lo hi=>match look s r p with
  | some (.row _ z xs)=>some (z,(xs.take hi).drop lo)
  | _=>none
 | _=>none
def ig (s : ag) : X→X
 | .ref r p=>match look s r p with
  | some y=>y.md .af
  | none=>.dead
 | .cut r p lo hi=>match look s r p with
  | some (.row _ sz xs)=>X.md .af (.row .af sz ((xs.take hi).drop lo))
  | _=>.dead
 | x=>x.md .af
def jY (s : ag) : List X→List X
 | []=>[]
 | x :: l=>ig s x :: jY s l
def qi (n : Nat) (s : ag) (x : X) : X:=match dN s x with
 | some (c :: cs)=>.ptr .af (jY s ((c :: cs).take n))
 | _=>.dead
def eX (s : ag) : X→X
 | .az r p i c=>(match dN s (.az r p i c) with | some (c :: cs)=>X.ptr .af (jY s (c :: cs)) | _=>.dead)
 | x=>ig s x
def ij (s : ag) : List X→List X
 | []=>[]
 | x :: l=>eX s x :: ij s l
def dS (s : ag) : List X→List X
 | []=>[]
 | x :: l=>(match x with
  | .az r p i c=>(match dN s (.az r p i c) with | some (c :: cs)=>X.ptr .af (ij s (c :: cs)) | _=>.dead)
  | x=>ig s x) :: dS s l
def res (s : ag) : X→X
 | .agg cs=>.agg (jY s cs)
 | .fn f cs=>.fn f (dS s cs)
 | x=>ig s x
def jU (r : Nat) (p : Path) (i c : Nat) (s : ag) : Bool:=match look s r (p ++ [(i,c)]) with
 | some z=>z.eY
 | none=>true
def setCell (r : Nat) (p : Path) (i c : Nat) (y : X) (s : ag) : ag :=
 bif jU r p i c s then eZ r (p ++ [(i,c)]) y s else Gi r (p ++ [(i,c)]) y s
def setCells (r : Nat) (p : Path) (i : Nat) : Nat→List X→ag→ag
 | _,[],s=>s
 | c,y :: l,s=>bif jU r p i c s then setCells r p i (c + 1) (X.ep r (p ++ [(i,c)]) l) (setCell r p i c y s) else setCells r p i (c + 1) l (setCell r p i c y s)
termination_by _ l=>l.length
decreasing_by all_goals simp [X.AP]
def vo (d : Nat) (cs : List X) (k : List X→X) (s : ag) : Option ag :=
 bif X.clean.bE (bk cs s).1 then (fe cs (X.cJ .sl (bk cs s).1) (bk cs s).2).map (put d (k (X.cJ .sl (bk cs s).1))) else none
def ghost (fz : Bool) (d : Nat) (s : ag) : Option ag :=
 bif fz then (match ai s (.t d) with
  | .agg cs=>vo d cs .agg s
  | .ref r p=>vo d [.ref r p] (·.headD .dead) s
  | _=>some s)
 else some (put d (take .mv (ai s (.t d)) s).1 (take .mv (ai s (.t d)) s).2)
inductive Ex where | normal | exit (id : Nat) | ret
inductive bA where
 | mv (d : Nat) (x : AV)
 | bY (d : Nat) (h : Tk) (x : AV)
 | pick (d : Nat) (c a b : AV)
 | un (d : Nat) (op : UnOp) (x : AV)
 | bin (d : Nat) (op : BinOp) (x y : AV)
 | beq (d : Nat) (neg : Bool) (x y : AV)
 | mP (d : Nat) (neg : Bool) (ks : List Nat) (x y : AV)
 | mE (d : Nat) (neg : Bool) (x : AV)
 | conv (d : Nat) (k : IntKind) (x : AV)
 | bytes (d : Nat) (x : AV)
 | text (d : Nat) (x : AV)
 | box (d : Nat) (h : Tk) (x : AV)
 | new (d : Nat) (zero : List X)
 | build (d : Nat) (h : Tk) (zero : List X) (parts : List ((Nat×Nat)×AV))
 | lit (d : Nat) (h : Tk) (sz : Nat) (parts : List AV)
 | make (d : Nat) (sz bytes : Nat) (zero : List X) (n : AV)
 | load (d : Nat) (sz : Nat) (agg : Bool) (a : AV)
 | store (sz : Nat) (h : Tk) (a x : AV)
 | jC (d : Nat) (x : AV)
 | kD (d : Nat) (x : AV) (off : Nat)
 | ng (d : Nat) (x : AV) (off sz : Nat) (agg : Bool)
 | mg (d : Nat) (sz : Nat) (x i : AV)
 | de (d : Nat) (x i : AV)
 | mQ (d : Nat) (n sz : Nat) (agg : Bool) (x i : AV)
 | ext (d : Nat) (x : AV) (i : Nat)
 | j8 (d : Nat) (x : AV) (lo hi : Option AV)
 | mI (d : Nat) (sz : Nat) (x : AV) (lo hi : Option AV)
 | kX (d : Nat) (f : FuncId) (caps : List AV)
 | len (d : Nat) (x : AV)
 | mJ (d : Nat) (x : AV)
 | app (d : Nat) (h : Tk) (sz bytes : Nat) (x y : AV)
 | mn (d : Nat) (xs : List AV)
 | mx (d : Nat) (xs : List AV)
 | gO (d : Option Nat) (f : FuncId) (x : AV) (as : List (AV×PM))
 | oH (sz : Nat) (z : List X) (x : AV)
 | nJ (d : Nat) (fz : Bool) (sz : Nat) (agg : Bool) (a : AV)
 | call (d : Option Nat) (f : FuncId) (as : List (AV×PM))
 | jA (d : Option Nat) (f : AV) (as : List (AV×PM))
structure G where
 g : Option (Nat×Bool):=none
 o : bA
inductive DT where
 | nil (ks : List Nat)
 | step (i : Nat) (g : G) (t : DT)
 | alt (a b : DT)
 | kp (ks : List Nat) (t : DT)
inductive A where
 | skip | ret
 | ops (l : List G)
 | draw (t : DT)
 | seq (a b : A)
 | cond (c : AV) (a b : A)
 | block (id : Nat) (b : A)
 | loop (b : A)
 | exit (id : Nat)
 | pk (ks : List Nat) (b : A)
end M
namespace M
open Go Go.RowKit
abbrev Ad:=Nat×Nat×Option Nat
def fF (n : Nat) (q : Ad) : Ad:=if n = 0 then q else (q.1,q.2.1 + n,none)
theorem ko (n g o : Nat) : fF n (g,o,none) = (g,o + n,none):=by
 unfold fF
 split
 ·rename_i h; subst h; rfl
 ·rfl
theorem Ip (n : Nat) (q : Ad) : (⟨(fF n q).1,(fF n q).2.1,(fF n q).2.2⟩ : Addr) = (⟨q.1,q.2.1,q.2.2⟩ : Addr).add n:=by
 unfold fF Addr.add
 split <;> rfl
inductive C where
 | dead (v : Value)
 | int (k : IntKind) (n : Int)
 | bool (b : Bool)
 | str (s : ByteArray)
 | row (m : Md) (sz : Nat) (A : Option Ad) (len cap : Nat) (e : Nat→Nat→C)
 | ptr (m : Md) (g o n : Nat) (c : Nat→C)
 | agg (n : Nat) (c : Nat→C)
 | au (n : Nat) (c : Nat→C)
 | fn (f : FuncId) (n : Nat) (c : Nat→C)
 | ref (v : Value) (s : Nat) (p : Path)
 | az (v : Value) (s : Nat) (p : Path) (i c : Nat)
 | cut (v : Value) (s : Nat) (p : Path) (lo hi : Nat)
namespace C
def val : C→Value
 | .dead v=>v
 | .int k n=>.int k n
 | .bool b=>.bool b
 | .str s=>.string s
 | .row _ _ A len cap _=>.slice (A.map fun q=>⟨q.1,q.2.1,q.2.2⟩) len cap
 | .ptr _ g o _ _=>.pointer (some ⟨g,o,none⟩)
 | .agg n c=>.agg ((List.range n).map fun j=>(c j).val).toArray
 | .au n c=>.tuple ((List.range n).map fun j=>(c j).val).toArray
 | .fn f n c=>.func (.func f) #[] ((List.range n).map fun j=>(c j).val).toArray
 | .ref v _ _=>v
 | .az v _ _ _ _=>v
 | .cut v _ _ _ _=>v
def er : C→X
 | .dead _=>.dead
 | .int k n=>.int k n
 | .bool b=>.bool b
 | .str s=>.str s
 | .row m sz _ len _ e=>.row m sz ((List.range len).map fun i=>(List.range sz).map fun j=>(e i j).er)
 | .ptr m _ _ n c=>.ptr m ((List.range n).map fun j=>(c j).er)
 | .agg n c=>.agg ((List.range n).map fun j=>(c j).er)
 | .au n c=>.au ((List.range n).map fun j=>(c j).er)
 | .fn f n c=>.fn f ((List.range n).map fun j=>(c j).er)
 | .ref _ s p=>.ref s p
 | .az _ s p i c=>.az s p i c
 | .cut _ s p lo hi=>.cut s p lo hi
def fp : C→Nat→Nat→Prop
 | .row m sz A len _ e=>fun b k=>m = .own∧((∃ o,A = some (b,o,none))∨∃ i j,i < len∧j < sz∧(e i j).fp b k)
 | .ptr m g o n c=>fun b k=>m = .own∧((b = g∧o≤k∧k < o + n)∨∃ j,j < n∧(c j).fp b k)
 | .agg n c=>fun b k=>∃ j,j < n∧(c j).fp b k
 | .au n c=>fun b k=>∃ j,j < n∧(c j).fp b k
 | _=>fun _ _=>False
def cell : C→Prop
 | .agg _ _=>False
 | .au _ _=>False
 | .dead v=>v.oneCell' = true
 | .ref v _ _=>v.oneCell' = true
 | .az v _ _ _ _=>v.oneCell' = true
 | .cut v _ _ _ _=>v.oneCell' = true
 | _=>True
def dJ : C→Prop
 | .au _ _=>False
 | _=>True
def bO : C→Prop
 | .agg _ _=>False
 | .au _ _=>False
 | .ref _ _ _=>False
 | .az _ _ _ _ _=>False
 | .cut _ _ _ _ _=>False
 | .fn _ _ _=>False
 | .ptr _ _ _ _ _=>False
 | _=>True
def fits (m : Md) : C→Prop
 | .row m' _ _ _ _ _=>m = .own∨m' = m∨(m = .af∧m' = .sl)
 | .ptr m' _ _ _ _=>m = .own∨m' = m∨(m = .af∧m' = .sl)
 | _=>True
end C
def Zf (zl zb : Nat→Nat→Prop) : Md→Nat→Nat→Prop
 | .own=>fun _ _=>False
 | .sl=>zl
 | .af=>fun b k=>zl b k∨zb b k
namespace C
def ok (w : World) (Z : Md→Nat→Nat→Prop) : C→Prop
 | .row m sz A len cap e =>
  len≤cap ∧
  (∀ i j,i < len→j < sz→∃ g o,A = some (g,o,none)∧w.cell? ⟨g,o + i * sz + j,none⟩ = some (e i j).val∧(m≠.own→Z m g (o + i * sz + j))) ∧
  (∀ i j,i < len→j < sz→(e i j).cell∧(e i j).bO∧(e i j).fits m∧(e i j).ok w Z) ∧
  (m = .own→(A = none∧cap = 0)∨∃ g o arr t fz,A = some (g,o,none)∧w.heap[g]? = some (.cells arr t fz)∧o + cap * sz≤arr.size∧∀ k,o≤k→k < o + cap * sz→w.frozen? ⟨g,k,none⟩ = false) ∧
  (∀ i j,i < len→j < sz→∀ b k,(e i j).fp b k→(m = .own→∀ o,A≠some (b,o,none))∧∀ i' j',i' < len→j' < sz→(i,j)≠(i',j')→¬ (e i' j').fp b k)
 | .ptr m g o n c =>
  (∀ j,j < n→w.cell? ⟨g,o + j,none⟩ = some (c j).val∧(m≠.own→Z m g (o + j))∧(m = .own→w.frozen? ⟨g,o + j,none⟩ = false)) ∧
  g < w.heap.size ∧
  (∀ j,j < n→(c j).cell∧(c j).fits m∧(c j).ok w Z) ∧
  (∀ j,j < n→∀ b k,(c j).fp b k→(m = .own→¬ (b = g∧o≤k∧k < o + n))∧∀ j',j' < n→j≠j'→¬ (c j').fp b k)
 | .agg n c=>(∀ j,j < n→(c j).cell∧(c j).ok w Z)∧(∀ j,j < n→∀ b k,(c j).fp b k→∀ j',j' < n→j≠j'→¬ (c j').fp b k)
 | .au n c=>(∀ j,j < n→(c j).dJ∧(c j).ok w Z)∧(∀ j,j < n→∀ b k,(c j).fp b k→∀ j',j' < n→j≠j'→¬ (c j').fp b k)
 | .fn _ n c=>∀ j,j < n→(c j).ok w Z∧∀ b k,¬ (c j).fp b k
 | .str s=>s.size≤9223372036854775807
 | _=>True
end C
class Bs where
 W0 : World
def kn [B : Bs] (w : World) (zl zb : Nat→Nat→Prop) : Prop:=∀ b,b < B.W0.heap.size→w.heap[b]? = B.W0.heap[b]?∧∀ k,zl b k∨zb b k
structure Ext (S : Nat→Nat→Prop) (w w' : World) : Prop where
 os : w'.os = w.os
 tape : w'.tape = w.tape
 output : w'.output = w.output
 size : w.heap.size≤w'.heap.size
 block : ∀ b,b < w.heap.size→w'.heap[b]? = w.heap[b]?∨∃ arr dF t fz,w.heap[b]? = some (.cells arr t fz)∧w'.heap[b]? = some (.cells dF t fz)∧dF.size = arr.size∧∀ k,¬ S b k→dF[k]? = arr[k]?
namespace Ext
variable {S S' : Nat→Nat→Prop} {w w1 w2 : World}
theorem refl (S : Nat→Nat→Prop) (w : World) : Ext S w w:=⟨rfl,rfl,rfl,Nat.le_refl _,fun _ _=>.inl rfl⟩
theorem trans (h : Ext S w w1) (h' : Ext S' w1 w2) (hs : ∀ b k,S' b k→b < w.heap.size→S b k) : Ext S w w2:=by
 refine ⟨h'.os.trans h.os,h'.tape.trans h.tape,h'.output.trans h.output,Nat.le_trans h.size h'.size,fun b hb=>?_⟩
 rcases h.block b hb with e | ⟨arr,dF,t,fz,e1,e2,e3,e4⟩
 ·rcases h'.block b (Nat.lt_of_lt_of_le hb h.size) with e' | ⟨a1,a2,t',iE,f1,f2,f3,f4⟩
  ·exact .inl (e'.trans e)
  ·exact .inr ⟨a1,a2,t',iE,e ▸ f1,f2,f3,fun k hk=>f4 k fun hS=>hk (hs b k hS hb)⟩
 ·rcases h'.block b (Nat.lt_of_lt_of_le hb h.size) with e' | ⟨a1,a2,t',iE,f1,f2,f3,f4⟩
  ·exact .inr ⟨arr,dF,t,fz,e1,e'.trans e2,e3,e4⟩
  ·rw [e2] at f1
   injection f1 with f1
   injection f1 with g1 g2 g3
   subst g1; subst g2; subst g3
   exact .inr ⟨arr,a2,t,fz,e1,f2,f3.trans e3,fun k hk=>(f4 k fun hS=>hk (hs b k hS hb)).trans (e4 k hk)⟩
theorem mono (h : Ext S w w1) (hs : ∀ b k,S b k→b < w.heap.size→S' b k) : Ext S' w w1:=by
 refine ⟨h.os,h.tape,h.output,h.size,fun b hb=>?_⟩
 rcases h.block b hb with e | ⟨arr,dF,t,fz,e1,e2,e3,e4⟩
 ·exact .inl e
 ·exact .inr ⟨arr,dF,t,fz,e1,e2,e3,fun k hk=>e4 k fun hS=>hk (hs b k hS hb)⟩
theorem cell (h : Ext S w w1) {b k : Nat} (hS : ¬ S b k) {v : Value} (hc : w.cell? ⟨b,k,none⟩ = some v) : w1.cell? ⟨b,k,none⟩ = some v:=by
 have hb : b < w.heap.size:=by
  rcases Nat.lt_or_ge b w.heap.size with h | h
  ·exact h
  ·simp [World.cell?,Array.getElem?_eq_none h] at hc
 rcases h.block b hb with e | ⟨arr,dF,t,fz,e1,e2,e3,e4⟩
 ·simpa [World.cell?,e] using hc
 ·simp only [World.cell?,e1,e2] at hc ⊢
  simpa [e4 k hS] using hc
theorem frozen (h : Ext S w w1) {b k : Nat} (hb : b < w.heap.size) : w1.frozen? ⟨b,k,none⟩ = w.frozen? ⟨b,k,none⟩:=by
 rcases h.block b hb with e | ⟨arr,dF,t,fz,e1,e2,e3,e4⟩
 ·simp [World.frozen?,e]
 ·simp [World.frozen?,e1,e2]
theorem below (h : Ext (fun _ _=>False) w w1) : Below w.heap.size w w1:=by
 refine ⟨h.os,h.tape,h.output,h.size,fun b hb=>?_⟩
 rcases h.block b hb with e | ⟨arr,dF,t,fz,e1,e2,e3,e4⟩
 ·exact e
 ·have : dF = arr:=by
   apply Array.ext_getElem?
   intro i
   exact e4 i (by simp)
  rw [e1,e2,this]
theorem drew (w : World) (S : Nat→Nat→Prop) : Ext S w w.drew:=⟨rfl,rfl,rfl,Nat.le_refl _,fun _ _=>.inl rfl⟩
theorem alloc (w : World) (S : Nat→Nat→Prop) (o : Obj) : Ext S w (w.alloc o):=by
 exact ⟨rfl,rfl,rfl,by show w.heap.size≤(w.heap.push o).size; simp,fun b hb=>.inl (Below.heap_alloc w o b hb)⟩
end Ext
end M
namespace M
open Go
namespace C
def bare : C→Prop
 | .ref _ _ _=>False
 | .az _ _ _ _ _=>False
 | .cut _ _ _ _ _=>False
 | .ptr _ _ _ n c=>∀ j,j < n→(c j).bare
 | .agg n c=>∀ j,j < n→(c j).bare
 | .au n c=>∀ j,j < n→(c j).bare
 | .fn _ n c=>∀ j,j < n→(c j).bare
 | _=>True
end C
structure iT (w : World) (zl zb : Nat→Nat→Prop) (cs : List C) : Prop where
 ok : ∀ x∈cs,x.ok w (Zf zl zb)
 bare : ∀ x∈cs,x.bare
 fz : ∀ x∈cs,∀ b k,x.fp b k→¬ zl b k∧¬ zb b k
 bD : ∀ b k,zl b k∨zb b k→b < w.heap.size
 apart : cs.Pairwise fun a b=>∀ x k,a.fp x k→¬ b.fp x k
structure CN (w : World) (zl : Nat→Nat→Prop) (cs : List C) (e : Ending) (w' : World) (r : C) (ps : List C) (ay : Nat→Nat→Prop) : Prop where
 ends : e = .returned r.val
 vals : ps.map C.val = cs.map C.val
 ext : Ext (fun b k=>∃ x∈cs,x.fp b k) w w'
 all : iT w' ay (fun _ _=>False) (r :: ps)
 dom : ∀ x∈r :: ps,∀ b k,x.fp b k→(∃ y∈cs,y.fp b k)∨w.heap.size≤b
 mM : ∀ b k,zl b k→ay b k
 mN : ∀ b k,ay b k→zl b k∨(∃ y∈cs,y.fp b k)∨w.heap.size≤b
def AC [Bs] (P : Program) (f : FuncId) (xs : List X) (Q : X→List X→Prop) : Prop :=
 ∀ w zl zb cs,cs.map C.er = xs→iT w zl zb cs→kn w zl zb→Calls P f (cs.map C.val).toArray w fun e w'=>∃ r ps ay,CN w zl cs e w' r ps ay∧Q r.er (ps.map C.er)
def fZ : List Nat→List X→List X→Option Bool
 | [],[],[]=>some true
 | 0 :: ks,.int k a :: l,.int k' b :: r=>if k = k' then (fZ ks l r).map fun t=>(a == b) && t else none
 | 1 :: ks,.bool a :: l,.bool b :: r=>(fZ ks l r).map fun t=>(a == b) && t
 | 2 :: ks,.str a :: l,.str b :: r=>(fZ ks l r).map fun t=>decide (a = b) && t
 | _,_,_=>none
def oD (op : BinOp) : X→X→Prop
 | .int k a,.int k' b=>match op with
  | .shl=>0≤b
  | .shr=>0≤b
  | .quo=>k = k'∧b≠0
  | .rem=>k = k'∧b≠0
  | .andNot=>False
  | _=>k = k'
 | .str a,.str b=>match op with
  | .add=>a.size + b.size≤9223372036854775807
  | .eql=>True
  | .neq=>True
  | _=>False
 | _,_=>False
def yF (op : BinOp) : X→X→X
 | .int k a,.int _ b=>match op with
  | .add=>.int k (k.wrap (a + b))
  | .sub=>.int k (k.wrap (a - b))
  | .mul=>.int k (k.wrap (a * b))
  | .quo=>.int k (k.wrap (a.tdiv b))
  | .rem=>.int k (a.tmod b)
  | .shl=>.int k (k.wrap (a * 2 ^ (min b.toNat k.bits)))
  | .shr=>.int k (a.fdiv (2 ^ (min b.toNat k.bits)))
  | .and=>.int k (k.wrap (BitVec.ofInt k.bits a &&& BitVec.ofInt k.bits b).toNat)
  | .or=>.int k (k.wrap (BitVec.ofInt k.bits a ||| BitVec.ofInt k.bits b).toNat)
  | .xor=>.int k (k.wrap (BitVec.ofInt k.bits a ^^^ BitVec.ofInt k.bits b).toNat)
  | .eql=>.bool (decide (a = b))
  | .neq=>.bool (!decide (a = b))
  | .lss=>.bool (decide (a < b))
  | .leq=>.bool (decide (a≤b))
  | .gtr=>.bool (decide (b < a))
  | .geq=>.bool (decide (b≤a))
  | _=>.dead
 | .str a,.str b=>match op with
  | .add=>.str (a ++ b)
  | .eql=>.bool (decide (a = b))
  | .neq=>.bool (!decide (a = b))
  | _=>.dead
 | _,_=>.dead
def qy (op : UnOp) : X→Prop
 | .int _ _=>match op with
  | .neg=>True
  | _=>False
 | .bool _=>match op with
  | .not=>True
  | _=>False
 | _=>False
def CA (op : UnOp) : X→X
 | .int k n=>.int k (k.wrap (0 - n))
 | .bool b=>.bool (!b)
 | _=>.dead
def tH (t : Bool) : X→X→X
 | .bool a,.bool b=>.bool (bif t then a else b)
 | x,y=>bif t then x else y
def bO : X→Bool
 | .dead=>true
 | .int _ _=>true
 | .bool _=>true
 | .str _=>true
 | .row _ _ _=>true
 | _=>false
def eu : List X→Bool
 | []=>true
 | x :: l=>bO x && eu l
def takes (h : Tk) : List AV→ag→List X×ag
 | [],s=>([],s)
 | a :: l,s=>((take h (ai s a) s).1 :: (takes h l (take h (ai s a) s).2).1,(takes h l (take h (ai s a) s).2).2)
def gx {α : Type} : List α→Nat→List α→List α
 | cs,_,[]=>cs
 | cs,o,y :: l=>gx (cs.set o y) (o + 1) l
def oP : List X→List Nat→List X→List X
 | cs,o :: os,y :: ys=>oP (gx cs o (cellsOf y)) os ys
 | cs,_,_=>cs
def qp : List Nat→List X→Prop
 | [],[]=>True
 | n :: ns,y :: ys=>(cellsOf y).length = n∧qp ns ys
 | _,_=>False
def storable (s : ag) (r : Nat) (p : Path) (i c : Nat) (l : List X) : Prop:=match look s r p with
 | some (.row .own _ xs)=>(match xs[i]? with
  | some e=>c + l.length≤e.length∧eu l = true
  | none=>False)
 | some (.ptr .own cs)=>c + l.length≤cs.length
 | _=>False
def x8 : Tk→List X→Prop
 | .al,_=>True
 | _,l=>∀ x∈l,eu (cellsOf x) = true
def asNat (s : ag) : Option AV→Nat→Int
 | none,n=>n
 | some a,_=>match ai s a with
  | .int _ i=>i
  | _=>-1
def scalars : List (List X)→Prop:=fun xs=>∀ e∈xs,∀ c∈e,scalar c = true
def bh : List (AV×PM)→ag→List X×ag
 | [],s=>([],s)
 | (x,.mv) :: l,s=>((take .mv (ai s x) s).1 :: (bh l (take .mv (ai s x) s).2).1,(bh l (take .mv (ai s x) s).2).2)
 | (_,.af) :: l,s=>(.dead :: (bh l s).1,(bh l s).2)
 | (_,.fW _) :: l,s=>(.dead :: (bh l s).1,(bh l s).2)
 | (_,.mut _) :: l,s=>(.dead :: (bh l s).1,(bh l s).2)
def dM (s1 : ag) (y : X) : List (AV×PM)→List X→List X
 | (x,.af) :: l,_ :: ms=>res s1 (ai s1 x) :: dM s1 y l ms
 | (x,.fW n) :: l,_ :: ms=>qi n s1 (ai s1 x) :: dM s1 y l ms
 | (_,.mv) :: l,m :: ms=>m :: dM s1 y l ms
 | (_,.mut _) :: l,_ :: ms=>y :: dM s1 y l ms
 | _,_=>[]
def cD : List (AV×PM)→Option (AV×Nat)
 | []=>none
 | (x,.mut n) :: _=>some (x,n)
 | (_,.mv) :: l=>cD l
 | (_,.af) :: l=>cD l
 | (_,.fW _) :: l=>cD l
def eK : List (AV×PM)→List X→X
 | (_,.mut _) :: _,y :: _=>y
 | (_,.mv) :: l,_ :: r=>eK l r
 | (_,.af) :: l,_ :: r=>eK l r
 | (_,.fW _) :: l,_ :: r=>eK l r
 | _,_=>.dead
def kr (p q : Path) : Bool:=X.pfx p q && decide (p.length < q.length)
mutual
def X.cU (r : Nat) (p : Path) : X→X
 | .ref s q=>bif s == r && kr p q then .dead else .ref s q
 | .az s q i c=>bif s == r && kr p q then .dead else .az s q i c
 | .cut s q i c=>bif s == r && kr p q then .dead else .cut s q i c
 | .ptr m cs=>.ptr m (X.kR r p cs)
 | .agg cs=>.agg (X.kR r p cs)
 | .au cs=>.au (X.kR r p cs)
 | .fn f cs=>.fn f (X.kR r p cs)
 | .dead=>.dead
 | .int k n=>.int k n
 | .bool b=>.bool b
 | .str s=>.str s
 | .row m sz xs=>.row m sz xs
def X.kR (r : Nat) (p : Path) : List X→List X
 | []=>[]
 | x :: l=>x.cU r p :: X.kR r p l
end
def mj (r : Nat) (p : Path) : ag→ag
 | []=>[]
 | (k,v) :: s=>(k,v.cU r p) :: mj r p s
def dm (r : Nat) (p : Path) (y : X) (s : ag) : ag:=(r,X.putAt p (get (mj r p s) r) (y.cU r p)) :: mj r p s
def p7 (r : Nat) (p : Path) (s : ag) (n : Nat) (x : X) (go : X→(X→(ag→Prop)→Prop)→Prop) : Prop :=
 match x with
 | .ref _ _=>(match look s r p with
  | some (.row .own z xs)=>go (.row .own z xs) fun y K=>match y with
   | .row .own z' ys=>z' = z∧K (dm r p (.row .own z ys) s)
   | _=>False
  | _=>False)
 | .az _ _ i c=>(match look s r p with
  | some (.ptr .own cs)=>c + n≤cs.length∧go (.ptr .own ((cs.drop c).take n)) fun y K=>match y with
   | .ptr .own ys=>ys.length = n∧K (dm r p (.ptr .own (cs.take c ++ ys ++ cs.drop (c + n))) s)
   | _=>False
  | some (.row .own z xs)=>(match xs[i]? with
   | some e=>c + n≤e.length∧go (.ptr .own ((e.drop c).take n)) fun y K=>match y with
    | .ptr .own ys=>ys.length = n∧eu ys = true∧K (dm r p (.row .own z (xs.set i (e.take c ++ ys ++ e.drop (c + n)))) s)
    | _=>False
   | none=>False)
  | _=>False)
 | _=>False
def placeOf : X→Nat×Path
 | .ref r p=>(r,p)
 | .az r p _ _=>(r,p)
 | _=>(0,[])
def X.bare : X→Bool
 | .ref _ _=>false
 | .az _ _ _ _=>false
 | .cut _ _ _ _=>false
 | .ptr _ cs=>fG cs
 | .agg cs=>fG cs
 | .au cs=>fG cs
 | .fn _ cs=>fG cs
 | _=>true
where
 fG : List X→Bool
 | []=>true
 | x :: l=>X.bare x && fG l
def jB (s1 : ag) : Option AV→List X
 | none=>[]
 | some x=>match ai s1 x with
  | .fn _ cs=>dS s1 cs
  | _=>[]
def lO (s1 : ag) (fv : Option AV) (f : FuncId) : Prop:=match fv with
 | none=>True
 | some x=>match ai s1 x with
  | .fn g _=>g = f
  | _=>False
def mV [Bs] (P : Program) (f : FuncId) (d : Option Nat) (as : List (AV×PM)) (fv : Option AV) (s : ag) (K : ag→Prop) : Prop :=
 X.bare.fG (bh as s).1 = true ∧
 match cD as with
 | none=>lO (bh as s).2 fv f∧AC P f (dM (bh as s).2 .dead as (bh as s).1 ++ jB (bh as s).2 fv) fun r _=>K (dB d r (bh as s).2)
 | some (x,n)=>p7 (placeOf (ai (bh as s).2 x)).1 (placeOf (ai (bh as s).2 x)).2 (bh as s).2 n (ai (bh as s).2 x) fun y back=>X.bare y = true∧lO (eZ (placeOf (ai (bh as s).2 x)).1 (placeOf (ai (bh as s).2 x)).2 .dead (bh as s).2) fv f ∧
   AC P f (dM (eZ (placeOf (ai (bh as s).2 x)).1 (placeOf (ai (bh as s).2 x)).2 .dead (bh as s).2) y as (bh as s).1 ++ jB (eZ (placeOf (ai (bh as s).2 x)).1 (placeOf (ai (bh as s).2 x)).2 .dead (bh as s).2) fv)
    fun q ps=>back (eK as ps) fun s'=>K (dB d q s')
def uW (lo hi : Nat) (xs : List (List X)) : List (List X):=xs.mapIdx fun i e=>if lo≤i∧i < hi then e.map (fun _=>.dead) else e
def vj (lo hi : Nat) (z : List X) (xs : List (List X)) : List (List X):=xs.mapIdx fun i e=>if lo≤i∧i < hi then z else e
def gp (x : X) (s : ag) : X×ag:=match x with
 | .cut r p lo hi=>(match look s r p with
  | some (.row .own z xs)=>(.row .own z ((xs.take hi).drop lo),dm r p (.row .own z (uW lo hi xs)) s)
  | _=>(.dead,s))
 | x=>take .mv x s
def ax (P : Program) (f : FuncId) : Bool:=match P.funcs[f]? with
 | some fn=>!(fn.name == "runtime.NumGoroutine") && !fn.body.isNone
 | none=>false
def iO : List (List X)→Bool
 | (_ :: _) :: _=>true
 | _=>false
def aG [Bs] (P : Program) (o : bA) (s : ag) (K : ag→Prop) : Prop :=
 match o with
 | .mv d x=>K (put d (ai s x) s)
 | .bY d h x=>K (put d (take h (ai s x) s).1 (take h (ai s x) s).2)
 | .pick d c a b=>match ai s c with
  | .bool t=>K (put d (tH t (ai s a) (ai s b)) s)
  | _=>False
 | .un d op x=>qy op (ai s x)∧K (put d (CA op (ai s x)) s)
 | .bin d op x y=>oD op (ai s x) (ai s y)∧K (put d (yF op (ai s x) (ai s y)) s)
 | .beq d neg x y=>match ai s x,ai s y with
  | .bool p,.bool q=>K (put d (.bool (xor neg (p == q))) s)
  | _,_=>False
 | .mE d neg x=>match ai s x with
  | .row _ _ xs=>∀ b : Bool,(iO xs = true→b = false)→K (put d (.bool (xor neg b)) s)
  | _=>False
 | .mP d neg ks x y=>match ai s x,ai s y with
  | .agg p,.agg q=>∃ t,fZ ks p q = some t∧K (put d (.bool (xor neg t)) s)
  | _,_=>False
 | .conv d k x=>match ai s x with
  | .int _ n=>K (put d (.int k (k.wrap n)) s)
  | _=>False
 | .bytes d x=>match ai s x with
  | .str t=>K (put d (.row .own 1 (t.data.toList.map fun b=>[.int .u8 b.toNat])) s)
  | _=>False
 | .text d x=>∃ xs,rowAt s (ai s x) = some (1,xs)∧xs.length≤9223372036854775807∧∃ l : List UInt8,xs = l.map (fun b=>[.int .u8 b.toNat])∧K (put d (.str ⟨l.toArray⟩) s)
 | .box d h x=>0 < (cellsOf (take h (ai s x) s).1).length∧K (put d (.ptr .own (cellsOf (take h (ai s x) s).1)) (take h (ai s x) s).2)
 | .new d z=>K (put d (.ptr .own z) s)
 | .build d h z ps=>x8 h (takes h (ps.map (·.2)) s).1∧qp (ps.map (·.1.2)) (takes h (ps.map (·.2)) s).1∧K (put d (.agg (oP z (ps.map (·.1.1)) (takes h (ps.map (·.2)) s).1)) (takes h (ps.map (·.2)) s).2)
 | .lit d h sz ps=>(∀ x∈(takes h ps s).1,(cellsOf x).length = sz∧eu (cellsOf x) = true)∧K (put d (.row .own sz ((takes h ps s).1.map cellsOf)) (takes h ps s).2)
 | .make d sz bytes z n=>match ai s n with
  | .int _ i=>0≤i∧i * bytes≤140737488355328∧K (put d (.row .own sz (List.replicate i.toNat z)) s)
  | _=>False
 | .load d sz agg a=>∃ cs,dN s (ai s a) = some cs∧sz≤cs.length∧K (put d (bif agg then .agg (cs.take sz) else cs.headD .dead) s)
 | .store sz h a x=>(cellsOf (take h (ai s x) s).1).length = sz∧(match ai (take h (ai s x) s).2 a with
  | .az r p i c=>storable (take h (ai s x) s).2 r p i c (cellsOf (take h (ai s x) s).1)∧K (setCells r p i c (cellsOf (take h (ai s x) s).1) (take h (ai s x) s).2)
  | _=>False)
 | .jC d x=>match ai s x with
  | .az r p i c=>K (put d (.az r p i c) s)
  | .ptr m cs=>K (put d (.ptr m cs) s)
  | .fn f cs=>K (put d (.fn f cs) s)
  | _=>False
 | .kD d x off=>match ai s x with
  | .az r p i c=>K (put d (.az r p i (c + off)) s)
  | .ptr m cs=>K (put d (.ptr m (cs.drop off)) s)
  | _=>False
 | .ng d x off sz agg=>match ai s x with
  | .agg cs=>off + sz≤cs.length∧K (put d (bif agg then .agg ((cs.drop off).take sz) else (cs.drop off).headD .dead) s)
  | _=>False
 | .mg d sz x i=>match ai s i with
  | .int _ n=>0≤n∧(match ai s x with
   | .row m z xs=>z = sz∧∃ e,xs[n.toNat]? = some e∧K (put d (.ptr m e) s)
   | .ref r p=>(match look s r p with
    | some (.row _ z xs)=>z = sz∧n.toNat < xs.length∧K (put d (.az r p n.toNat 0) s)
    | _=>False)
   | .cut r p lo hi=>(match look s r p with
    | some (.row _ z _)=>z = sz∧lo + n.toNat < hi∧K (put d (.az r p (lo + n.toNat) 0) s)
    | _=>False)
   | _=>False)
  | _=>False
 | .de d x i=>match ai s x,ai s i with
  | .str t,.int _ n=>0≤n∧∃ b,t.data[n.toNat]? = some b∧K (put d (.int .u8 b.toNat) s)
  | _,_=>False
 | .mQ d n sz agg x i=>match ai s x,ai s i with
  | .agg cs,.int _ j=>0≤j∧j < n∧cs.length = n * sz∧K (put d (bif agg then .agg ((cs.drop (j.toNat * sz)).take sz) else (cs.drop (j.toNat * sz)).headD .dead) s)
  | _,_=>False
 | .ext d x i=>match ai s x with
  | .au cs=>i < cs.length∧K (put d (cs.getD i .dead) s)
  | _=>False
 | .j8 d x lo hi=>match ai s x with
  | .str t=>0≤asNat s lo 0∧asNat s lo 0≤asNat s hi t.size∧asNat s hi t.size≤t.size∧K (put d (.str (t.extract (asNat s lo 0).toNat (asNat s hi t.size).toNat)) s)
  | _=>False
 | .mI d sz x lo hi=>∃ xs,rowAt s (ai s x) = some (sz,xs)∧0≤asNat s lo 0∧asNat s lo 0≤asNat s hi xs.length∧asNat s hi xs.length≤xs.length∧(match ai s x with
  | .row m z _=>K (put d (.row m z ((xs.take (asNat s hi xs.length).toNat).drop (asNat s lo 0).toNat)) s)
  | .ref r p=>K (put d (.cut r p (asNat s lo 0).toNat (asNat s hi xs.length).toNat) s)
  | _=>False)
 | .nJ d fz sz agg a=>∃ cs,dN s (ai s a) = some cs∧sz≤cs.length∧∃ s',ghost fz d (put d (bif agg then .agg (cs.take sz) else cs.headD .dead) s) = some s'∧K s'
 | .oH sz z x=>match ai s x with
  | .cut r p lo hi=>(match look s r p with
   | some (.row .own z' xs)=>z' = sz∧K (dm r p (.row .own z' (vj lo hi z xs)) s)
   | _=>False)
  | _=>False
 | .gO d f x as=>match ai s x with
  | .agg cs=>X.bare.fG (bk cs s).1 = true∧AC P f (.agg (bk cs s).1 :: dM (bk cs s).2 .dead as (as.map fun _=>.dead)) fun r ps=>match ps with
   | .agg ys :: _=>eu ys = true∧∃ s',fe cs ys (bk cs s).2 = some s'∧K (dB d r s')
   | _=>False
  | _=>False
 | .kX d f cs=>K (put d (.fn f (cs.map (ai s))) s)
 | .len d x=>∃ z xs,rowAt s (ai s x) = some (z,xs)∧K (put d (.int .i64 xs.length) s)
 | .mJ d x=>match ai s x with
  | .str t=>K (put d (.int .i64 t.size) s)
  | _=>False
 | .app d h sz bytes x y=>match (take .mv (ai s x) s).1 with
  | .row .own z xs=>z = sz∧(match h with
   | .mv=>(match (gp (ai (take .mv (ai s x) s).2 y) (take .mv (ai s x) s).2).1 with
    | .row .own z' ys=>z' = sz∧(xs.length + ys.length) * bytes≤140737488355328∧K (put d (.row .own z (xs ++ ys)) (gp (ai (take .mv (ai s x) s).2 y) (take .mv (ai s x) s).2).2)
    | _=>False)
   | _=>∃ ys,rowAt (take .mv (ai s x) s).2 (ai (take .mv (ai s x) s).2 y) = some (sz,ys)∧(xs.length + ys.length) * bytes≤140737488355328∧scalars ys∧K (put d (.row .own z (xs ++ ys)) (take .mv (ai s x) s).2))
  | _=>False
 | .mn d xs=>match xs.map (ai s) with
  | [.int k a,.int k' b]=>k = k'∧K (put d (.int k (if b < a then b else a)) s)
  | _=>False
 | .mx d xs=>match xs.map (ai s) with
  | [.int k a,.int k' b]=>k = k'∧K (put d (.int k (if b > a then b else a)) s)
  | _=>False
 | .call d f as=>mV P f d as none s K
 | .jA d x as=>match ai s x with
  | .fn f _=>ax P f = true∧mV P f d as (some x) s K
  | _=>False
def bA.dst : bA→Option Nat
 | .mv d _ | .bY d _ _ | .pick d _ _ _ | .un d _ _ | .bin d _ _ _ | .beq d _ _ _ | .mP d _ _ _ _ | .mE d _ _ | .conv d _ _ | .bytes d _ | .text d _ | .box d _ _ | .new d _ | .build d _ _ _ | .lit d _ _ _
 | .make d _ _ _ _ | .load d _ _ _ | .jC d _ | .kD d _ _ | .ng d _ _ _ _ | .mg d _ _ _ | .de d _ _ | .mQ d _ _ _ _ _ | .ext d _ _ | .j8 d _ _ _
 | .mI d _ _ _ _ | .kX d _ _ | .len d _ | .mJ d _ | .app d _ _ _ _ _ | .mn d _ | .mx d _ | .nJ d _ _ _ _=>some d
 | .call d _ _=>d
 | .jA d _ _=>d
 | .gO d _ _ _=>d
 | .store _ _ _ _=>none
 | .oH _ _ _=>none
def kq [Bs] (P : Program) (g : G) (s : ag) (K : ag→Prop) : Prop:=match g with
 | ⟨none,o⟩=>aG P o s K
 | ⟨some (t,b),o⟩=>match get s t with
  | .bool v=>(v = b→aG P o ((t,.bool b) :: s) K)∧(v = !b→K (dB o.dst (.au []) ((t,.bool (!b)) :: s)))
  | .au []=>K (dB o.dst (.au []) s)
  | _=>False
def gv [Bs] (P : Program) : List G→ag→(Ex→ag→Prop)→Prop
 | [],s,Q=>Q .normal s
 | g :: l,s,Q=>kq P g s fun s'=>gv P l s' Q
def keep (ks : List Nat) (s : ag) : ag:=ks.map fun k=>(k,(get s k).only ks)
def ez [Bs] (P : Program) : DT→ag→(Ex→ag→Prop)→Prop
 | .nil ks,s,Q=>Q .normal (keep ks s)
 | .step _ g t,s,Q=>kq P g s fun s'=>ez P t s' Q
 | .alt a b,s,Q=>ez P a s Q∧ez P b s Q
 | .kp ks t,s,Q=>ez P t (keep ks s) Q
def cP [Bs] (P : Program) : A→ag→(Ex→ag→Prop)→Prop
 | .skip,s,Q=>Q .normal s
 | .ret,s,Q=>Q .ret s
 | .exit id,s,Q=>Q (.exit id) s
 | .ops l,s,Q=>gv P l s Q
 | .draw t,s,Q=>ez P t s Q
 | .seq a b,s,Q=>cP P a s fun e s'=>match e with
  | .normal=>cP P b s' Q
  | e=>Q e s'
 | .cond c a b,s,Q=>match ai s c with
  | .bool t=>(t = true→cP P a s Q)∧(t = false→cP P b s Q)
  | _=>False
 | .block id b,s,Q=>cP P b s fun e s'=>match e with
  | .exit i=>bif i == id then Q .normal s' else Q (.exit i) s'
  | e=>Q e s'
 | .loop b,s,Q=>∃ I : Nat→ag→Prop,(∃ n,I n s)∧∀ n s',I n s'→cP P b s' fun e s''=>match e with
  | .normal=>∃ m,m < n∧I m s''
  | e=>Q e s''
 | .pk ks b,s,Q=>cP P b s fun e s'=>match e with
  | .normal=>Q .normal (keep ks s')
  | e=>Q e s'
def qE [Bs] (P : Program) (t : DT) (Q : Ex→ag→Prop) : ag→Prop:=fun s=>ez P t s Q
def yu [Bs] (P : Program) (l : List G) (Q : Ex→ag→Prop) : ag→Prop:=fun s=>gv P l s Q
def uL [Bs] (P : Program) (b : A) (Q : Ex→ag→Prop) : Ex→ag→Prop:=fun e s'=>match e with
  | .normal=>cP P b s' Q
  | e=>Q e s'
def uH (id : Nat) (Q : Ex→ag→Prop) : Ex→ag→Prop:=fun e s'=>match e with
  | .exit i=>bif i == id then Q .normal s' else Q (.exit i) s'
  | e=>Q e s'
end M
namespace M
open Go
variable [Bs] {P : Program}
@[simp] theorem US (s : ag) (Q : Ex→ag→Prop) : cP P .skip s Q = Q .normal s:=rfl
@[simp] theorem UQ (s : ag) (Q : Ex→ag→Prop) : cP P .ret s Q = Q .ret s:=rfl
@[simp] theorem UO (i : Nat) (s : ag) (Q : Ex→ag→Prop) : cP P (.exit i) s Q = Q (.exit i) s:=rfl
@[simp] theorem UP (l : List G) (s : ag) (Q : Ex→ag→Prop) : cP P (.ops l) s Q = gv P l s Q:=rfl
@[simp] theorem UN (t : DT) (s : ag) (Q : Ex→ag→Prop) : cP P (.draw t) s Q = ez P t s Q:=rfl
@[simp] theorem VU (ks : List Nat) (s : ag) (Q : Ex→ag→Prop) : ez P (.nil ks) s Q = Q .normal (keep ks s):=rfl
@[simp] theorem VV (i : Nat) (o : bA) (t : DT) (s : ag) (Q : Ex→ag→Prop) : ez P (.step i ⟨none,o⟩ t) s Q = aG P o s (qE P t Q):=rfl
@[simp] theorem VS (i t : Nat) (b : Bool) (o : bA) (l : DT) (s : ag) (Q : Ex→ag→Prop) : ez P (.step i ⟨some (t,b),o⟩ l) s Q = (match get s t with
  | .bool v=>(v = b→aG P o ((t,.bool b) :: s) (qE P l Q))∧(v = !b→qE P l Q (dB o.dst (.au []) ((t,.bool (!b)) :: s)))
  | .au []=>qE P l Q (dB o.dst (.au []) s)
  | _=>False):=rfl
@[simp] theorem VR (a b : DT) (s : ag) (Q : Ex→ag→Prop) : ez P (.alt a b) s Q = (ez P a s Q∧ez P b s Q):=rfl
@[simp] theorem VT (ks : List Nat) (t : DT) (s : ag) (Q : Ex→ag→Prop) : ez P (.kp ks t) s Q = ez P t (keep ks s) Q:=rfl
@[simp] theorem VQ (t : DT) (Q : Ex→ag→Prop) (s : ag) : qE P t Q s = ez P t s Q:=rfl
@[simp] theorem UR (a b : A) (s : ag) (Q : Ex→ag→Prop) : cP P (.seq a b) s Q = cP P a s (uL P b Q):=rfl
@[simp] theorem UL (i : Nat) (b : A) (s : ag) (Q : Ex→ag→Prop) : cP P (.block i b) s Q = cP P b s (uH i Q):=rfl
@[simp] theorem UM (c : AV) (a b : A) (s : ag) (Q : Ex→ag→Prop) : cP P (.cond c a b) s Q = (match ai s c with | .bool t=>(t = true→cP P a s Q)∧(t = false→cP P b s Q) | _=>False):=rfl
@[simp] theorem XY (b : A) (Q : Ex→ag→Prop) (s : ag) : uL P b Q .normal s = cP P b s Q:=rfl
@[simp] theorem XX (b : A) (Q : Ex→ag→Prop) (s : ag) (i : Nat) : uL P b Q (.exit i) s = Q (.exit i) s:=rfl
@[simp] theorem XZ (b : A) (Q : Ex→ag→Prop) (s : ag) : uL P b Q .ret s = Q .ret s:=rfl
@[simp] theorem U6 (i : Nat) (Q : Ex→ag→Prop) (s : ag) : uH i Q .normal s = Q .normal s:=rfl
@[simp] theorem U7 (i : Nat) (Q : Ex→ag→Prop) (s : ag) : uH i Q .ret s = Q .ret s:=rfl
@[simp] theorem U5 (i j : Nat) (Q : Ex→ag→Prop) (s : ag) : uH i Q (.exit j) s = (bif j == i then Q .normal s else Q (.exit j) s):=rfl
@[simp] theorem XG (s : ag) (Q : Ex→ag→Prop) : gv P [] s Q = Q .normal s:=rfl
@[simp] theorem XE (o : bA) (l : List G) (s : ag) (Q : Ex→ag→Prop) : gv P (⟨none,o⟩ :: l) s Q = aG P o s (yu P l Q):=rfl
@[simp] theorem XF (t : Nat) (b : Bool) (o : bA) (l : List G) (s : ag) (Q : Ex→ag→Prop) : gv P (⟨some (t,b),o⟩ :: l) s Q = (match get s t with
  | .bool v=>(v = b→aG P o ((t,.bool b) :: s) (yu P l Q))∧(v = !b→gv P l (dB o.dst (.au []) ((t,.bool (!b)) :: s)) Q)
  | .au []=>gv P l (dB o.dst (.au []) s) Q
  | _=>False):=rfl
@[simp] theorem XD (l : List G) (Q : Ex→ag→Prop) (s : ag) : yu P l Q s = gv P l s Q:=rfl
attribute [simp] aG get put dB mo X.eY ai alias e9 ei qN mR look X.sub X.step X.putAt X.aM eZ Gi move take GA bk cellsOf dN rowAt res ig jY qi dS jU setCell setCells
 fZ oD yF qy CA tH bO eu takes gx oP x8 qp storable asNat bh dM cD eK kr X.cU X.kR mj dm p7 placeOf X.bare X.bare.fG jB lO mV X.md X.cJ X.bx X.kill X.ep X.pfx bA.dst scalar X.only X.kZ keep
end M
namespace M
open Go Go.RowKit
namespace C
variable {w w' : World} {Z Z' : Md→Nat→Nat→Prop} {S : Nat→Nat→Prop}
theorem dj : ∀ (c : C),c.ok w Z→∀ b k,c.fp b k→b < w.heap.size
 | .row m sz A len cap e,h,b,k,hf=>by
  obtain ⟨h1,h2,h3,h4,h5⟩:=h
  rcases hf with ⟨hm,⟨o,hA⟩ | ⟨i,j,hi,hj,hf⟩⟩
  ·rcases h4 hm with ⟨hn,_⟩ | ⟨g,o',arr,t,fz,ff,hh,_⟩
   ·rw [hn] at hA; cases hA
   ·rw [ff] at hA
    injection hA with hA
    injection hA with e1 e2
    subst e1
    exact (Array.getElem?_eq_some_iff.1 hh).1
  ·exact dj (e i j) (h3 i j hi hj).2.2.2 b k hf
 | .ptr m g o n c,h,b,k,hf=>by
  obtain ⟨h1,h2,h3,h4⟩:=h
  rcases hf with ⟨_,⟨rfl,_⟩ | ⟨j,hj,hf⟩⟩
  ·exact h2
  ·exact dj (c j) (h3 j hj).2.2 b k hf
 | .agg n c,h,b,k,hf=>by
  obtain ⟨j,hj,hf⟩:=hf
  exact dj (c j) (h.1 j hj).2 b k hf
 | .au n c,h,b,k,hf=>by
  obtain ⟨j,hj,hf⟩:=hf
  exact dj (c j) (h.1 j hj).2 b k hf
 | .fn _ _ _,_,_,_,hf=>hf.elim
 | .dead _,_,_,_,hf=>hf.elim
 | .int _ _,_,_,_,hf=>hf.elim
 | .bool _,_,_,_,hf=>hf.elim
 | .str _,_,_,_,hf=>hf.elim
 | .ref _ _ _,_,_,_,hf=>hf.elim
 | .az _ _ _ _ _,_,_,_,hf=>hf.elim
 | .cut _ _ _ _ _,_,_,_,hf=>hf.elim
theorem Em {c : C} {m : Md} (hc : c.cell) (hf : c.fits m) {b k : Nat} (h : c.fp b k) : m = .own:=by
 cases c with
 | row m' sz A len cap e =>
  obtain ⟨hm,_⟩:=h
  subst hm
  rcases hf with h | h | ⟨_,h⟩
  ·exact h
  ·exact h.symm
  ·cases h
 | ptr m' g o n c =>
  obtain ⟨hm,_⟩:=h
  subst hm
  rcases hf with h | h | ⟨_,h⟩
  ·exact h
  ·exact h.symm
  ·cases h
 | agg n c=>exact hc.elim
 | au n c=>exact hc.elim
 | _=>exact h.elim
theorem gj {m : Md} {sz : Nat} {A : Option Ad} {len cap : Nat} {e : Nat→Nat→C} {i j : Nat} (h0 : (e i j).cell) (h1 : (e i j).fits m) (hi : i < len) (hj : j < sz) {b k : Nat} (hf : (e i j).fp b k) : (C.row m sz A len cap e).fp b k :=
 ⟨Em h0 h1 hf,.inr ⟨i,j,hi,hj,hf⟩⟩
theorem gF {m : Md} {g o n : Nat} {c : Nat→C} {j : Nat} (h0 : (c j).cell) (h1 : (c j).fits m) (hj : j < n) {b k : Nat} (hf : (c j).fp b k) : (C.ptr m g o n c).fp b k :=
 ⟨Em h0 h1 hf,.inr ⟨j,hj,hf⟩⟩
theorem dc (hE : Ext S w w') (hZ : ∀ m b k,Z m b k→¬ S b k) : ∀ (c : C),(∀ b k,c.fp b k→¬ S b k)→c.ok w Z→c.ok w' Z
 | .row m sz A len cap e,hS,h=>by
  obtain ⟨h1,h2,h3,h4,h5⟩:=h
  refine ⟨h1,fun i j hi hj=>?_,fun i j hi hj=>?_,fun hm=>?_,h5⟩
  ·obtain ⟨g,o,hA,hc,hz⟩:=h2 i j hi hj
   refine ⟨g,o,hA,hE.cell ?_ hc,hz⟩
   by_cases hm : m = .own
   ·exact hS _ _ ⟨hm,.inl ⟨o,hA⟩⟩
   ·exact hZ _ _ _ (hz hm)
  ·obtain ⟨a1,a2,a3,a4⟩:=h3 i j hi hj
   exact ⟨a1,a2,a3,dc hE hZ (e i j) (fun b k hf=>hS b k (gj a1 a3 hi hj hf)) a4⟩
  ·rcases h4 hm with h | ⟨g,o,arr,t,fz,hA,hh,hsz,hfr⟩
   ·exact .inl h
   ·have hg : g < w.heap.size:=(Array.getElem?_eq_some_iff.1 hh).1
    rcases hE.block g hg with e' | ⟨a1,a2,t',iE,e1,e2,e3,e4⟩
    ·exact .inr ⟨g,o,arr,t,fz,hA,e'.trans hh,hsz,fun k hk hk'=>(hE.frozen hg).trans (hfr k hk hk')⟩
    ·rw [hh] at e1
     injection e1 with e1
     injection e1 with q1 q2 q3
     subst q1
     exact .inr ⟨g,o,a2,t',iE,hA,e2,by omega,fun k hk hk'=>(hE.frozen hg).trans (hfr k hk hk')⟩
 | .ptr m g o n c,hS,h=>by
  obtain ⟨h1,h2,h3,h4⟩:=h
  refine ⟨fun j hj=>?_,Nat.lt_of_lt_of_le h2 hE.size,fun j hj=>?_,h4⟩
  ·obtain ⟨a1,a2,a3⟩:=h1 j hj
   refine ⟨hE.cell ?_ a1,a2,fun hm=>(hE.frozen h2).trans (a3 hm)⟩
   by_cases hm : m = .own
   ·exact hS _ _ ⟨hm,.inl ⟨rfl,by omega,by omega⟩⟩
   ·exact hZ _ _ _ (a2 hm)
  ·obtain ⟨a1,a3,a4⟩:=h3 j hj
   exact ⟨a1,a3,dc hE hZ (c j) (fun b k hf=>hS b k (gF a1 a3 hj hf)) a4⟩
 | .agg n c,hS,h=>⟨fun j hj=>⟨(h.1 j hj).1,dc hE hZ (c j) (fun b k hf=>hS b k ⟨j,hj,hf⟩) (h.1 j hj).2⟩,h.2⟩
 | .au n c,hS,h=>⟨fun j hj=>⟨(h.1 j hj).1,dc hE hZ (c j) (fun b k hf=>hS b k ⟨j,hj,hf⟩) (h.1 j hj).2⟩,h.2⟩
 | .fn f n c,hS,h=>fun j hj=>⟨dc hE hZ (c j) (fun b k hf=>((h j hj).2 b k hf).elim) (h j hj).1,(h j hj).2⟩
 | .dead _,_,h=>h
 | .int _ _,_,h=>h
 | .bool _,_,h=>h
 | .str _,_,h=>h
 | .ref _ _ _,_,h=>h
 | .az _ _ _ _ _,_,h=>h
 | .cut _ _ _ _ _,_,h=>h
theorem dR (hZ : ∀ m b k,Z m b k→Z' m b k) : ∀ (c : C),c.ok w Z→c.ok w Z'
 | .row m sz A len cap e,h=>by
  obtain ⟨h1,h2,h3,h4,h5⟩:=h
  refine ⟨h1,fun i j hi hj=>?_,fun i j hi hj=>?_,h4,h5⟩
  ·obtain ⟨g,o,hA,hc,hz⟩:=h2 i j hi hj
   exact ⟨g,o,hA,hc,fun hm=>hZ _ _ _ (hz hm)⟩
  ·obtain ⟨a1,a2,a3,a4⟩:=h3 i j hi hj
   exact ⟨a1,a2,a3,dR hZ (e i j) a4⟩
 | .ptr m g o n c,h=>by
  obtain ⟨h1,h2,h3,h4⟩:=h
  refine ⟨fun j hj=>?_,h2,fun j hj=>?_,h4⟩
  ·obtain ⟨a1,a2,a3⟩:=h1 j hj
   exact ⟨a1,fun hm=>hZ _ _ _ (a2 hm),a3⟩
  ·obtain ⟨a1,a3,a4⟩:=h3 j hj
   exact ⟨a1,a3,dR hZ (c j) a4⟩
 | .agg n c,h=>⟨fun j hj=>⟨(h.1 j hj).1,dR hZ (c j) (h.1 j hj).2⟩,h.2⟩
 | .au n c,h=>⟨fun j hj=>⟨(h.1 j hj).1,dR hZ (c j) (h.1 j hj).2⟩,h.2⟩
 | .fn f n c,h=>fun j hj=>⟨dR hZ (c j) (h j hj).1,(h j hj).2⟩
 | .dead _,h=>h
 | .int _ _,h=>h
 | .bool _,h=>h
 | .str _,h=>h
 | .ref _ _ _,h=>h
 | .az _ _ _ _ _,h=>h
 | .cut _ _ _ _ _,h=>h
def step : C→Nat×Nat→Option C
 | .row _ sz _ len _ e,q=>if q.1 < len∧q.2 < sz then some (e q.1 q.2) else none
 | .ptr _ _ _ n c,q=>if q.1 = 0∧q.2 < n then some (c q.2) else none
 | .agg n c,q=>if q.1 = 0∧q.2 < n then some (c q.2) else none
 | .au n c,q=>if q.1 = 0∧q.2 < n then some (c q.2) else none
 | _,_=>none
def sub (c : C) : Path→Option C
 | []=>some c
 | q :: p=>(c.step q).bind (·.sub p)
def bq (f : Nat→C) (j : Nat) (y : C) : Nat→C:=fun i=>if i = j then y else f i
def aM : C→Nat×Nat→C→C
 | .row m sz A len cap e,q,y=>.row m sz A len cap (fun i j=>if i = q.1∧j = q.2 then y else e i j)
 | .ptr m g o n c,q,y=>.ptr m g o n (bq c q.2 y)
 | .agg n c,q,y=>.agg n (bq c q.2 y)
 | .au n c,q,y=>.au n (bq c q.2 y)
 | c,_,_=>c
def putAt : Path→C→C→C
 | [],_,y=>y
 | q :: p,c,y=>match c.step q with
  | some z=>c.aM q (putAt p z y)
  | none=>c
theorem cg {α : Type} (f : Nat→α) (n i : Nat) : ((List.range n).map f)[i]? = if i < n then some (f i) else none:=by
 rw [List.getElem?_map]
 by_cases h : i < n
 ·rw [List.getElem?_range h,if_pos h]; rfl
 ·rw [List.getElem?_eq_none (by simpa using h),if_neg h]; rfl
theorem Gt (c : C) (q : Nat×Nat) : c.er.step q = (c.step q).map er:=by
 cases c with
 | row m sz A len cap e =>
  simp only [er,X.step,step,cg]
  by_cases h1 : q.1 < len
  ·by_cases h2 : q.2 < sz
   ·simp [h1,h2,cg]
   ·simp [h1,h2,cg]
  ·simp [h1]
 | ptr m g o n c=>simp only [er,X.step,step,cg]; cases h0 : q.1 == 0 <;> by_cases h1 : q.2 < n <;> simp_all
 | agg n c=>simp only [er,X.step,step,cg]; cases h0 : q.1 == 0 <;> by_cases h1 : q.2 < n <;> simp_all
 | au n c=>simp only [er,X.step,step,cg]; cases h0 : q.1 == 0 <;> by_cases h1 : q.2 < n <;> simp_all
 | _=>rfl
theorem dV : ∀ (p : Path) (c : C),c.er.sub p = (c.sub p).map er
 | [],c=>rfl
 | q :: p,c=>by
  simp only [X.sub,sub,Gt]
  cases h : c.step q with
  | none=>rfl
  | some d=>simpa using dV p d
theorem tn {α : Type} (f g : Nat→α) (n j : Nat) (y : α) (h : ∀ i,i < n→g i = if i = j then y else f i) : ((List.range n).map f).set j y = (List.range n).map g:=by
 apply List.ext_getElem?
 intro i
 rw [List.getElem?_set,cg,cg]
 simp only [List.length_map,List.length_range]
 by_cases hi : i < n
 ·by_cases hj : j = i
  ·subst hj; simp [hi,h j hi]
  ·have : i≠j:=fun e=>hj e.symm
   simp [hi,hj,h i hi,this]
 ·by_cases hj : j = i
  ·subst hj; simp [hi]
  ·simp [hi,hj]
theorem Q8 (c : C) (q : Nat×Nat) (y : C) : (c.aM q y).er = c.er.aM q y.er:=by
 cases c with
 | row m sz A len cap e =>
  simp only [aM,er,X.aM]
  congr 1
  apply List.ext_getElem?
  intro i
  rw [List.getElem?_modify,cg,cg]
  by_cases hi : i < len
  ·rw [if_pos hi,if_pos hi]
   show some _ = some _
   congr 1
   by_cases hq : q.1 = i
   ·subst hq
    simp only [if_true]
    symm
    apply tn
    intro j hj
    by_cases hj' : j = q.2 <;> simp [hj']
   ·have jO : i≠q.1:=fun e=>hq e.symm
    simp [hq,jO]
  ·simp [hi]
 | ptr m g o n c =>
  simp only [aM,er,X.aM]
  congr 1
  symm
  apply tn
  intro i hi
  unfold bq
  split <;> rfl
 | agg n c =>
  simp only [aM,er,X.aM]
  congr 1
  symm
  apply tn
  intro i hi
  unfold bq
  split <;> rfl
 | au n c =>
  simp only [aM,er,X.aM]
  congr 1
  symm
  apply tn
  intro i hi
  unfold bq
  split <;> rfl
 | _=>rfl
theorem BW : ∀ (p : Path) (c y : C),(putAt p c y).er = X.putAt p c.er y.er
 | [],c,y=>rfl
 | q :: p,c,y=>by
  simp only [putAt,X.putAt,Gt]
  cases h : c.step q with
  | none=>rfl
  | some d=>simp only [Option.map_some,Q8,BW p d y]
end C
end M
namespace M
open Go Go.RowKit
namespace C
variable {w w' : World} {Z Z' : Md→Nat→Nat→Prop} {S : Nat→Nat→Prop}
theorem Cr {c z : C} {q : Nat×Nat} (h : c.step q = some z) (ho : c.ok w Z) {b k : Nat} (hf : z.fp b k) : c.fp b k:=by
 cases c with
 | row m sz A len cap e =>
  simp only [step] at h
  split at h
  ·rename_i hq
   injection h with h
   subst h
   obtain ⟨a1,a2,a3,a4⟩:=ho.2.2.1 _ _ hq.1 hq.2
   exact gj a1 a3 hq.1 hq.2 hf
  ·cases h
 | ptr m g o n c =>
  simp only [step] at h
  split at h
  ·rename_i hq
   injection h with h
   subst h
   obtain ⟨a1,a3,a4⟩:=ho.2.2.1 _ hq.2
   exact gF a1 a3 hq.2 hf
  ·cases h
 | agg n c =>
  simp only [step] at h
  split at h
  ·rename_i hq
   injection h with h
   subst h
   exact ⟨q.2,hq.2,hf⟩
  ·cases h
 | au n c =>
  simp only [step] at h
  split at h
  ·rename_i hq
   injection h with h
   subst h
   exact ⟨q.2,hq.2,hf⟩
  ·cases h
 | _=>simp [step] at h
theorem oc {c z : C} {q : Nat×Nat} (h : c.step q = some z) (ho : c.ok w Z) : z.ok w Z:=by
 cases c with
 | row m sz A len cap e =>
  simp only [step] at h
  split at h
  ·rename_i hq
   injection h with h
   subst h
   exact (ho.2.2.1 _ _ hq.1 hq.2).2.2.2
  ·cases h
 | ptr m g o n c =>
  simp only [step] at h
  split at h
  ·rename_i hq
   injection h with h
   subst h
   exact (ho.2.2.1 _ hq.2).2.2
  ·cases h
 | agg n c =>
  simp only [step] at h
  split at h
  ·rename_i hq
   injection h with h
   subst h
   exact (ho.1 _ hq.2).2
  ·cases h
 | au n c =>
  simp only [step] at h
  split at h
  ·rename_i hq
   injection h with h
   subst h
   exact (ho.1 _ hq.2).2
  ·cases h
 | _=>simp [step] at h
theorem ew : ∀ (p : Path) {c d : C},c.sub p = some d→c.ok w Z→d.ok w Z
 | [],c,d,h,ho=>by simp only [sub] at h; injection h with h; subst h; exact ho
 | q :: p,c,d,h,ho=>by
  simp only [sub] at h
  cases hs : c.step q with
  | none=>rw [hs] at h; cases h
  | some z=>rw [hs] at h; exact ew p h (oc hs ho)
theorem dW : ∀ (p : Path) {c d : C},c.sub p = some d→c.ok w Z→∀ {b k : Nat},d.fp b k→c.fp b k
 | [],c,d,h,_,b,k,hf=>by simp only [sub] at h; injection h with h; subst h; exact hf
 | q :: p,c,d,h,ho,b,k,hf=>by
  simp only [sub] at h
  cases hs : c.step q with
  | none=>rw [hs] at h; cases h
  | some z=>rw [hs] at h; exact Cr hs ho (dW p h (oc hs ho) hf)
structure ey (c c' : C) : Prop where
 val : c'.val = c.val
 cell : c.cell→c'.cell
 dJ : c.dJ→c'.dJ
 bO : c.bO→c'.bO
 fits : ∀ m,c.fits m→c'.fits m
theorem ey.aM (c : C) (q : Nat×Nat) (z z' : C) (hs : c.step q = some z) (hv : z'.val = z.val) : ey c (c.aM q z'):=by
 have list : ∀ (n : Nat) (f : Nat→C),f q.2 = z→((List.range n).map fun j=>(bq f q.2 z' j).val) = ((List.range n).map fun j=>(f j).val):=by
  intro n f hf
  apply List.map_congr_left
  intro j _
  unfold bq
  split
  ·rename_i e; subst e; rw [hv,hf]
  ·rfl
 cases c with
 | row m sz A len cap e=>exact ⟨rfl,fun h=>h,fun h=>h,fun h=>h,fun m h=>h⟩
 | ptr m g o n c=>exact ⟨rfl,fun h=>h,fun h=>h,fun h=>h,fun m h=>h⟩
 | agg n c =>
  simp only [step] at hs
  split at hs
  ·injection hs with hs
   exact ⟨by simp only [C.aM,C.val]; rw [list n c hs],fun h=>h,fun h=>h,fun h=>h,fun m h=>h⟩
  ·cases hs
 | au n c =>
  simp only [step] at hs
  split at hs
  ·injection hs with hs
   exact ⟨by simp only [C.aM,C.val]; rw [list n c hs],fun h=>h,fun h=>h,fun h=>h,fun m h=>h⟩
  ·cases hs
 | _=>simp [step] at hs
theorem tC (hM : ∀ m b k,Z m b k→Z' m b k) (hE : Ext S w w') (hZ : ∀ m b k,Z m b k→¬ S b k) : ∀ (p : Path) (c d d' : C),c.ok w Z→c.sub p = some d→d'.ok w' Z'→ey d d' →
  (∀ b k,S b k→d.fp b k∨¬ c.fp b k)→(∀ b k,d'.fp b k→d.fp b k∨¬ c.fp b k) →
  (putAt p c d').ok w' Z'∧(∀ b k,(putAt p c d').fp b k→d'.fp b k∨(c.fp b k∧¬ d.fp b k))∧ey c (putAt p c d')
 | [],c,d,d',hc,hs,hd,hl,hS,hF=>by
  simp only [sub] at hs
  injection hs with hs
  subst hs
  exact ⟨hd,fun b k h=>.inl h,hl⟩
 | q :: p,c,d,d',hc,hs,hd,hl,hS,hF=>by
  simp only [sub] at hs
  cases hst : c.step q with
  | none=>rw [hst] at hs; cases hs
  | some z =>
   rw [hst] at hs
   have hs' : z.sub p = some d:=hs
   obtain ⟨i1,i2,i3⟩:=tC hM hE hZ p z d d' (oc hst hc) hs' hd hl (fun b k h=>(hS b k h).imp id (fun hn hz=>hn (Cr hst hc hz))) (fun b k h=>(hF b k h).imp id (fun hn hz=>hn (Cr hst hc hz)))
   simp only [putAt,hst]
   generalize dH : putAt p z d' = z' at i1 i2 i3
   have l7:=ey.aM c q z z' hst i3.val
   have gS : ∀ {b k},d.fp b k→z.fp b k:=fun h=>dW p hs' (oc hst hc) h
   have vA : ∀ (y : C),(∀ b k,y.fp b k→c.fp b k)→(∀ b k,y.fp b k→¬ z.fp b k)→∀ b k,y.fp b k→¬ S b k:=fun y hy hyz b k Fg rF=>by
    rcases hS b k rF with h | h
    ·exact hyz b k Fg (gS h)
    ·exact h (hy b k Fg)
   cases c with
   | row m sz A len cap e =>
    simp only [step] at hst
    split at hst
    ·rename_i hq
     injection hst with hst
     obtain ⟨h1,h2,h3,h4,h5⟩:=hc
     have dz : ∀ b k,z.fp b k→(m = .own→∀ o,A≠some (b,o,none))∧∀ i' j',i' < len→j' < sz→(q.1,q.2)≠(i',j')→¬ (e i' j').fp b k:=fun b k h=>h5 q.1 q.2 hq.1 hq.2 b k (by rw [hst]; exact h)
     have hval : ∀ i j,(if i = q.1∧j = q.2 then z' else e i j).val = (e i j).val:=by
      intro i j
      split
      ·rename_i h; obtain ⟨rfl,rfl⟩:=h; rw [hst]; exact i3.val
      ·rfl
     have gW : ∀ b k,z'.fp b k→(m = .own→∀ o,A≠some (b,o,none))∧∀ i' j',i' < len→j' < sz→(q.1,q.2)≠(i',j')→¬ (e i' j').fp b k:=by
      intro b k h
      rcases i2 b k h with h | ⟨h,_⟩
      ·rcases hF b k h with h | h
       ·exact dz b k (gS h)
       ·exact ⟨fun hm o hA=>h ⟨hm,.inl ⟨o,hA⟩⟩,fun i' j' hi hj _ hf=>h (gj (h3 i' j' hi hj).1 (h3 i' j' hi hj).2.2.1 hi hj hf)⟩
      ·exact dz b k h
     refine ⟨⟨h1,fun i j hi hj=>?_,fun i j hi hj=>?_,fun hm=>?_,fun i j hi hj b k hf=>?_⟩,fun b k hf=>?_,l7⟩
     ·obtain ⟨g,o,hA,hcell,hz⟩:=h2 i j hi hj
      refine ⟨g,o,hA,?_,fun hm=>hM _ _ _ (hz hm)⟩
      rw [hval]
      refine hE.cell ?_ hcell
      by_cases hm : m = .own
      ·intro rF
       rcases hS _ _ rF with h | h
       ·exact (dz _ _ (gS h)).1 hm o hA
       ·exact h ⟨hm,.inl ⟨o,hA⟩⟩
      ·exact hZ _ _ _ (hz hm)
     ·obtain ⟨a1,a2,a3,a4⟩:=h3 i j hi hj
      by_cases hij : i = q.1∧j = q.2
      ·obtain ⟨rfl,rfl⟩:=hij
       simp only [and_self,if_true]
       rw [hst] at a1 a2 a3
       exact ⟨i3.cell a1,i3.bO a2,i3.fits _ a3,i1⟩
      ·simp only [if_neg hij]
       refine ⟨a1,a2,a3,dR hM _ (dc hE hZ _ (vA _ (fun b k hf=>gj a1 a3 hi hj hf) fun b k hf fP=>?_) a4)⟩
       exact (dz b k fP).2 i j hi hj (fun e=>hij (by simpa using (Prod.mk.injEq _ _ _ _ ▸ e.symm : i = q.1∧j = q.2))) hf
     ·rcases h4 hm with h | ⟨g,o,arr,t,fz,hA,hh,hsz,hfr⟩
      ·exact .inl h
      ·have hg : g < w.heap.size:=(Array.getElem?_eq_some_iff.1 hh).1
       rcases hE.block g hg with e' | ⟨a1,a2,t',iE,e1,e2,e3,e4⟩
       ·exact .inr ⟨g,o,arr,t,fz,hA,e'.trans hh,hsz,fun k hk hk'=>(hE.frozen hg).trans (hfr k hk hk')⟩
       ·rw [hh] at e1
        injection e1 with e1
        injection e1 with q1 q2 q3
        subst q1
        exact .inr ⟨g,o,a2,t',iE,hA,e2,by omega,fun k hk hk'=>(hE.frozen hg).trans (hfr k hk hk')⟩
     ·by_cases hij : i = q.1∧j = q.2
      ·obtain ⟨rfl,rfl⟩:=hij
       simp only [and_self,if_true] at hf
       refine ⟨(gW b k hf).1,fun i' j' hi' hj' hne=>?_⟩
       show ¬ (if i' = q.1∧j' = q.2 then z' else e i' j').fp b k
       rw [if_neg (fun h=>hne (by rw [h.1,h.2]))]
       exact (gW b k hf).2 i' j' hi' hj' hne
      ·simp only [if_neg hij] at hf
       refine ⟨(h5 i j hi hj b k hf).1,fun i' j' hi' hj' hne=>?_⟩
       show ¬ (if i' = q.1∧j' = q.2 then z' else e i' j').fp b k
       by_cases je : i' = q.1∧j' = q.2
       ·obtain ⟨rfl,rfl⟩:=je
        simp only [and_self,if_true]
        intro hf'
        exact (gW b k hf').2 i j hi hj (fun e=>hij (by simpa using (Prod.mk.injEq _ _ _ _ ▸ e.symm : i = q.1∧j = q.2))) hf
       ·rw [if_neg je]
        exact (h5 i j hi hj b k hf).2 i' j' hi' hj' hne
     ·rcases hf with ⟨hm,h | ⟨i,j,hi,hj,hf⟩⟩
      ·refine .inr ⟨⟨hm,.inl h⟩,fun hd=>?_⟩
       obtain ⟨o,hA⟩:=h
       exact (dz b k (gS hd)).1 hm o hA
      ·by_cases hij : i = q.1∧j = q.2
       ·obtain ⟨rfl,rfl⟩:=hij
        simp only [and_self,if_true] at hf
        rcases i2 b k hf with h | ⟨h,hn⟩
        ·exact .inl h
        ·exact .inr ⟨⟨hm,.inr ⟨_,_,hi,hj,by rw [hst]; exact h⟩⟩,hn⟩
       ·simp only [if_neg hij] at hf
        exact .inr ⟨⟨hm,.inr ⟨i,j,hi,hj,hf⟩⟩,fun hd=>(dz b k (gS hd)).2 i j hi hj (fun e=>hij (by simpa using (Prod.mk.injEq _ _ _ _ ▸ e.symm : i = q.1∧j = q.2))) hf⟩
    ·cases hst
   | ptr m g o n c =>
    simp only [step] at hst
    split at hst
    ·rename_i hq
     injection hst with hst
     obtain ⟨h1,h2,h3,h4⟩:=hc
     have dz : ∀ b k,z.fp b k→(m = .own→¬ (b = g∧o≤k∧k < o + n))∧∀ j',j' < n→q.2≠j'→¬ (c j').fp b k:=fun b k h=>h4 q.2 hq.2 b k (by rw [hst]; exact h)
     have hval : ∀ j,(bq c q.2 z' j).val = (c j).val:=by
      intro j
      unfold bq
      split
      ·rename_i h; subst h; rw [hst]; exact i3.val
      ·rfl
     have gW : ∀ b k,z'.fp b k→(m = .own→¬ (b = g∧o≤k∧k < o + n))∧∀ j',j' < n→q.2≠j'→¬ (c j').fp b k:=by
      intro b k h
      rcases i2 b k h with h | ⟨h,_⟩
      ·rcases hF b k h with h | h
       ·exact dz b k (gS h)
       ·exact ⟨fun hm hA=>h ⟨hm,.inl hA⟩,fun j' hj _ hf=>h (gF (h3 j' hj).1 (h3 j' hj).2.1 hj hf)⟩
      ·exact dz b k h
     refine ⟨⟨fun j hj=>?_,Nat.lt_of_lt_of_le h2 hE.size,fun j hj=>?_,fun j hj b k hf=>?_⟩,fun b k hf=>?_,l7⟩
     ·obtain ⟨a1,a2,a3⟩:=h1 j hj
      refine ⟨?_,fun hm=>hM _ _ _ (a2 hm),fun hm=>(hE.frozen h2).trans (a3 hm)⟩
      rw [hval]
      refine hE.cell ?_ a1
      by_cases hm : m = .own
      ·intro rF
       rcases hS _ _ rF with h | h
       ·exact (dz _ _ (gS h)).1 hm ⟨rfl,by omega,by omega⟩
       ·exact h ⟨hm,.inl ⟨rfl,by omega,by omega⟩⟩
      ·exact hZ _ _ _ (a2 hm)
     ·obtain ⟨a1,a3,a4⟩:=h3 j hj
      unfold bq
      by_cases hij : j = q.2
      ·subst hij
       simp only [if_true]
       rw [hst] at a1 a3
       exact ⟨i3.cell a1,i3.fits _ a3,i1⟩
      ·simp only [if_neg hij]
       refine ⟨a1,a3,dR hM _ (dc hE hZ _ (vA _ (fun b k hf=>gF a1 a3 hj hf) fun b k hf fP=>?_) a4)⟩
       exact (dz b k fP).2 j hj (fun e=>hij e.symm) hf
     ·unfold bq at hf ⊢
      by_cases hij : j = q.2
      ·subst hij
       simp only [if_true] at hf
       refine ⟨(gW b k hf).1,fun j' hj' hne=>?_⟩
       rw [if_neg (fun h=>hne h.symm)]
       exact (gW b k hf).2 j' hj' hne
      ·simp only [if_neg hij] at hf
       refine ⟨(h4 j hj b k hf).1,fun j' hj' hne=>?_⟩
       by_cases je : j' = q.2
       ·subst je
        simp only [if_true]
        intro hf'
        exact (gW b k hf').2 j hj (fun e=>hij e.symm) hf
       ·rw [if_neg je]
        exact (h4 j hj b k hf).2 j' hj' hne
     ·rcases hf with ⟨hm,h | ⟨j,hj,hf⟩⟩
      ·refine .inr ⟨⟨hm,.inl h⟩,fun hd=>?_⟩
       exact (dz b k (gS hd)).1 hm h
      ·unfold bq at hf
       by_cases hij : j = q.2
       ·subst hij
        simp only [if_true] at hf
        rcases i2 b k hf with h | ⟨h,hn⟩
        ·exact .inl h
        ·exact .inr ⟨⟨hm,.inr ⟨_,hj,by rw [hst]; exact h⟩⟩,hn⟩
       ·simp only [if_neg hij] at hf
        exact .inr ⟨⟨hm,.inr ⟨j,hj,hf⟩⟩,fun hd=>(dz b k (gS hd)).2 j hj (fun e=>hij e.symm) hf⟩
    ·cases hst
   | agg n c =>
    simp only [step] at hst
    split at hst
    ·rename_i hq
     injection hst with hst
     obtain ⟨h3,h4⟩:=hc
     have dz : ∀ b k,z.fp b k→∀ j',j' < n→q.2≠j'→¬ (c j').fp b k:=fun b k h=>h4 q.2 hq.2 b k (by rw [hst]; exact h)
     have gW : ∀ b k,z'.fp b k→∀ j',j' < n→q.2≠j'→¬ (c j').fp b k:=by
      intro b k h
      rcases i2 b k h with h | ⟨h,_⟩
      ·rcases hF b k h with h | h
       ·exact dz b k (gS h)
       ·exact fun j' hj _ hf=>h ⟨j',hj,hf⟩
      ·exact dz b k h
     refine ⟨⟨fun j hj=>?_,fun j hj b k hf=>?_⟩,fun b k hf=>?_,l7⟩
     ·obtain ⟨a1,a4⟩:=h3 j hj
      unfold bq
      by_cases hij : j = q.2
      ·subst hij
       simp only [if_true]
       rw [hst] at a1
       exact ⟨i3.cell a1,i1⟩
      ·simp only [if_neg hij]
       refine ⟨a1,dR hM _ (dc hE hZ _ (vA _ (fun b k hf=>⟨j,hj,hf⟩) fun b k hf fP=>?_) a4)⟩
       exact dz b k fP j hj (fun e=>hij e.symm) hf
     ·unfold bq at hf ⊢
      by_cases hij : j = q.2
      ·subst hij
       simp only [if_true] at hf
       intro j' hj' hne
       rw [if_neg (fun h=>hne h.symm)]
       exact gW b k hf j' hj' hne
      ·simp only [if_neg hij] at hf
       intro j' hj' hne
       by_cases je : j' = q.2
       ·subst je
        simp only [if_true]
        intro hf'
        exact gW b k hf' j hj (fun e=>hij e.symm) hf
       ·rw [if_neg je]
        exact h4 j hj b k hf j' hj' hne
     ·obtain ⟨j,hj,hf⟩:=hf
      unfold bq at hf
      by_cases hij : j = q.2
      ·subst hij
       simp only [if_true] at hf
       rcases i2 b k hf with h | ⟨h,hn⟩
       ·exact .inl h
       ·exact .inr ⟨⟨_,hj,by rw [hst]; exact h⟩,hn⟩
      ·simp only [if_neg hij] at hf
       exact .inr ⟨⟨j,hj,hf⟩,fun hd=>dz b k (gS hd) j hj (fun e=>hij e.symm) hf⟩
    ·cases hst
   | au n c =>
    simp only [step] at hst
    split at hst
    ·rename_i hq
     injection hst with hst
     obtain ⟨h3,h4⟩:=hc
     have dz : ∀ b k,z.fp b k→∀ j',j' < n→q.2≠j'→¬ (c j').fp b k:=fun b k h=>h4 q.2 hq.2 b k (by rw [hst]; exact h)
     have gW : ∀ b k,z'.fp b k→∀ j',j' < n→q.2≠j'→¬ (c j').fp b k:=by
      intro b k h
      rcases i2 b k h with h | ⟨h,_⟩
      ·rcases hF b k h with h | h
       ·exact dz b k (gS h)
       ·exact fun j' hj _ hf=>h ⟨j',hj,hf⟩
      ·exact dz b k h
     refine ⟨⟨fun j hj=>?_,fun j hj b k hf=>?_⟩,fun b k hf=>?_,l7⟩
     ·obtain ⟨a1,a4⟩:=h3 j hj
      unfold bq
      by_cases hij : j = q.2
      ·subst hij
       simp only [if_true]
       rw [hst] at a1
       exact ⟨i3.dJ a1,i1⟩
      ·simp only [if_neg hij]
       refine ⟨a1,dR hM _ (dc hE hZ _ (vA _ (fun b k hf=>⟨j,hj,hf⟩) fun b k hf fP=>?_) a4)⟩
       exact dz b k fP j hj (fun e=>hij e.symm) hf
     ·unfold bq at hf ⊢
      by_cases hij : j = q.2
      ·subst hij
       simp only [if_true] at hf
       intro j' hj' hne
       rw [if_neg (fun h=>hne h.symm)]
       exact gW b k hf j' hj' hne
      ·simp only [if_neg hij] at hf
       intro j' hj' hne
       by_cases je : j' = q.2
       ·subst je
        simp only [if_true]
        intro hf'
        exact gW b k hf' j hj (fun e=>hij e.symm) hf
       ·rw [if_neg je]
        exact h4 j hj b k hf j' hj' hne
     ·obtain ⟨j,hj,hf⟩:=hf
      unfold bq at hf
      by_cases hij : j = q.2
      ·subst hij
       simp only [if_true] at hf
       rcases i2 b k hf with h | ⟨h,hn⟩
       ·exact .inl h
       ·exact .inr ⟨⟨_,hj,by rw [hst]; exact h⟩,hn⟩
      ·simp only [if_neg hij] at hf
       exact .inr ⟨⟨j,hj,hf⟩,fun hd=>dz b k (gS hd) j hj (fun e=>hij e.symm) hf⟩
    ·cases hst
   | _=>simp [step] at hst
end C
end M
namespace M
open Go Go.RowKit
namespace X
theorem pF (r : Nat) (p : Path) {α : Type} (f : α→X) : ∀ l : List α,ep r p (l.map f) = l.map fun a=>(f a).kill r p
 | []=>rfl
 | a :: l=>by simp only [List.map_cons,ep,pF r p f l]
theorem tD (ks : List Nat) {α : Type} (f : α→X) : ∀ l : List α,kZ ks (l.map f) = l.map fun a=>(f a).only ks
 | []=>rfl
 | a :: l=>by simp only [List.map_cons,kZ,tD ks f l]
end X
namespace C
variable {w w' : World} {Z Z' : Md→Nat→Nat→Prop} {S : Nat→Nat→Prop}
def aj (t : Nat→Path→Bool) : C→C
 | .ref v s q=>bif t s q then .dead v else .ref v s q
 | .az v s q i c=>bif t s q then .dead v else .az v s q i c
 | .cut v s q lo hi=>bif t s q then .dead v else .cut v s q lo hi
 | .ptr m g o n c=>.ptr m g o n fun j=>(c j).aj t
 | .agg n c=>.agg n fun j=>(c j).aj t
 | .au n c=>.au n fun j=>(c j).aj t
 | .fn f n c=>.fn f n fun j=>(c j).aj t
 | c=>c
def aX (r : Nat) (p : Path) : Nat→Path→Bool:=fun s q=>s == r && X.pfx p q
def others (ks : List Nat) : Nat→Path→Bool:=fun s _=>!ks.contains s
theorem jS (r : Nat) (p : Path) : ∀ c : C,(c.aj (aX r p)).er = c.er.kill r p
 | .ref v s q=>by simp only [aj,er,X.kill,aX]; cases s == r && X.pfx p q <;> rfl
 | .az v s q i c=>by simp only [aj,er,X.kill,aX]; cases s == r && X.pfx p q <;> rfl
 | .cut v s q i c=>by simp only [aj,er,X.kill,aX]; cases s == r && X.pfx p q <;> rfl
 | .ptr m g o n c=>by simp only [aj,er,X.kill,X.pF]; congr 1; exact List.map_congr_left fun j _=>jS r p (c j)
 | .agg n c=>by simp only [aj,er,X.kill,X.pF]; congr 1; exact List.map_congr_left fun j _=>jS r p (c j)
 | .au n c=>by simp only [aj,er,X.kill,X.pF]; congr 1; exact List.map_congr_left fun j _=>jS r p (c j)
 | .fn f n c=>by simp only [aj,er,X.kill,X.pF]; congr 1; exact List.map_congr_left fun j _=>jS r p (c j)
 | .dead _=>by simp only [aj,er,X.kill]
 | .int _ _=>by simp only [aj,er,X.kill]
 | .bool _=>by simp only [aj,er,X.kill]
 | .str _=>by simp only [aj,er,X.kill]
 | .row _ _ _ _ _ _=>by simp only [aj,er,X.kill]
theorem tE (ks : List Nat) : ∀ c : C,(c.aj (others ks)).er = c.er.only ks
 | .ref v s q=>by simp only [aj,er,X.only,others]; cases ks.contains s <;> rfl
 | .az v s q i c=>by simp only [aj,er,X.only,others]; cases ks.contains s <;> rfl
 | .cut v s q i c=>by simp only [aj,er,X.only,others]; cases ks.contains s <;> rfl
 | .ptr m g o n c=>by simp only [aj,er,X.only,X.tD]; congr 1; exact List.map_congr_left fun j _=>tE ks (c j)
 | .agg n c=>by simp only [aj,er,X.only,X.tD]; congr 1; exact List.map_congr_left fun j _=>tE ks (c j)
 | .au n c=>by simp only [aj,er,X.only,X.tD]; congr 1; exact List.map_congr_left fun j _=>tE ks (c j)
 | .fn f n c=>by simp only [aj,er,X.only,X.tD]; congr 1; exact List.map_congr_left fun j _=>tE ks (c j)
 | .dead _=>by simp only [aj,er,X.only]
 | .int _ _=>by simp only [aj,er,X.only]
 | .bool _=>by simp only [aj,er,X.only]
 | .str _=>by simp only [aj,er,X.only]
 | .row _ _ _ _ _ _=>by simp only [aj,er,X.only]
section
variable (t : Nat→Path→Bool)
theorem fy : ∀ c : C,(c.aj t).val = c.val
 | .ref v s q=>by simp only [aj]; cases t s q <;> rfl
 | .az v s q i c=>by simp only [aj]; cases t s q <;> rfl
 | .cut v s q i c=>by simp only [aj]; cases t s q <;> rfl
 | .ptr m g o n c=>rfl
 | .agg n c=>by simp only [aj,val]; congr 2; exact List.map_congr_left fun j _=>fy (c j)
 | .au n c=>by simp only [aj,val]; congr 2; exact List.map_congr_left fun j _=>fy (c j)
 | .fn f n c=>by simp only [aj,val]; congr 2; exact List.map_congr_left fun j _=>fy (c j)
 | .dead _=>rfl
 | .int _ _=>rfl
 | .bool _=>rfl
 | .str _=>rfl
 | .row _ _ _ _ _ _=>rfl
theorem bN : ∀ (c : C) (b k : Nat),(c.aj t).fp b k↔c.fp b k
 | .ref v s q,b,k=>by simp only [aj]; cases t s q <;> exact Iff.rfl
 | .az v s q i c,b,k=>by simp only [aj]; cases t s q <;> exact Iff.rfl
 | .cut v s q i c,b,k=>by simp only [aj]; cases t s q <;> exact Iff.rfl
 | .ptr m g o n c,b,k=>and_congr_right fun _=>or_congr_right (exists_congr fun j=>and_congr_right fun _=>bN (c j) b k)
 | .agg n c,b,k=>exists_congr fun j=>and_congr_right fun _=>bN (c j) b k
 | .au n c,b,k=>exists_congr fun j=>and_congr_right fun _=>bN (c j) b k
 | .fn f n c,b,k=>Iff.rfl
 | .dead _,_,_=>Iff.rfl
 | .int _ _,_,_=>Iff.rfl
 | .bool _,_,_=>Iff.rfl
 | .str _,_,_=>Iff.rfl
 | .row _ _ _ _ _ _,_,_=>Iff.rfl
theorem xE (c : C) (h : c.cell) : (c.aj t).cell:=by
 cases c with
 | ref v s q=>simp only [aj]; cases t s q <;> exact h
 | az v s q i c=>simp only [aj]; cases t s q <;> exact h
 | cut v s q i c=>simp only [aj]; cases t s q <;> exact h
 | agg=>exact h.elim
 | au=>exact h.elim
 | _=>exact h
theorem Qd (c : C) (h : c.dJ) : (c.aj t).dJ:=by
 cases c with
 | ref v s q=>simp only [aj]; cases t s q <;> exact h
 | az v s q i c=>simp only [aj]; cases t s q <;> exact h
 | cut v s q i c=>simp only [aj]; cases t s q <;> exact h
 | au=>exact h.elim
 | _=>exact h
theorem Qc (m : Md) (c : C) (h : c.fits m) : (c.aj t).fits m:=by
 cases c with
 | ref v s q=>simp only [aj]; cases t s q <;> trivial
 | az v s q i c=>simp only [aj]; cases t s q <;> trivial
 | cut v s q i c=>simp only [aj]; cases t s q <;> trivial
 | _=>exact h
theorem qc (c : C) (h : c.bO) : c.aj t = c:=by
 cases c with
 | ref v s q=>exact h.elim
 | az v s q i c=>exact h.elim
 | cut v s q i c=>exact h.elim
 | ptr=>exact h.elim
 | agg=>exact h.elim
 | au=>exact h.elim
 | fn=>exact h.elim
 | _=>rfl
theorem iL : ∀ c : C,c.ok w Z→(c.aj t).ok w Z
 | .ref v s q,h=>by simp only [aj]; cases t s q <;> trivial
 | .az v s q i c,h=>by simp only [aj]; cases t s q <;> trivial
 | .cut v s q i c,h=>by simp only [aj]; cases t s q <;> trivial
 | .ptr m g o n c,h=>by
  obtain ⟨h1,h2,h3,h4⟩:=h
  refine ⟨fun j hj=>?_,h2,fun j hj=>⟨xE t _ (h3 j hj).1,Qc t _ _ (h3 j hj).2.1,iL (c j) (h3 j hj).2.2⟩,fun j hj b k hf=>?_⟩
  ·rw [fy]; exact h1 j hj
  ·rw [bN] at hf
   exact ⟨(h4 j hj b k hf).1,fun j' hj' hne=>by rw [bN]; exact (h4 j hj b k hf).2 j' hj' hne⟩
 | .agg n c,h=>⟨fun j hj=>⟨xE t _ (h.1 j hj).1,iL (c j) (h.1 j hj).2⟩,fun j hj b k hf j' hj' hne=>by rw [bN] at hf ⊢; exact h.2 j hj b k hf j' hj' hne⟩
 | .au n c,h=>⟨fun j hj=>⟨Qd t _ (h.1 j hj).1,iL (c j) (h.1 j hj).2⟩,fun j hj b k hf j' hj' hne=>by rw [bN] at hf ⊢; exact h.2 j hj b k hf j' hj' hne⟩
 | .fn f n c,h=>fun j hj=>⟨iL (c j) (h j hj).1,fun b k hf=>by rw [bN] at hf; exact (h j hj).2 b k hf⟩
 | .dead _,h=>h
 | .int _ _,h=>h
 | .bool _,h=>h
 | .str _,h=>h
 | .row _ _ _ _ _ _,h=>h
theorem fu : ∀ (q : Path) (c y : C),c.ok w Z→c.sub q = some y→(c.aj t).sub q = some (y.aj t)
 | [],c,y,ho,h=>by simp only [sub] at h ⊢; injection h with h; rw [h]
 | q :: p,c,y,ho,h=>by
  simp only [sub] at h ⊢
  cases hs : c.step q with
  | none=>rw [hs] at h; cases h
  | some z =>
   rw [hs] at h
   have hz : (z.aj t).sub p = some (y.aj t):=fu p z y (oc hs ho) h
   suffices hst : (c.aj t).step q = some (z.aj t) by rw [hst]; exact hz
   cases c with
   | row m sz A len cap e =>
    simp only [step] at hs
    split at hs
    ·rename_i hq
     injection hs with hs
     have:=qc t z (by rw [← hs]; exact (ho.2.2.1 _ _ hq.1 hq.2).2.1)
     simp only [aj,step,if_pos hq,hs,this]
    ·cases hs
   | ptr m g o n c =>
    simp only [step] at hs
    split at hs
    ·rename_i hq
     injection hs with hs
     simp only [aj,step,if_pos hq,hs]
    ·cases hs
   | agg n c =>
    simp only [step] at hs
    split at hs
    ·rename_i hq
     injection hs with hs
     simp only [aj,step,if_pos hq,hs]
    ·cases hs
   | au n c =>
    simp only [step] at hs
    split at hs
    ·rename_i hq
     injection hs with hs
     simp only [aj,step,if_pos hq,hs]
    ·cases hs
   | _=>simp [step] at hs
end
inductive dL : C→C→Prop where
 | row (m m' : Md) (sz : Nat) (A : Option Ad) (len cap : Nat) (e e' : Nat→Nat→C) : dL (.row m sz A len cap e) (.row m' sz A len cap e')
 | ptr (m m' : Md) (g o n : Nat) (c c' : Nat→C) : dL (.ptr m g o n c) (.ptr m' g o n c')
theorem dL.off (t : Nat→Path→Bool) {y z : C} (h : dL y z) : dL y (z.aj t):=by
 cases h with
 | row=>exact .row ..
 | ptr=>exact .ptr ..
theorem dL.trans {x y z : C} (h : dL x y) (h' : dL y z) : dL x z:=by
 cases h <;> cases h' <;> constructor
def free (t : Nat→Path→Bool) : C→Prop
 | .ref _ s q=>t s q = false
 | .az _ s q _ _=>t s q = false
 | .cut _ s q _ _=>t s q = false
 | .ptr _ _ _ n c=>∀ j,j < n→(c j).free t
 | .agg n c=>∀ j,j < n→(c j).free t
 | .au n c=>∀ j,j < n→(c j).free t
 | .fn _ n c=>∀ j,j < n→(c j).free t
 | _=>True
theorem dQ (t : Nat→Path→Bool) : ∀ c : C,(c.aj t).free t
 | .ref v s q=>by simp only [aj]; cases h : t s q <;> simp [free,h]
 | .az v s q i c=>by simp only [aj]; cases h : t s q <;> simp [free,h]
 | .cut v s q i c=>by simp only [aj]; cases h : t s q <;> simp [free,h]
 | .ptr m g o n c=>fun j _=>dQ t (c j)
 | .agg n c=>fun j _=>dQ t (c j)
 | .au n c=>fun j _=>dQ t (c j)
 | .fn f n c=>fun j _=>dQ t (c j)
 | .dead _=>trivial
 | .int _ _=>trivial
 | .bool _=>trivial
 | .str _=>trivial
 | .row _ _ _ _ _ _=>trivial
def rf (G : Nat→C) : C→Prop
 | .ref v s p=>∃ y z,(G s).sub p = some y∧dL z y∧y.val = v∧∃ m sz A len cap e,z = .row m sz A len cap e
 | .az v s p i c=>∃ y,(G s).sub p = some y∧((∃ m sz g o len cap e,y = .row m sz (some (g,o,none)) len cap e∧v = .pointer (some ⟨g,o + i * sz + c,none⟩))∨∃ m g o n cc,y = .ptr m g o n cc∧i = 0∧v = .pointer (some ⟨g,o + c,none⟩))
 | .cut v s p lo hi=>∃ m sz A len cap e A' cap',(G s).sub p = some (.row m sz A len cap e)∧v = .slice (Option.map (fun q : Ad=>⟨q.1,q.2.1,q.2.2⟩) A') (hi - lo) cap'∧lo≤hi∧hi≤len∧hi - lo≤cap'∧(lo < hi→A' = A.map fun q=>fF (lo * sz) q)∧lo + cap' = cap∧((A' = A∧cap' = 0)∨A' = A.map fun q=>fF (lo * sz) q)
 | .ptr _ _ _ n c=>∀ j,j < n→(c j).rf G
 | .agg n c=>∀ j,j < n→(c j).rf G
 | .au n c=>∀ j,j < n→(c j).rf G
 | .fn _ n c=>∀ j,j < n→(c j).rf G
 | _=>True
theorem iq {G G' : Nat→C} (t : Nat→Path→Bool) (h : ∀ s q y,t s q = false→(G s).sub q = some y→(∃ z,dL y z∧(G' s).sub q = some z)∨∀ z,¬ dL z y) : ∀ c : C,c.free t→c.rf G→c.rf G'
 | .ref v s p,hf,hr=>by
  obtain ⟨y,z,hs,hF,hv,m,sz,A,len,cap,e,rfl⟩:=hr
  rcases h s p y hf hs with ⟨z',dH,hs'⟩ | hno
  ·refine ⟨z',_,hs',hF.trans dH,?_,m,sz,A,len,cap,e,rfl⟩
   cases hF; cases dH; exact hv
  ·exact (hno _ hF).elim
 | .az v s p i c,hf,hr=>by
  obtain ⟨y,hs,hy⟩:=hr
  rcases h s p y hf hs with ⟨z',dH,hs'⟩ | hno
  ·refine ⟨z',hs',?_⟩
   rcases hy with ⟨m,sz,g,o,len,cap,e,rfl,hv⟩ | ⟨m,g,o,n,cc,rfl,hv⟩
   ·cases dH; exact .inl ⟨_,_,_,_,_,_,_,rfl,hv⟩
   ·cases dH; exact .inr ⟨_,_,_,_,_,rfl,hv⟩
  ·rcases hy with ⟨m,sz,g,o,len,cap,e,rfl,hv⟩ | ⟨m,g,o,n,cc,rfl,hv⟩
   ·exact (hno _ (.row m m sz (some (g,o,none)) len cap e e)).elim
   ·exact (hno _ (.ptr m m g o n cc cc)).elim
 | .cut v s p lo hi,hf,hr=>by
  obtain ⟨m,sz,A,len,cap,e,A',cap',hs,hv⟩:=hr
  rcases h s p _ hf hs with ⟨z',dH,hs'⟩ | hno
  ·cases dH; exact ⟨_,_,_,_,_,_,A',cap',hs',hv⟩
  ·exact (hno _ (.row m m sz A len cap e e)).elim
 | .ptr m g o n c,hf,hr=>fun j hj=>iq t h (c j) (hf j hj) (hr j hj)
 | .agg n c,hf,hr=>fun j hj=>iq t h (c j) (hf j hj) (hr j hj)
 | .au n c,hf,hr=>fun j hj=>iq t h (c j) (hf j hj) (hr j hj)
 | .fn f n c,hf,hr=>fun j hj=>iq t h (c j) (hf j hj) (hr j hj)
 | .dead _,_,_=>trivial
 | .int _ _,_,_=>trivial
 | .bool _,_,_=>trivial
 | .str _,_,_=>trivial
 | .row _ _ _ _ _ _,_,_=>trivial
theorem jr {G : Nat→C} (t : Nat→Path→Bool) : ∀ c : C,c.rf G→(c.aj t).rf G
 | .ref v s q,h=>by simp only [aj]; cases t s q <;> first | exact h | trivial
 | .az v s q i c,h=>by simp only [aj]; cases t s q <;> first | exact h | trivial
 | .cut v s q i c,h=>by simp only [aj]; cases t s q <;> first | exact h | trivial
 | .ptr m g o n c,h=>fun j hj=>jr t (c j) (h j hj)
 | .agg n c,h=>fun j hj=>jr t (c j) (h j hj)
 | .au n c,h=>fun j hj=>jr t (c j) (h j hj)
 | .fn f n c,h=>fun j hj=>jr t (c j) (h j hj)
 | .dead _,_=>trivial
 | .int _ _,_=>trivial
 | .bool _,_=>trivial
 | .str _,_=>trivial
 | .row _ _ _ _ _ _,_=>trivial
theorem self (y z : C) (t : Path) (h : z.sub t = some y) : (∃ z',dL y z'∧z.sub t = some z')∨∀ z,¬ dL z y:=by
 cases y with
 | row m sz A len cap e=>exact .inl ⟨_,.row m m sz A len cap e e,h⟩
 | ptr m g o n c=>exact .inl ⟨_,.ptr m m g o n c c,h⟩
 | _=>exact .inr fun z hz=>by cases hz
theorem yc : ∀ (p q : Path) (c d' y : C),X.pfx p q = false→c.sub q = some y→(∃ z,dL y z∧(putAt p c d').sub q = some z)∨∀ z,¬ dL z y
 | [],q,c,d',y,h,hs=>by simp [X.pfx] at h
 | r :: p,[],c,d',y,h,hs=>by
  simp only [sub] at hs
  injection hs with hs
  subst hs
  simp only [putAt,sub]
  cases hst : c.step r with
  | none =>
   cases c with
   | row m sz A len cap e=>exact .inl ⟨_,.row m m sz A len cap e _,rfl⟩
   | ptr m g o n c=>exact .inl ⟨_,.ptr m m g o n c _,rfl⟩
   | _=>exact .inr fun z hz=>by cases hz
  | some z =>
   cases c with
   | row m sz A len cap e=>exact .inl ⟨_,.row m m sz A len cap e _,rfl⟩
   | ptr m g o n c=>exact .inl ⟨_,.ptr m m g o n c _,rfl⟩
   | _=>exact .inr fun z hz=>by cases hz
 | r :: p,q :: t,c,d',y,h,hs=>by
  simp only [sub] at hs ⊢
  cases bF : c.step q with
  | none=>rw [bF] at hs; cases hs
  | some z =>
   rw [bF] at hs
   have hs' : z.sub t = some y:=hs
   simp only [putAt]
   cases gU : c.step r with
   | none=>simp only [bF]; exact self y z t hs'
   | some z0 =>
    simp only
    by_cases vM : r.1 = q.1∧r.2 = q.2
    ·have O5 : r = q:=by cases r; cases q; simp only at vM; rw [vM.1,vM.2]
     subst O5
     rw [bF] at gU
     injection gU with gU
     subst gU
     have hp : X.pfx p t = false:=by simpa [X.pfx] using h
     have : (c.aM r (putAt p z d')).step r = some (putAt p z d'):=by
      cases c with
      | row m sz A len cap e =>
       simp only [step] at bF
       split at bF
       ·rename_i hq; simp [aM,step,hq]
       ·cases bF
      | ptr m g o n c =>
       simp only [step] at bF
       split at bF
       ·rename_i hq; simp [aM,step,hq,bq]
       ·cases bF
      | agg n c =>
       simp only [step] at bF
       split at bF
       ·rename_i hq; simp [aM,step,hq,bq]
       ·cases bF
      | au n c =>
       simp only [step] at bF
       split at bF
       ·rename_i hq; simp [aM,step,hq,bq]
       ·cases bF
      | _=>simp [step] at bF
     rw [this]
     exact yc p t z d' y hp hs'
    ·by_cases h2 : r.2 = q.2
     ·have h1 : r.1≠q.1:=fun e=>vM ⟨e,h2⟩
      cases c with
      | row m sz A len cap e =>
       simp only [step] at bF
       split at bF
       ·rename_i hq
        have : ((C.row m sz A len cap e).aM r (putAt p z0 d')).step q = some z:=by
         simp only [aM,step,if_pos hq]
         rw [if_neg (fun e=>h1 e.1.symm)]
         exact bF
        rw [this]; exact self y z t hs'
       ·cases bF
      | ptr m g o n c =>
       simp only [step] at bF gU
       split at bF
       ·split at gU
        ·rename_i hq hr; exact (h1 (hr.1.trans hq.1.symm)).elim
        ·cases gU
       ·cases bF
      | agg n c =>
       simp only [step] at bF gU
       split at bF
       ·split at gU
        ·rename_i hq hr; exact (h1 (hr.1.trans hq.1.symm)).elim
        ·cases gU
       ·cases bF
      | au n c =>
       simp only [step] at bF gU
       split at bF
       ·split at gU
        ·rename_i hq hr; exact (h1 (hr.1.trans hq.1.symm)).elim
        ·cases gU
       ·cases bF
      | _=>simp [step] at bF
     ·have : (c.aM r (putAt p z0 d')).step q = some z:=by
       cases c with
       | row m sz A len cap e =>
        simp only [step] at bF
        split at bF
        ·rename_i hq
         simp only [aM,step,if_pos hq]
         rw [if_neg (fun e=>h2 e.2.symm)]
         exact bF
        ·cases bF
       | ptr m g o n c =>
        simp only [step] at bF
        split at bF
        ·rename_i hq
         simp only [aM,step,if_pos hq,bq]
         rw [if_neg (fun e=>h2 e.symm)]
         exact bF
        ·cases bF
       | agg n c =>
        simp only [step] at bF
        split at bF
        ·rename_i hq
         simp only [aM,step,if_pos hq,bq]
         rw [if_neg (fun e=>h2 e.symm)]
         exact bF
        ·cases bF
       | au n c =>
        simp only [step] at bF
        split at bF
        ·rename_i hq
         simp only [aM,step,if_pos hq,bq]
         rw [if_neg (fun e=>h2 e.symm)]
         exact bF
        ·cases bF
       | _=>simp [step] at bF
      rw [this]; exact self y z t hs'
end C
end M
namespace M
open Go Go.RowKit
theorem Eu (r : Nat) (p : Path) (t : Nat) : ∀ s : ag,get (mo r p s) t = (get s t).kill r p
 | []=>rfl
 | (k,v) :: s=>by
  simp only [mo,get]
  cases k == t with
  | true=>rfl
  | false=>exact Eu r p t s
theorem oU (k : Nat) (v : X) (s : ag) (t : Nat) : get ((k,v) :: s) t = if t = k then v else get s t:=by
 simp only [get]
 by_cases h : t = k
 ·subst h; simp
 ·have : (k == t) = false:=by simpa using fun e=>h e.symm
  rw [this,if_neg h]; rfl
structure Inv (w : World) (zl zb : Nat→Nat→Prop) (G : Nat→C) (s : ag) : Prop where
 er : ∀ t,(G t).er = get s t
 ok : ∀ t,(G t).ok w (Zf zl zb)
 sep : ∀ t u,t≠u→∀ b k,(G t).fp b k→¬ (G u).fp b k
 fz : ∀ t b k,(G t).fp b k→¬ zl b k∧¬ zb b k
 rf : ∀ t,(G t).rf G
 bD : ∀ b k,zl b k∨zb b k→b < w.heap.size
theorem yw {zl zb : Nat→Nat→Prop} {n : Nat} (h : ∀ b k,zl b k∨zb b k→b < n) : ∀ m b k,Zf zl zb m b k→b < n
 | .own,b,k,hz=>hz.elim
 | .sl,b,k,hz=>h b k (.inl hz)
 | .af,b,k,hz=>h b k hz
namespace Inv
variable {w w' : World} {zl zb : Nat→Nat→Prop} {G : Nat→C} {s : ag}
theorem qB (h : Inv w zl zb G s) (t : Nat) : ∀ m b k,Zf zl zb m b k→¬ (G t).fp b k
 | .own,b,k,hz=>hz.elim
 | .sl,b,k,hz=>fun hf=>(h.fz t b k hf).1 hz
 | .af,b,k,hz=>fun hf=>by
  rcases hz with hz | hz
  ·exact (h.fz t b k hf).1 hz
  ·exact (h.fz t b k hf).2 hz
theorem off (h : Inv w zl zb G s) (f : Nat→Path→Bool) {s' : ag} (hs : ∀ t,((G t).aj f).er = get s' t) : Inv w zl zb (fun t=>(G t).aj f) s' where
 er:=hs
 ok:=fun t=>C.iL f _ (h.ok t)
 sep:=fun t u hne b k hf=>by rw [C.bN] at hf ⊢; exact h.sep t u hne b k hf
 fz:=fun t b k hf=>by rw [C.bN] at hf; exact h.fz t b k hf
 rf:=fun t=>C.iq f (fun s' q y hf hs=>by
   rcases C.self y _ q hs with ⟨z,hz,rV⟩ | hno
   ·exact .inl ⟨_,hz.off f,C.fu f q _ _ (h.ok s') rV⟩
   ·exact .inr hno) _ (C.dQ f _) (C.jr f _ (h.rf t))
 bD:=h.bD
theorem kill (h : Inv w zl zb G s) (r : Nat) (p : Path) : Inv w zl zb (fun t=>(G t).aj (C.aX r p)) (mo r p s) :=
 h.off _ fun t=>by rw [C.jS,Eu,h.er]
theorem world (h : Inv w zl zb G s) {S : Nat→Nat→Prop} (hE : Ext S w w') (hS : ∀ b k,S b k→w.heap.size≤b) : Inv w' zl zb G s where
 er:=h.er
 ok:=fun t=>C.dc hE (fun m b k hz hs=>by have:=yw h.bD m b k hz; have:=hS b k hs; omega) _ (fun b k hf hs=>by have:=C.dj _ (h.ok t) b k hf; have:=hS b k hs; omega) (h.ok t)
 sep:=h.sep
 fz:=h.fz
 rf:=h.rf
 bD:=fun b k hz=>Nat.lt_of_lt_of_le (h.bD b k hz) hE.size
theorem qA (h : Inv w zl zb G s) {d : Nat} (hd : (get s d).eY = false) : ∀ c : C,c.rf G→c.free (C.aX d [])
 | .ref v r p,hr=>by
  obtain ⟨y,z,hs,hF,_⟩:=hr
  simp only [C.free,C.aX,X.pfx,Bool.and_true]
  by_cases e : r = d
  ·subst e
   exact (no h hd hs (by cases hF <;> rfl)).elim
  ·simpa using e
 | .az v r p i c,hr=>by
  obtain ⟨y,hs,hy⟩:=hr
  simp only [C.free,C.aX,X.pfx,Bool.and_true]
  by_cases e : r = d
  ·subst e
   refine (no h hd hs ?_).elim
   rcases hy with ⟨m,sz,g,o,len,cap,e,rfl,hv⟩ | ⟨m,g,o,n,cc,rfl,hv⟩ <;> rfl
  ·simpa using e
 | .cut v r p lo hi,hr=>by
  obtain ⟨m,sz,A,len,cap,e,A',cap',hs,_⟩:=hr
  simp only [C.free,C.aX,X.pfx,Bool.and_true]
  by_cases e : r = d
  ·subst e
   exact (no h hd hs rfl).elim
  ·simpa using e
 | .ptr m g o n c,hr=>fun j hj=>qA h hd (c j) (hr j hj)
 | .agg n c,hr=>fun j hj=>qA h hd (c j) (hr j hj)
 | .au n c,hr=>fun j hj=>qA h hd (c j) (hr j hj)
 | .fn f n c,hr=>fun j hj=>qA h hd (c j) (hr j hj)
 | .dead _,_=>trivial
 | .int _ _,_=>trivial
 | .bool _,_=>trivial
 | .str _,_=>trivial
 | .row _ _ _ _ _ _,_=>trivial
where
 no {r : Nat} {p : Path} {y : C} (h : Inv w zl zb G s) (hd : (get s r).eY = false) (hs : (G r).sub p = some y) (hy : y.er.eY = true) : False:=by
  rw [← h.er] at hd
  cases p with
  | nil =>
   simp only [C.sub] at hs
   injection hs with hs
   rw [hs,hy] at hd
   cases hd
  | cons q p =>
   simp only [C.sub] at hs
   cases hc : G r with
   | row=>rw [hc] at hd; simp [C.er,X.eY] at hd
   | ptr=>rw [hc] at hd; simp [C.er,X.eY] at hd
   | agg=>rw [hc] at hd; simp [C.er,X.eY] at hd
   | au=>rw [hc] at hd; simp [C.er,X.eY] at hd
   | _=>rw [hc] at hs; simp [C.step] at hs
end Inv
def dr (G : Nat→C) (d : Nat) (c : C) : Nat→C:=fun t=>if t = d then c else G t
theorem cv (G : Nat→C) (d : Nat) (c : C) : dr G d c d = c:=by simp [dr]
theorem cm (G : Nat→C) {d t : Nat} (c : C) (h : t≠d) : dr G d c t = G t:=by simp [dr,h]
namespace Inv
variable {w w' : World} {zl zb : Nat→Nat→Prop} {G : Nat→C} {s : ag}
theorem FZ (h : Inv w zl zb G s) (d : Nat) (c : C) (hfree : ∀ t,t≠d→(G t).free (C.aX d [])) (hok : c.ok w (Zf zl zb)) (hsep : ∀ t,t≠d→∀ b k,c.fp b k→¬ (G t).fp b k)
  (hfz : ∀ b k,c.fp b k→¬ zl b k∧¬ zb b k) (cj : c.rf G) (fj : c.free (C.aX d [])) : Inv w zl zb (dr G d c) ((d,c.er) :: s) where
 er:=fun t=>by
  rw [oU]
  by_cases e : t = d
  ·subst e; rw [cv,if_pos rfl]
  ·rw [cm _ _ e,if_neg e]; exact h.er t
 ok:=fun t=>by
  by_cases e : t = d
  ·subst e; rw [cv]; exact hok
  ·rw [cm _ _ e]; exact h.ok t
 sep:=fun t u hne b k hf=>by
  by_cases e : t = d
  ·subst e
   rw [cv] at hf
   rw [cm _ _ (fun e=>hne e.symm)]
   exact hsep u (fun e=>hne e.symm) b k hf
  ·rw [cm _ _ e] at hf
   by_cases e' : u = d
   ·subst e'
    rw [cv]
    exact fun hc=>hsep t e b k hc hf
   ·rw [cm _ _ e']; exact h.sep t u hne b k hf
 fz:=fun t b k hf=>by
  by_cases e : t = d
  ·subst e; rw [cv] at hf; exact hfz b k hf
  ·rw [cm _ _ e] at hf; exact h.fz t b k hf
 rf:=fun t=>by
  have key : ∀ c' : C,c'.free (C.aX d [])→c'.rf G→c'.rf (dr G d c):=fun c' hf hr=>C.iq (C.aX d []) (fun s' q y hk hs=>by
   have hne : s'≠d:=by
    intro e
    subst e
    simp [C.aX,X.pfx] at hk
   rw [cm _ _ hne]
   exact C.self y _ q hs) c' hf hr
  by_cases e : t = d
  ·subst e; rw [cv]; exact key c fj cj
  ·rw [cm _ _ e]; exact key _ (hfree t e) (h.rf t)
 bD:=h.bD
theorem put (h : Inv w zl zb G s) (d : Nat) (c : C) (hok : c.ok w (Zf zl zb)) (hsep : ∀ t,t≠d→∀ b k,c.fp b k→¬ (G t).fp b k)
  (hfz : ∀ b k,c.fp b k→¬ zl b k∧¬ zb b k) (cj : c.rf G) :
  ∃ G',Inv w zl zb G' (M.put d c.er s)∧(G' d).val = c.val∧(∀ t,t≠d→(G' t).val = (G t).val)∧(∀ b k,(G' d).fp b k→c.fp b k)∧∀ t,t≠d→∀ b k,(G' t).fp b k→(G t).fp b k:=by
 unfold M.put
 cases hr : (get s d).eY with
 | false =>
  refine ⟨dr G d c,h.FZ d c (fun t _=>h.qA hr _ (h.rf t)) hok hsep hfz cj (h.qA hr _ cj),by rw [cv],fun t e=>by rw [cm _ _ e],fun b k hf=>by rwa [cv] at hf,fun t e b k hf=>by rwa [cm _ _ e] at hf⟩
 | true =>
  have h1:=h.kill d []
  have hc : (c.aj (C.aX d [])).rf fun t=>(G t).aj (C.aX d []):=C.iq (C.aX d []) (fun s' q y hf hs=>by
   rcases C.self y _ q hs with ⟨z,hz,rV⟩ | hno
   ·exact .inl ⟨_,hz.off _,C.fu _ q _ _ (h.ok s') rV⟩
   ·exact .inr hno) _ (C.dQ _ _) (C.jr _ _ cj)
  have h2:=h1.FZ d (c.aj (C.aX d [])) (fun t _=>C.dQ _ _) (C.iL _ _ hok) (fun t e b k hf=>by rw [C.bN] at hf ⊢; exact hsep t e b k hf) (fun b k hf=>by rw [C.bN] at hf; exact hfz b k hf) hc (C.dQ _ _)
  rw [C.jS] at h2
  refine ⟨_,h2,by rw [cv,C.fy],fun t e=>by rw [cm _ _ e,C.fy],fun b k hf=>by rw [cv,C.bN] at hf; exact hf,fun t e b k hf=>by rw [cm _ _ e,C.bN] at hf; exact hf⟩
theorem xY (h : Inv w zl zb G s) (r : Nat) (p q : Path) (d d' y : C) {S : Nat→Nat→Prop} (hq : C.putAt q (G r) y = C.putAt p (G r) d') (hfree : ∀ t,(G t).free (C.aX r q)) (hE : Ext S w w') (hsub : (G r).sub p = some d)
  (hS : ∀ b k,S b k→d.fp b k∨w.heap.size≤b) (hok : d'.ok w' (Zf zl zb)) (hl : C.ey d d') (cj : y.rf G) (hdf : y.free (C.aX r q))
  (bp : ∀ b k,d'.fp b k→d.fp b k∨((∀ t,¬ (G t).fp b k)∧¬ zl b k∧¬ zb b k)) :
  (Inv w' zl zb (dr G r (C.putAt p (G r) d')) ((r,X.putAt q (get s r) y.er) :: s)∧(∀ t,(dr G r (C.putAt p (G r) d') t).val = (G t).val) ∧
   ∀ t b k,(dr G r (C.putAt p (G r) d') t).fp b k→(t = r∧d'.fp b k)∨(G t).fp b k)∧∀ c' : C,c'.free (C.aX r q)→c'.rf G→c'.rf (dr G r (C.putAt p (G r) d')):=by
 have eE : ∀ {b k},d.fp b k→(G r).fp b k:=fun hf=>C.dW p hsub (h.ok r) hf
 have hZ : ∀ m b k,Zf zl zb m b k→¬ S b k:=fun m b k hz hs=>by
  rcases hS b k hs with hs | hs
  ·exact h.qB r m b k hz (eE hs)
  ·have:=yw h.bD m b k hz; omega
 obtain ⟨i1,i2,i3⟩:=C.tC (fun _ _ _ h=>h) hE hZ p (G r) d d' (h.ok r) hsub hok hl (fun b k hs=>(hS b k hs).imp id fun hb hf=>by have:=C.dj _ (h.ok r) b k hf; omega) (fun b k hf=>(bp b k hf).imp id fun hn=>hn.1 r)
 have zU : ∀ b k,(C.putAt p (G r) d').fp b k→d'.fp b k∨(G r).fp b k:=fun b k hf=>(i2 b k hf).imp id fun hh=>hh.1
 have hr' : ∀ t,t≠r→∀ b k,(C.putAt p (G r) d').fp b k→¬ (G t).fp b k:=fun t e b k hf=>by
  rcases zU b k hf with hf | hf
  ·rcases bp b k hf with hf | hf
   ·exact h.sep r t (fun e'=>e e'.symm) b k (eE hf)
   ·exact hf.1 t
  ·exact h.sep r t (fun e'=>e e'.symm) b k hf
 have key : ∀ c' : C,c'.free (C.aX r q)→c'.rf G→c'.rf (dr G r (C.putAt p (G r) d')):=fun c' hf hr=>C.iq (C.aX r q) (fun s' q' y' hk hs=>by
  by_cases e : s' = r
  ·subst e
   rw [cv,← hq]
   exact C.yc q q' (G s') y y' (by simpa [C.aX] using hk) hs
  ·rw [cm _ _ e]
   exact C.self y' _ q' hs) c' hf hr
 refine ⟨⟨⟨fun t=>?_,fun t=>?_,fun t u hne b k hf=>?_,fun t b k hf=>?_,fun t=>?_,fun b k hz=>Nat.lt_of_lt_of_le (h.bD b k hz) hE.size⟩,fun t=>?_,fun t b k hf=>?_⟩,key⟩
 ·rw [oU]
  by_cases e : t = r
  ·subst e; rw [cv,if_pos rfl,← hq,C.BW,h.er]
  ·rw [cm _ _ e,if_neg e]; exact h.er t
 ·by_cases e : t = r
  ·subst e; rw [cv]; exact i1
  ·rw [cm _ _ e]
   refine C.dc hE hZ _ (fun b k hf hs=>?_) (h.ok t)
   rcases hS b k hs with hs | hs
   ·exact h.sep t r e b k hf (eE hs)
   ·have:=C.dj _ (h.ok t) b k hf; omega
 ·by_cases e : t = r
  ·subst e
   rw [cv] at hf
   rw [cm _ _ (fun e=>hne e.symm)]
   exact hr' u (fun e=>hne e.symm) b k hf
  ·rw [cm _ _ e] at hf
   by_cases e' : u = r
   ·subst e'
    rw [cv]
    exact fun hc=>hr' t e b k hc hf
   ·rw [cm _ _ e']; exact h.sep t u hne b k hf
 ·by_cases e : t = r
  ·subst e
   rw [cv] at hf
   rcases zU b k hf with hf | hf
   ·rcases bp b k hf with hf | hf
    ·exact h.fz t b k (eE hf)
    ·exact hf.2
   ·exact h.fz t b k hf
  ·rw [cm _ _ e] at hf; exact h.fz t b k hf
 ·by_cases e : t = r
  ·subst e
   rw [cv]
   have inner : ∀ (p' : Path) (c' : C),c'.free (C.aX t q)→c'.rf G→(C.putAt p' c' y).rf (dr G t (C.putAt p (G t) d')):=by
    intro p'
    induction p' with
    | nil=>intro c' _ _; exact key y hdf cj
    | cons x p' ih =>
     intro c' fj gh
     simp only [C.putAt]
     cases hst : c'.step x with
     | none=>exact key c' fj gh
     | some z =>
      cases c' with
      | row m sz A len cap e=>trivial
      | ptr m g o n c =>
       simp only [C.step] at hst
       split at hst
       ·rename_i hq
        injection hst with hst
        intro j hj
        simp only [C.bq]
        split
        ·exact ih z (by rw [← hst]; exact fj _ hq.2) (by rw [← hst]; exact gh _ hq.2)
        ·exact key _ (fj j hj) (gh j hj)
       ·cases hst
      | agg n c =>
       simp only [C.step] at hst
       split at hst
       ·rename_i hq
        injection hst with hst
        intro j hj
        simp only [C.bq]
        split
        ·exact ih z (by rw [← hst]; exact fj _ hq.2) (by rw [← hst]; exact gh _ hq.2)
        ·exact key _ (fj j hj) (gh j hj)
       ·cases hst
      | au n c =>
       simp only [C.step] at hst
       split at hst
       ·rename_i hq
        injection hst with hst
        intro j hj
        simp only [C.bq]
        split
        ·exact ih z (by rw [← hst]; exact fj _ hq.2) (by rw [← hst]; exact gh _ hq.2)
        ·exact key _ (fj j hj) (gh j hj)
       ·cases hst
      | _=>simp [C.step] at hst
   rw [← hq] at *
   exact inner q (G t) (hfree t) (h.rf t)
  ·rw [cm _ _ e]; exact key _ (hfree t) (h.rf t)
 ·by_cases e : t = r
  ·subst e; rw [cv]; exact i3.val
  ·rw [cm _ _ e]
 ·by_cases e : t = r
  ·subst e
   rw [cv] at hf
   exact (zU b k hf).imp (fun hh=>⟨rfl,hh⟩) id
  ·rw [cm _ _ e] at hf; exact .inr hf
theorem Gh (h : Inv w zl zb G s) (r : Nat) (p : Path) (d d' : C) {S : Nat→Nat→Prop} (hfree : ∀ t,(G t).free (C.aX r p)) (hE : Ext S w w') (hsub : (G r).sub p = some d)
  (hS : ∀ b k,S b k→d.fp b k∨w.heap.size≤b) (hok : d'.ok w' (Zf zl zb)) (hl : C.ey d d') (cj : d'.rf G) (hdf : d'.free (C.aX r p))
  (bp : ∀ b k,d'.fp b k→d.fp b k∨((∀ t,¬ (G t).fp b k)∧¬ zl b k∧¬ zb b k)) :
  (Inv w' zl zb (dr G r (C.putAt p (G r) d')) ((r,X.putAt p (get s r) d'.er) :: s)∧(∀ t,(dr G r (C.putAt p (G r) d') t).val = (G t).val) ∧
   ∀ t b k,(dr G r (C.putAt p (G r) d') t).fp b k→(t = r∧d'.fp b k)∨(G t).fp b k)∧∀ c' : C,c'.free (C.aX r p)→c'.rf G→c'.rf (dr G r (C.putAt p (G r) d')) :=
 h.xY r p p d d' d' rfl hfree hE hsub hS hok hl cj hdf bp
theorem lP {c : C} (h : c.cell) : c.val.oneCell' = true:=by
 cases c with
 | agg=>exact h.elim
 | au=>exact h.elim
 | dead=>exact h
 | ref=>exact h
 | az=>exact h
 | cut=>exact h
 | _=>rfl
theorem xw (d : C) : C.ey d (.dead d.val) where
 val:=rfl
 cell:=fun h=>lP h
 dJ:=fun _=>trivial
 bO:=fun _=>trivial
 fits:=fun _ _=>trivial
theorem od (h : Inv w zl zb G s) (r : Nat) (p : Path) (y : C) (hsub : (G r).sub p = some y) :
  ∃ (c : C) (G' : Nat→C),c.er = y.er.kill r p∧c.val = y.val∧Inv w zl zb G' (eZ r p .dead s)∧c.ok w (Zf zl zb)∧c.rf G'∧(c.cell↔y.cell)∧(y.bO→c = y)∧(∀ t b k,c.fp b k→¬ (G' t).fp b k)∧(∀ b k,c.fp b k→(G r).fp b k) ∧
   (∀ t,(G' t).val = (G t).val)∧(∀ t b k,(G' t).fp b k→(G t).fp b k)∧∀ b k,c.fp b k↔y.fp b k:=by
 have h1:=h.kill r p
 have hs1 : ((G r).aj (C.aX r p)).sub p = some (y.aj (C.aX r p)):=C.fu _ p _ _ (h.ok r) hsub
 have kL:=C.ew p hsub (h.ok r)
 obtain ⟨⟨i1,i2,i3⟩,_⟩:=h1.Gh r p (y.aj (C.aX r p)) (.dead (y.aj (C.aX r p)).val) (S:=fun _ _=>False) (fun t=>C.dQ _ _) (Ext.refl _ _) hs1 (fun _ _ hf=>hf.elim) trivial (xw _) trivial trivial (fun _ _ hf=>hf.elim)
 have O1 : y.rf G:=uo p (h.ok r) hsub (h.rf r)
 refine ⟨y.aj (C.aX r p),_,C.jS r p y,C.fy _ y,i1,C.iL _ _ kL,?_,?_,fun hs=>C.qc _ _ hs,?_,?_,fun t=>(i2 t).trans (C.fy _ _),fun t b k hf=>?_,fun b k=>C.bN _ y b k⟩
 ·refine C.iq (C.aX r p) (fun s' q z hk hs=>?_) _ (C.dQ _ _) (C.jr _ _ O1)
  by_cases e : s' = r
  ·subst e
   rw [cv]
   rcases C.self z _ q hs with ⟨z',dH,hs'⟩ | hno
   ·have hs2:=C.fu (C.aX s' p) q _ _ (h.ok s') hs'
    rcases C.yc p q _ (.dead (y.aj (C.aX s' p)).val) _ (by simpa [C.aX] using hk) hs2 with ⟨Uz,Pf,rV⟩ | hno
    ·exact .inl ⟨Uz,(dH.off _).trans Pf,rV⟩
    ·exact (hno _ ((dH.off _))).elim
   ·exact .inr hno
  ·rw [cm _ _ e]
   rcases C.self z _ q hs with ⟨z',dH,hs'⟩ | hno
   ·exact .inl ⟨_,dH.off _,C.fu _ q _ _ (h.ok s') hs'⟩
   ·exact .inr hno
 ·cases y with
  | ref v s q=>simp only [C.aj]; cases C.aX r p s q <;> exact Iff.rfl
  | az v s q i c=>simp only [C.aj]; cases C.aX r p s q <;> exact Iff.rfl
  | cut v s q i c=>simp only [C.aj]; cases C.aX r p s q <;> exact Iff.rfl
  | _=>exact Iff.rfl
 ·intro t b k hf hf'
  rw [C.bN] at hf
  have Ar:=C.dW p hsub (h.ok r) hf
  have WG : Inv w zl zb (dr (fun t=>(G t).aj (C.aX r p)) r (C.putAt p ((G r).aj (C.aX r p)) (.dead (y.aj (C.aX r p)).val))) (eZ r p .dead s):=i1
  by_cases e : t = r
  ·subst e
   rw [cv] at hf'
   obtain ⟨_,j2,_⟩:=C.tC (fun _ _ _ h=>h) (Ext.refl (fun _ _=>False) w) (fun m b k _ hs=>hs) p ((G t).aj (C.aX t p)) _ (.dead (y.aj (C.aX t p)).val) (h1.ok t) hs1 trivial (xw _) (fun _ _ hs=>hs.elim) (fun _ _ hs=>hs.elim)
   rcases j2 b k hf' with hh | ⟨_,hn⟩
   ·exact hh
   ·exact hn (by rw [C.bN]; exact hf)
  ·rw [cm _ _ e,C.bN] at hf'
   exact h.sep r t (fun e'=>e e'.symm) b k Ar hf'
 ·intro b k hf
  rw [C.bN] at hf
  exact C.dW p hsub (h.ok r) hf
 ·rcases i3 t b k hf with ⟨_,hh⟩ | hh
  ·exact hh.elim
  ·rwa [C.bN] at hh
where
 uo : ∀ (p : Path) {c d : C},c.ok w (Zf zl zb)→c.sub p = some d→c.rf G→d.rf G
  | [],c,d,_,h,hr=>by simp only [C.sub] at h; injection h with h; subst h; exact hr
  | q :: p,c,d,ho,h,hr=>by
   simp only [C.sub] at h
   cases hs : c.step q with
   | none=>rw [hs] at h; cases h
   | some z =>
    rw [hs] at h
    refine uo p (C.oc hs ho) h ?_
    cases c with
    | row m sz A len cap e =>
     simp only [C.step] at hs
     split at hs
     ·rename_i hq
      injection hs with hs
      have:=(ho.2.2.1 _ _ hq.1 hq.2).2.1
      rw [hs] at this
      cases z with
      | ref=>exact this.elim
      | az=>exact this.elim
      | cut=>exact this.elim
      | ptr=>exact this.elim
      | agg=>exact this.elim
      | au=>exact this.elim
      | fn=>exact this.elim
      | _=>trivial
     ·cases hs
    | ptr m g o n c =>
     simp only [C.step] at hs
     split at hs
     ·rename_i hq
      injection hs with hs
      rw [← hs]
      exact hr _ hq.2
     ·cases hs
    | agg n c =>
     simp only [C.step] at hs
     split at hs
     ·rename_i hq
      injection hs with hs
      rw [← hs]
      exact hr _ hq.2
     ·cases hs
    | au n c =>
     simp only [C.step] at hs
     split at hs
     ·rename_i hq
      injection hs with hs
      rw [← hs]
      exact hr _ hq.2
     ·cases hs
    | _=>simp [C.step] at hs
end Inv
end M
namespace M
open Go Go.RowKit
theorem Ext.setCell (w : World) (g k : Nat) (v : Value) : Ext (fun b i=>b = g∧i = k) w (w.setCell ⟨g,k,none⟩ v):=by
 refine ⟨rfl,rfl,rfl,by simp [World.setCell],fun b hb=>?_⟩
 simp only [World.setCell,Array.getElem?_modify]
 by_cases e : g = b
 ·subst e
  rw [if_pos rfl]
  cases hh : w.heap[g]? with
  | none=>exact .inl rfl
  | some o =>
   cases o with
   | cells arr t fz =>
    refine .inr ⟨arr,arr.setIfInBounds k v,t,fz,rfl,?_,by simp,fun i hi=>?_⟩
    ·simp
    ·rw [Array.getElem?_setIfInBounds_ne]
     intro e
     exact hi ⟨rfl,e.symm⟩
   | _=>exact .inl (by simp)
 ·rw [if_neg e]
  exact .inl rfl
theorem Dq (w : World) (g k : Nat) (v u : Value) (h : w.cell? ⟨g,k,none⟩ = some u) : (w.setCell ⟨g,k,none⟩ v).cell? ⟨g,k,none⟩ = some v:=by
 simp only [World.cell?] at h ⊢
 simp only [World.setCell,Array.getElem?_modify,if_pos]
 cases hh : w.heap[g]? with
 | none=>simp [hh] at h
 | some o =>
  cases o with
  | cells arr t fz =>
   simp [hh] at h ⊢
   have hk : k < arr.size:=by
    rcases Nat.lt_or_ge k arr.size with h' | h'
    ·exact h'
    ·simp [Array.getElem?_eq_none h'] at h
   simp [hk]
  | _=>simp [hh] at h
theorem BS {sz i j i' j' : Nat} (hj : j < sz) (hj' : j' < sz) (h : i * sz + j = i' * sz + j') : i = i'∧j = j':=by
 have h1 : i = i':=by
  have e1 : (i * sz + j) / sz = i:=by rw [Nat.mul_comm,Nat.mul_add_div (by omega),Nat.div_eq_of_lt hj]; rfl
  have e2 : (i' * sz + j') / sz = i':=by rw [Nat.mul_comm,Nat.mul_add_div (by omega),Nat.div_eq_of_lt hj']; rfl
  rw [← e1,← e2,h]
 subst h1
 exact ⟨rfl,by omega⟩
theorem BR : ∀ (p q : Path),X.pfx p q = true→∃ t,q = p ++ t
 | [],q,_=>⟨q,rfl⟩
 | x :: p,[],h=>by simp [X.pfx] at h
 | x :: p,y :: q,h=>by
  simp only [X.pfx,Bool.and_eq_true,beq_iff_eq] at h
  obtain ⟨⟨h1,h2⟩,h3⟩:=h
  obtain ⟨t,rfl⟩:=BR p q h3
  exact ⟨t,by rw [List.cons_append]; congr 1; cases x; cases y; simp only at h1 h2; rw [h1,h2]⟩
namespace C
variable {w : World} {Z : Md→Nat→Nat→Prop}
theorem tL : ∀ (p : Path) {c d o y : C} {x : Nat×Nat},c.sub p = some d→d.step x = some o→putAt (p ++ [x]) c y = putAt p c (d.aM x y)
 | [],c,d,o,y,x,h,hs=>by
  simp only [sub] at h
  injection h with h
  subst h
  simp [putAt,hs]
 | q :: p,c,d,o,y,x,h,hs=>by
  simp only [sub] at h
  cases hst : c.step q with
  | none=>rw [hst] at h; cases h
  | some z =>
   rw [hst] at h
   simp only [List.cons_append,putAt,hst,tL p h hs]
theorem mK : ∀ (p : Path) {c d o : C} {x : Nat×Nat},c.sub p = some d→d.step x = some o→c.sub (p ++ [x]) = some o
 | [],c,d,o,x,h,hs=>by
  simp only [sub] at h
  injection h with h
  subst h
  simp [sub,hs]
 | q :: p,c,d,o,x,h,hs=>by
  simp only [sub] at h
  cases hst : c.step q with
  | none=>rw [hst] at h; cases h
  | some z =>
   rw [hst] at h
   simp only [List.cons_append,sub,hst,Option.bind_some]
   exact mK p h hs
theorem yb : ∀ (p q : Path) {c d : C},c.sub p = some d→c.sub (p ++ q) = d.sub q
 | [],q,c,d,h=>by simp only [sub] at h; injection h with h; subst h; rfl
 | x :: p,q,c,d,h=>by
  simp only [sub] at h
  cases hst : c.step x with
  | none=>rw [hst] at h; cases h
  | some z =>
   rw [hst] at h
   simp only [List.cons_append,sub,hst,Option.bind_some]
   exact yb p q h
theorem RO {c z : C} {x : Nat×Nat} (h : c.step x = some z) (y : C) : (c.aM x y).step x = some y:=by
 cases c with
 | row m sz A len cap e =>
  simp only [step] at h ⊢
  split at h
  ·rename_i hq; simp [aM,step,hq]
  ·cases h
 | ptr m g o n c =>
  simp only [step] at h ⊢
  split at h
  ·rename_i hq; simp [aM,step,hq,bq]
  ·cases h
 | agg n c =>
  simp only [step] at h ⊢
  split at h
  ·rename_i hq; simp [aM,step,hq,bq]
  ·cases h
 | au n c =>
  simp only [step] at h ⊢
  split at h
  ·rename_i hq; simp [aM,step,hq,bq]
  ·cases h
 | _=>simp [step] at h
theorem yd : ∀ (p : Path) {c d d' : C},c.sub p = some d→(putAt p c d').sub p = some d'
 | [],c,d,d',h=>rfl
 | q :: p,c,d,d',h=>by
  simp only [sub] at h
  cases hst : c.step q with
  | none=>rw [hst] at h; cases h
  | some z =>
   rw [hst] at h
   simp only [putAt,hst,sub,RO hst,Option.bind_some]
   exact yd p h
theorem Ga {sz g o len cap : Nat} {e : Nat→Nat→C} {i j : Nat} {y : C} (h : (C.row .own sz (some (g,o,none)) len cap e).ok w Z) (hi : i < len) (hj : j < sz) (hy : y.ok w Z) (hc : y.cell) (hs : y.bO)
  (hZ : ∀ m k,¬ Z m g k) (hd : ∀ b k,y.fp b k→¬ (C.row .own sz (some (g,o,none)) len cap e).fp b k) :
  ((C.row .own sz (some (g,o,none)) len cap e).aM (i,j) y).ok (w.setCell ⟨g,o + i * sz + j,none⟩ y.val) Z ∧
   ∀ b k,((C.row .own sz (some (g,o,none)) len cap e).aM (i,j) y).fp b k→(C.row .own sz (some (g,o,none)) len cap e).fp b k∨y.fp b k:=by
 have hE:=Ext.setCell w g (o + i * sz + j) y.val
 have rG : ∀ m b k,Z m b k→¬ (b = g∧k = o + i * sz + j):=fun m b k hz hh=>by
  obtain ⟨rfl,_⟩:=hh
  exact hZ m k hz
 have gD : ∀ i' j',i' < len→j' < sz→∀ b k,(e i' j').fp b k→b≠g:=fun i' j' hi' hj' b k hf hb=>by
  subst hb
  exact (h.2.2.2.2 i' j' hi' hj' b k hf).1 rfl o rfl
 have r8 : ∀ b k,y.fp b k→b≠g:=fun b k hf hb=>by
  subst hb
  exact hd b k hf ⟨rfl,.inl ⟨o,rfl⟩⟩
 obtain ⟨h1,h2,h3,h4,h5⟩:=h
 refine ⟨⟨h1,fun i' j' hi' hj'=>?_,fun i' j' hi' hj'=>?_,fun _=>?_,fun i' j' hi' hj' b k hf=>?_⟩,fun b k hf=>?_⟩
 ·obtain ⟨g',o',hA,hcell,hz⟩:=h2 i' j' hi' hj'
  injection hA with hA
  injection hA with e1 e2
  injection e2 with e2
  subst e1; subst e2
  refine ⟨g,o,rfl,?_,hz⟩
  show _ = some (if i' = i∧j' = j then y else e i' j').val
  by_cases hij : i' = i∧j' = j
  ·obtain ⟨rfl,rfl⟩:=hij
   rw [if_pos ⟨rfl,rfl⟩]
   exact Dq w g _ _ _ hcell
  ·rw [if_neg hij]
   refine hE.cell (fun hh=>hij ?_) hcell
   exact BS hj' hj (by omega)
 ·show (if i' = i∧j' = j then y else e i' j').cell∧(if i' = i∧j' = j then y else e i' j').bO∧(if i' = i∧j' = j then y else e i' j').fits .own∧(if i' = i∧j' = j then y else e i' j').ok _ Z
  by_cases hij : i' = i∧j' = j
  ·rw [if_pos hij]
   refine ⟨hc,hs,?_,dc hE rG _ (fun b k hf hh=>r8 b k hf hh.1) hy⟩
   cases y <;> first | trivial | exact .inl rfl
  ·rw [if_neg hij]
   obtain ⟨a1,a2,a3,a4⟩:=h3 i' j' hi' hj'
   exact ⟨a1,a2,a3,dc hE rG _ (fun b k hf hh=>gD i' j' hi' hj' b k hf hh.1) a4⟩
 ·rcases h4 rfl with h | ⟨g',o',arr,t,fz,hA,hh,hsz,hfr⟩
  ·exact .inl h
  ·injection hA with hA
   injection hA with e1 e2
   injection e2 with e2
   subst e1; subst e2
   have hg : g < w.heap.size:=(Array.getElem?_eq_some_iff.1 hh).1
   rcases hE.block g hg with e' | ⟨a1,a2,t',iE,e1,e2,e3,e4⟩
   ·exact .inr ⟨g,o,arr,t,fz,rfl,e'.trans hh,hsz,fun k hk hk'=>(hE.frozen hg).trans (hfr k hk hk')⟩
   ·rw [hh] at e1
    injection e1 with e1
    injection e1 with q1 q2 q3
    subst q1
    exact .inr ⟨g,o,a2,t',iE,rfl,e2,by omega,fun k hk hk'=>(hE.frozen hg).trans (hfr k hk hk')⟩
 ·have hf' : (if i' = i∧j' = j then y else e i' j').fp b k:=hf
  by_cases hij : i' = i∧j' = j
  ·rw [if_pos hij] at hf'
   refine ⟨fun _ o' hA=>?_,fun i2 j2 hi2 hj2 hne=>?_⟩
   ·injection hA with hA
    injection hA with e1 e2
    exact r8 b k hf' e1.symm
   ·show ¬ (if i2 = i∧j2 = j then y else e i2 j2).fp b k
    rw [if_neg (fun hh=>hne (by rw [hij.1,hij.2,hh.1,hh.2]))]
    intro hk
    exact hd b k hf' (gj (h3 i2 j2 hi2 hj2).1 (h3 i2 j2 hi2 hj2).2.2.1 hi2 hj2 hk)
  ·rw [if_neg hij] at hf'
   refine ⟨(h5 i' j' hi' hj' b k hf').1,fun i2 j2 hi2 hj2 hne=>?_⟩
   show ¬ (if i2 = i∧j2 = j then y else e i2 j2).fp b k
   by_cases rN : i2 = i∧j2 = j
   ·rw [if_pos rN]
    intro hk
    exact hd b k hk (gj (h3 i' j' hi' hj').1 (h3 i' j' hi' hj').2.2.1 hi' hj' hf')
   ·rw [if_neg rN]
    exact (h5 i' j' hi' hj' b k hf').2 i2 j2 hi2 hj2 hne
 ·obtain ⟨_,hf | ⟨i',j',hi',hj',hf⟩⟩:=hf
  ·exact .inl ⟨rfl,.inl hf⟩
  ·have hf' : (if i' = i∧j' = j then y else e i' j').fp b k:=hf
   by_cases hij : i' = i∧j' = j
   ·rw [if_pos hij] at hf'; exact .inr hf'
   ·rw [if_neg hij] at hf'
    exact .inl (gj (h3 i' j' hi' hj').1 (h3 i' j' hi' hj').2.2.1 hi' hj' hf')
theorem FY {g o n : Nat} {c : Nat→C} {j : Nat} {y : C} (h : (C.ptr .own g o n c).ok w Z) (hj : j < n) (hy : y.ok w Z) (hc : y.cell)
  (hZ : ∀ m k,o≤k→k < o + n→¬ Z m g k) (hd : ∀ b k,y.fp b k→¬ (C.ptr .own g o n c).fp b k) :
  ((C.ptr .own g o n c).aM (0,j) y).ok (w.setCell ⟨g,o + j,none⟩ y.val) Z ∧
   ∀ b k,((C.ptr .own g o n c).aM (0,j) y).fp b k→(C.ptr .own g o n c).fp b k∨y.fp b k:=by
 have hE:=Ext.setCell w g (o + j) y.val
 have rG : ∀ m b k,Z m b k→¬ (b = g∧k = o + j):=fun m b k hz hh=>by
  obtain ⟨rfl,rfl⟩:=hh
  exact hZ m _ (by omega) (by omega) hz
 have gD : ∀ j',j' < n→∀ b k,(c j').fp b k→¬ (b = g∧k = o + j):=fun j' hj' b k hf hb=>by
  exact (h.2.2.2 j' hj' b k hf).1 rfl ⟨hb.1,by omega,by omega⟩
 have r8 : ∀ b k,y.fp b k→¬ (b = g∧o≤k∧k < o + n):=fun b k hf hb=>hd b k hf ⟨rfl,.inl hb⟩
 obtain ⟨h1,h2,h3,h4⟩:=h
 refine ⟨⟨fun j' hj'=>?_,Nat.lt_of_lt_of_le h2 hE.size,fun j' hj'=>?_,fun j' hj' b k hf=>?_⟩,fun b k hf=>?_⟩
 ·obtain ⟨a1,a2,a3⟩:=h1 j' hj'
  refine ⟨?_,a2,fun hm=>(hE.frozen h2).trans (a3 hm)⟩
  simp only [bq]
  by_cases hij : j' = j
  ·subst hij
   rw [if_pos rfl]
   exact Dq w g _ _ _ a1
  ·rw [if_neg hij]
   exact hE.cell (fun hh=>hij (by omega)) a1
 ·simp only [bq]
  by_cases hij : j' = j
  ·rw [if_pos hij]
   refine ⟨hc,?_,dc hE rG _ (fun b k hf hh=>r8 b k hf ⟨hh.1,by omega,by omega⟩) hy⟩
   cases y <;> first | trivial | exact .inl rfl
  ·rw [if_neg hij]
   obtain ⟨a1,a3,a4⟩:=h3 j' hj'
   exact ⟨a1,a3,dc hE rG _ (fun b k hf hh=>gD j' hj' b k hf hh) a4⟩
 ·simp only [bq] at hf ⊢
  by_cases hij : j' = j
  ·rw [if_pos hij] at hf
   refine ⟨fun _ hA=>r8 b k hf hA,fun j2 hj2 hne=>?_⟩
   rw [if_neg (fun hh=>hne (by rw [hij,hh]))]
   intro hk
   exact hd b k hf (gF (h3 j2 hj2).1 (h3 j2 hj2).2.1 hj2 hk)
  ·rw [if_neg hij] at hf
   refine ⟨fun _=>(h4 j' hj' b k hf).1 rfl,fun j2 hj2 hne=>?_⟩
   by_cases rN : j2 = j
   ·rw [if_pos rN]
    intro hk
    exact hd b k hk (gF (h3 j' hj').1 (h3 j' hj').2.1 hj' hf)
   ·rw [if_neg rN]
    exact (h4 j' hj' b k hf).2 j2 hj2 hne
 ·obtain ⟨_,hf | ⟨j',hj',hf⟩⟩:=hf
  ·exact .inl ⟨rfl,.inl hf⟩
  ·simp only [bq] at hf
   by_cases hij : j' = j
   ·rw [if_pos hij] at hf; exact .inr hf
   ·rw [if_neg hij] at hf
    exact .inl (gF (h3 j' hj').1 (h3 j' hj').2.1 hj' hf)
end C
inductive cX (d : C) (i c : Nat) (y : C) : Nat→Nat→Prop where
 | row {sz g o len cap e} (h : d = .row .own sz (some (g,o,none)) len cap e) (hi : i < len) (hc : c < sz) (hs : y.bO) : cX d i c y g (o + i * sz + c)
 | ptr {g o n f} (h : d = .ptr .own g o n f) (hi : i = 0) (hc : c < n) : cX d i c y g (o + c)
theorem cX.off (f : Nat→Path→Bool) {d y : C} {i c g k : Nat} (h : cX d i c y g k) : cX (d.aj f) i c y g k:=by
 cases h with
 | row h hi hc hs=>subst h; exact .row rfl hi hc hs
 | ptr h hi hc=>subst h; exact .ptr rfl hi hc
theorem cX.aM {d y y0 z : C} {i c g k i' c' g' k' : Nat} (h : cX d i c y g k) (h' : cX d i' c' y0 g' k') : cX (d.aM (i,c) z) i' c' y0 g' k':=by
 cases h' with
 | row h' hi' gd hs'=>subst h'; exact .row rfl hi' gd hs'
 | ptr h' hi' gd=>subst h'; exact .ptr rfl hi' gd
namespace Inv
variable {w w' : World} {zl zb : Nat→Nat→Prop} {G : Nat→C} {s : ag}
theorem store (h : Inv w zl zb G s) (r : Nat) (p : Path) (i c : Nat) (d y : C) (g k : Nat) (hsub : (G r).sub p = some d) (hsp : cX d i c y g k) (hy : y.ok w (Zf zl zb)) (hcell : y.cell) (cj : y.rf G)
  (hsep : ∀ t b k,y.fp b k→¬ (G t).fp b k) (hfz : ∀ b k,y.fp b k→¬ zl b k∧¬ zb b k) :
  ∃ G',Inv (w.setCell ⟨g,k,none⟩ y.val) zl zb G' (setCell r p i c y.er s)∧(∀ t,(G' t).val = (G t).val)∧(∀ t b k,(G' t).fp b k→y.fp b k∨(G t).fp b k)∧d.fp g k∧(∃ v,w.cell? ⟨g,k,none⟩ = some v)∧w.frozen? ⟨g,k,none⟩ = false ∧
   (∀ c' : C,c'.rf G→(bif jU r p i c s then c'.aj (C.aX r (p ++ [(i,c)])) else c').rf G') ∧
   ∃ d',(G' r).sub p = some d'∧∀ i' c' y' g' k',cX d i' c' y' g' k'→cX d' i' c' y' g' k':=by
 have oV:=C.ew p hsub (h.ok r)
 obtain ⟨old,hold⟩ : ∃ old,d.step (i,c) = some old:=by
  cases hsp with
  | row hd hi hc hs=>subst hd; exact ⟨_,if_pos (And.intro hi hc)⟩
  | ptr hd hi hc=>subst hd; exact ⟨_,if_pos (And.intro hi hc)⟩
 have zW : d.fp g k:=by
  cases hsp with
  | row hd hi hc hs=>subst hd; exact ⟨rfl,.inl ⟨_,rfl⟩⟩
  | ptr hd hi hc=>subst hd; exact ⟨rfl,.inl ⟨rfl,by omega,by omega⟩⟩
 have eE : ∀ {b k},d.fp b k→(G r).fp b k:=fun hf=>C.dW p hsub (h.ok r) hf
 have vB : ∀ m b k,d.fp b k→¬ Zf zl zb m b k:=fun m b k hf hz=>h.qB r m b k hz (eE hf)
 have r6 : ∀ b k,y.fp b k→¬ d.fp b k:=fun b k hf hd=>hsep r b k hf (eE hd)
 have hnew : (d.aM (i,c) y).ok (w.setCell ⟨g,k,none⟩ y.val) (Zf zl zb)∧∀ b k,(d.aM (i,c) y).fp b k→d.fp b k∨y.fp b k:=by
  cases hsp with
  | row hd hi hc hs=>subst hd; exact C.Ga oV hi hc hy hcell hs (fun m k hz=>vB m _ k ⟨rfl,.inl ⟨_,rfl⟩⟩ hz) r6
  | ptr hd hi hc=>subst hd; subst hi; exact C.FY oV hc hy hcell (fun m k h1 h2 hz=>vB m _ k ⟨rfl,.inl ⟨rfl,h1,h2⟩⟩ hz) r6
 have hread : (∃ v,w.cell? ⟨g,k,none⟩ = some v)∧w.frozen? ⟨g,k,none⟩ = false:=by
  cases hsp with
  | row hd hi hc hs =>
   rename_i sz o len cap e
   subst hd
   obtain ⟨h1,h2,h3,h4,h5⟩:=oV
   obtain ⟨g',o',hA,hcl,_⟩:=h2 i c hi hc
   injection hA with hA
   injection hA with e1 e2
   injection e2 with e2
   subst e1; subst e2
   refine ⟨⟨_,hcl⟩,?_⟩
   rcases h4 rfl with ⟨hn,_⟩ | ⟨g',o',arr,t,fz,hA,hh,hsz,hfr⟩
   ·cases hn
   ·injection hA with hA
    injection hA with e1 e2
    injection e2 with e2
    subst e1; subst e2
    refine hfr _ (by omega) ?_
    have : (i + 1) * sz≤cap * sz:=Nat.mul_le_mul_right _ (by omega)
    rw [Nat.add_mul] at this
    omega
  | ptr hd hi hc =>
   subst hd
   obtain ⟨a1,_,a3⟩:=oV.1 c hc
   exact ⟨⟨_,a1⟩,a3 rfl⟩
 have hE:=Ext.setCell w g k y.val
 have hS : ∀ b i',b = g∧i' = k→d.fp b i'∨w.heap.size≤b:=fun b i' hh=>.inl (by rw [hh.1,hh.2]; exact zW)
 have hq:=C.mK p hsub hold
 have OI : look s r (p ++ [(i,c)]) = some old.er:=by simp only [look]; rw [← h.er,C.dV,hq]; rfl
 have like : ∀ (d : C) (y : C),C.ey d (d.aM (i,c) y)∨(∃ n f,d = .agg n f)∨(∃ n f,d = .au n f):=by
  intro d y
  cases d with
  | row=>exact .inl ⟨rfl,fun h=>h,fun h=>h,fun h=>h,fun _ h=>h⟩
  | ptr=>exact .inl ⟨rfl,fun h=>h,fun h=>h,fun h=>h,fun _ h=>h⟩
  | agg n f=>exact .inr (.inl ⟨n,f,rfl⟩)
  | au n f=>exact .inr (.inr ⟨n,f,rfl⟩)
  | _=>exact .inl ⟨rfl,fun h=>h,fun h=>h,fun h=>h,fun _ h=>h⟩
 have l7 : ∀ y,C.ey d (d.aM (i,c) y):=by
  intro y
  rcases like d y with hl | ⟨n,f,hd⟩ | ⟨n,f,hd⟩
  ·exact hl
  ·cases hsp with
   | row hd'=>rw [hd] at hd'; cases hd'
   | ptr hd'=>rw [hd] at hd'; cases hd'
  ·cases hsp with
   | row hd'=>rw [hd] at hd'; cases hd'
   | ptr hd'=>rw [hd] at hd'; cases hd'
 have o6 : jU r p i c s = old.er.eY:=by unfold jU; rw [OI]
 unfold setCell
 rw [o6]
 cases hr : old.er.eY with
 | false =>
  have hno : ∀ c' : C,c'.rf G→c'.free (C.aX r (p ++ [(i,c)])):=by
   intro c'
   have none : ∀ (q : Path) (z : C),X.pfx (p ++ [(i,c)]) q = true→(G r).sub q = some z→(∀ m sz A len cap e,z≠.row m sz A len cap e)∧∀ m g o n f,z≠.ptr m g o n f:=by
    intro q z hp hz
    obtain ⟨q',rfl⟩:=BR _ _ hp
    rw [C.yb _ _ hq] at hz
    cases q' with
    | nil =>
     simp only [C.sub] at hz
     injection hz with hz
     subst hz
     constructor
     ·intro m sz A len cap e e'; rw [e'] at hr; simp [C.er,X.eY] at hr
     ·intro m g o n f e'; rw [e'] at hr; simp [C.er,X.eY] at hr
    | cons x q' =>
     cases old <;> first | (simp [C.er,X.eY] at hr; done) | (simp [C.sub,C.step] at hz; done)
   induction c' with
   | ref v r' q =>
    intro cj
    obtain ⟨y,z,hs,hF,hv,m,sz,A,len,cap,e,rfl⟩:=cj
    simp only [C.free,C.aX]
    cases hk : (r' == r && X.pfx (p ++ [(i,c)]) q) with
    | false=>rfl
    | true =>
     simp only [Bool.and_eq_true,beq_iff_eq] at hk
     obtain ⟨rfl,hk⟩:=hk
     cases hF
     exact ((none q _ hk hs).1 _ _ _ _ _ _ rfl).elim
   | az v r' q i' c' =>
    intro cj
    obtain ⟨y,hs,hy⟩:=cj
    simp only [C.free,C.aX]
    cases hk : (r' == r && X.pfx (p ++ [(i,c)]) q) with
    | false=>rfl
    | true =>
     simp only [Bool.and_eq_true,beq_iff_eq] at hk
     obtain ⟨rfl,hk⟩:=hk
     rcases hy with ⟨m,sz,g,o,len,cap,e,rfl,hv⟩ | ⟨m,g,o,n,cc,rfl,hv⟩
     ·exact ((none q _ hk hs).1 _ _ _ _ _ _ rfl).elim
     ·exact ((none q _ hk hs).2 _ _ _ _ _ rfl).elim
   | cut v r' q lo hi =>
    intro cj
    obtain ⟨m,sz,A,len,cap,e,A',cap',hs,_⟩:=cj
    simp only [C.free,C.aX]
    cases hk : (r' == r && X.pfx (p ++ [(i,c)]) q) with
    | false=>rfl
    | true =>
     simp only [Bool.and_eq_true,beq_iff_eq] at hk
     obtain ⟨rfl,hk⟩:=hk
     exact ((none q _ hk hs).1 _ _ _ _ _ _ rfl).elim
   | ptr m g o n f ih=>exact fun cj j hj=>ih j (cj j hj)
   | agg n f ih=>exact fun cj j hj=>ih j (cj j hj)
   | au n f ih=>exact fun cj j hj=>ih j (cj j hj)
   | fn _ n f ih=>exact fun cj j hj=>ih j (cj j hj)
   | _=>exact fun _=>trivial
  obtain ⟨⟨i1,i2,i3⟩,i4⟩:=h.xY r p (p ++ [(i,c)]) d (d.aM (i,c) y) y (C.tL p hsub hold) (fun t=>hno _ (h.rf t)) hE hsub hS hnew.1 (l7 y) cj (hno _ cj)
   (fun b k hf=>(hnew.2 b k hf).imp id fun hf=>⟨fun t=>hsep t b k hf,hfz b k hf⟩)
  refine ⟨_,i1,i2,fun t b k hf=>?_,zW,hread.1,hread.2,fun c' hr=>i4 c' (hno c' hr) hr,_,by rw [cv]; exact C.yd p hsub,fun i' c' y' g' k' hs=>cX.aM hsp hs⟩
  rcases i3 t b k hf with ⟨ht,hf'⟩ | hf'
  ·subst ht; exact (hnew.2 b k hf').symm.imp id eE
  ·exact .inr hf'
 | true =>
  have h1:=h.kill r (p ++ [(i,c)])
  let f:=C.aX r (p ++ [(i,c)])
  have Al : ((G r).aj f).sub p = some (d.aj f):=C.fu f p _ _ (h.ok r) hsub
  have OR : (d.aj f).step (i,c) = some (old.aj f):=by
   have:=C.fu f [(i,c)] d old oV (by simp [C.sub,hold])
   simpa [C.sub] using this
  have hval : ∀ b k,(y.aj f).fp b k↔y.fp b k:=fun b k=>C.bN f y b k
  have hnew1 : ((d.aj f).aM (i,c) (y.aj f)).ok (w.setCell ⟨g,k,none⟩ y.val) (Zf zl zb)∧∀ b k,((d.aj f).aM (i,c) (y.aj f)).fp b k→(d.aj f).fp b k∨(y.aj f).fp b k:=by
   have Ff : ∀ b k,(y.aj f).fp b k→¬ (d.aj f).fp b k:=fun b k hf hd=>r6 b k ((hval b k).1 hf) ((C.bN f d b k).1 hd)
   have ER:=C.iL f d oV
   have hy1:=C.iL f y hy
   have hc1:=C.xE f y hcell
   rw [← C.fy f y]
   cases hsp with
   | row hd hi hc hs =>
    subst hd
    have e1 : C.aj f y = y:=C.qc f y hs
    exact C.Ga ER hi hc hy1 hc1 (by rw [e1]; exact hs) (fun m k hz=>vB m _ k ⟨rfl,.inl ⟨_,rfl⟩⟩ hz) Ff
   | ptr hd hi hc =>
    subst hd; subst hi
    exact C.FY ER hc hy1 hc1 (fun m k h1 h2 hz=>vB m _ k ⟨rfl,.inl ⟨rfl,h1,h2⟩⟩ hz) Ff
  have OH : C.ey (d.aj f) ((d.aj f).aM (i,c) (y.aj f)):=by
   rcases like (d.aj f) (y.aj f) with hl | ⟨n,f',hd⟩ | ⟨n,f',hd⟩
   ·exact hl
   ·cases hsp with
    | row hd'=>rw [hd'] at hd; cases hd
    | ptr hd'=>rw [hd'] at hd; cases hd
   ·cases hsp with
    | row hd'=>rw [hd'] at hd; cases hd
    | ptr hd'=>rw [hd'] at hd; cases hd
  have O2 : (y.aj f).rf fun t=>(G t).aj f:=C.iq f (fun s' q z hk hs=>by
   rcases C.self z _ q hs with ⟨z',dH,hs'⟩ | hno
   ·exact .inl ⟨_,dH.off f,C.fu f q _ _ (h.ok s') hs'⟩
   ·exact .inr hno) _ (C.dQ f _) (C.jr f _ cj)
  obtain ⟨⟨i1,i2,i3⟩,i4⟩:=h1.xY r p (p ++ [(i,c)]) (d.aj f) _ (y.aj f) (C.tL p Al OR) (fun t=>C.dQ _ _) hE Al (fun b k hh=>(hS b k hh).imp (fun hh=>(C.bN f d b k).2 hh) id) hnew1.1 OH O2 (C.dQ _ _)
   (fun b k hf=>(hnew1.2 b k hf).imp id fun hf=>⟨fun t hf'=>hsep t b k ((hval b k).1 hf) ((C.bN f _ b k).1 hf'),hfz b k ((hval b k).1 hf)⟩)
  rw [C.jS] at i1
  refine ⟨_,i1,fun t=>(i2 t).trans (C.fy f _),fun t b k hf=>?_,zW,hread.1,hread.2,fun c' hr=>i4 _ (C.dQ f c') (C.iq f (fun s' q z hk hs=>by
   rcases C.self z _ q hs with ⟨z',dH,hs'⟩ | hno
   ·exact .inl ⟨_,dH.off f,C.fu f q _ _ (h.ok s') hs'⟩
   ·exact .inr hno) _ (C.dQ f _) (C.jr f _ hr)),_,by rw [cv]; exact C.yd p Al,fun i' c' y' g' k' hs=>cX.aM (cX.off f hsp) (cX.off f hs)⟩
  rcases i3 t b k hf with ⟨ht,hf'⟩ | hf'
  ·subst ht
   rcases hnew1.2 b k hf' with hf' | hf'
   ·exact .inr (eE ((C.bN f d b k).1 hf'))
   ·exact .inl ((hval b k).1 hf')
  ·exact .inr ((C.bN f _ b k).1 hf')
end Inv
end M
namespace M
open Go Go.RowKit
structure Ctx where
 w0 : World
 F0 : Nat→Nat→Prop
 kg : Nat→Nat→Prop
 zb : Nat→Nat→Prop
 nt : Nat
 args : List Value
abbrev base : Nat:=100000
structure Tr [B : Bs] (c : Ctx) (w : World) (zl : Nat→Nat→Prop) (G : Nat→C) : Prop where
 ext : Ext c.F0 c.w0 w
 dom : ∀ t b k,(G t).fp b k→c.F0 b k∨c.w0.heap.size≤b
 kg : ∀ b k,c.kg b k→zl b k
 zl : ∀ b k,zl b k→c.kg b k∨c.F0 b k∨c.w0.heap.size≤b
 gl : kn c.w0 c.kg c.zb
 rC : ∀ b k,b < B.W0.heap.size→¬ c.F0 b k
structure St [Bs] (c : Ctx) (G : Nat→C) (zl : Nat→Nat→Prop) (s : ag) (a : Act) (w : World) : Prop where
 inv : Inv w zl c.zb G s
 val : ∀ t,t < base→(G t).val = a.tmps.getD t undef
 size : a.tmps.size = c.nt
 small : c.nt≤base
 defers : a.defers = []
 tr : Tr c w zl G
 args : ∀ i v,c.args[i]? = some v→(G (base + i)).val = v
namespace C
def e9 (n : Nat) (p : Path) : C→C
 | .row .own sz A len cap e=>.ref (C.row .own sz A len cap e).val n p
 | .ptr .own g o m c=>.az (C.ptr .own g o m c).val n p 0 0
 | x=>x
def ei (n : Nat) (p : Path) : C→C
 | .agg m c=>.agg m fun j=>(c j).e9 n (p ++ [(0,j)])
 | x=>x.e9 n p
def alias (n : Nat) (p : Path) : C→C
 | .au m c=>.au m fun j=>(c j).ei n (p ++ [(0,j)])
 | x=>x.ei n p
theorem yy (n : Nat) (p : Path) (c : C) : (c.e9 n p).er = M.e9 n p c.er:=by
 cases c with
 | row m=>cases m <;> rfl
 | ptr m=>cases m <;> rfl
 | _=>rfl
theorem oy (n : Nat) (p : Path) (i : Nat) : ∀ (l : List Nat) (k : Nat) (f : Nat→C),l = (List.range l.length).map (· + k)→M.mR n p i k (l.map fun j=>(f j).er) = l.map fun j=>((f j).e9 n (p ++ [(i,j)])).er
 | [],k,f,h=>rfl
 | x :: l,k,f,h=>by
  have hx : x = k:=by
   simp only [List.length_cons,List.range_succ_eq_map,List.map_cons,Nat.zero_add] at h
   exact (List.cons.inj h).1
  have hl : l = (List.range l.length).map (· + (k + 1)):=by
   simp only [List.length_cons,List.range_succ_eq_map,List.map_cons,Nat.zero_add,List.map_map] at h
   have:=(List.cons.inj h).2
   rw [this]
   simp only [List.length_map,List.length_range]
   apply List.map_congr_left
   intro j _
   show j + 1 + k = j + (k + 1)
   omega
  simp only [List.map_cons,M.mR]
  rw [oy n p i l (k + 1) f hl,yy,hx]
theorem F2 (m : Nat) : List.range m = (List.range (List.range m).length).map (· + 0):=by simp
theorem uN (n : Nat) (p : Path) (c : C) : (c.ei n p).er = M.ei n p c.er:=by
 cases c with
 | agg m c =>
  simp only [ei,er,M.ei]
  rw [oy n p 0 (List.range m) 0 c (F2 m)]
 | row m=>exact yy n p _
 | ptr m=>exact yy n p _
 | _=>rfl
theorem CQ (n : Nat) (p : Path) : ∀ (l : List Nat) (k : Nat) (f : Nat→C),l = (List.range l.length).map (· + k)→M.qN n p k (l.map fun j=>(f j).er) = l.map fun j=>((f j).ei n (p ++ [(0,j)])).er
 | [],k,f,h=>rfl
 | x :: l,k,f,h=>by
  have hx : x = k:=by
   simp only [List.length_cons,List.range_succ_eq_map,List.map_cons,Nat.zero_add] at h
   exact (List.cons.inj h).1
  have hl : l = (List.range l.length).map (· + (k + 1)):=by
   simp only [List.length_cons,List.range_succ_eq_map,List.map_cons,Nat.zero_add,List.map_map] at h
   have:=(List.cons.inj h).2
   rw [this]
   simp only [List.length_map,List.length_range]
   apply List.map_congr_left
   intro j _
   show j + 1 + k = j + (k + 1)
   omega
  simp only [List.map_cons,M.qN]
  rw [CQ n p l (k + 1) f hl,uN,hx]
theorem CS (n : Nat) (p : Path) (c : C) : (c.alias n p).er = M.alias n p c.er:=by
 cases c with
 | au m c =>
  simp only [alias,er,M.alias]
  rw [CQ n p (List.range m) 0 c (F2 m)]
 | row m sz A len cap e=>exact uN n p (.row m sz A len cap e)
 | ptr m g o k c=>exact uN n p (.ptr m g o k c)
 | agg m c=>exact uN n p (.agg m c)
 | _=>rfl
theorem qM (n : Nat) (p : Path) (c : C) : (c.e9 n p).val = c.val:=by
 cases c with
 | row m=>cases m <;> rfl
 | ptr m=>cases m <;> rfl
 | _=>rfl
theorem uO (n : Nat) (p : Path) (c : C) : (c.ei n p).val = c.val:=by
 cases c with
 | agg m c=>simp only [ei,val]; congr 2; exact List.map_congr_left fun j _=>qM _ _ _
 | row m=>exact qM n p _
 | ptr m=>exact qM n p _
 | _=>rfl
theorem CT (n : Nat) (p : Path) (c : C) : (c.alias n p).val = c.val:=by
 cases c with
 | au m c=>simp only [alias,val]; congr 2; exact List.map_congr_left fun j _=>uO _ _ _
 | row m sz A len cap e=>exact uO n p (.row m sz A len cap e)
 | ptr m g o k c=>exact uO n p (.ptr m g o k c)
 | agg m c=>exact uO n p (.agg m c)
 | _=>rfl
variable {w : World} {Z : Md→Nat→Nat→Prop} {G : Nat→C}
theorem qJ (n : Nat) (p : Path) (c : C) (hc : (∀ m f,c≠.agg m f)∧∀ m f,c≠.au m f) (b k : Nat) : ¬ (c.e9 n p).fp b k:=by
 cases c with
 | row m=>cases m <;> first | exact fun h=>h | exact fun h=>by cases h.1
 | ptr m=>cases m <;> first | exact fun h=>h | exact fun h=>by cases h.1
 | agg m f=>exact (hc.1 m f rfl).elim
 | au m f=>exact (hc.2 m f rfl).elim
 | _=>exact fun h=>h
theorem yW {c : C} (h : c.cell) : (∀ m f,c≠.agg m f)∧∀ m f,c≠.au m f:=by
 constructor <;> (intro m f e; subst e; exact h)
theorem qK (n : Nat) (p : Path) (c : C) (h : c.ok w Z) : (c.e9 n p).ok w Z:=by
 cases c with
 | row m=>cases m <;> first | trivial | exact h
 | ptr m=>cases m <;> first | trivial | exact h
 | _=>exact h
theorem yx (n : Nat) (p : Path) (c : C) (h : c.cell) : (c.e9 n p).cell:=by
 cases c with
 | row m=>cases m <;> first | rfl | exact h
 | ptr m=>cases m <;> first | rfl | exact h
 | _=>exact h
theorem qL (n : Nat) (p : Path) (c : C) (hs : (G n).sub p = some c) (h : c.rf G) : (c.e9 n p).rf G:=by
 cases c with
 | row m sz A len cap e=>cases m <;> first | exact ⟨_,_,hs,.row .own .own sz A len cap e e,rfl,_,_,_,_,_,_,rfl⟩ | trivial
 | ptr m g o k c=>cases m <;> first | exact ⟨_,hs,.inr ⟨_,_,_,_,_,rfl,rfl,by simp [val]⟩⟩ | exact h
 | _=>exact h
theorem FG {n : Nat} {f : Nat→C} (h : ∀ j,j < n→∀ b k,¬ (f j).fp b k) : ∀ j,j < n→∀ b k,(f j).fp b k→∀ j',j' < n→j≠j'→¬ (f j').fp b k:=fun j hj b k hf=>(h j hj b k hf).elim
theorem uM (n : Nat) (p : Path) (c : C) (hnt : ∀ m f,c≠.au m f) (hs : (G n).sub p = some c) (ho : c.ok w Z) (hr : c.rf G) : (c.ei n p).ok w Z∧(c.ei n p).rf G∧∀ b k,¬ (c.ei n p).fp b k:=by
 cases c with
 | agg m f =>
  have bp : ∀ j,j < m→∀ b k,¬ ((f j).e9 n (p ++ [(0,j)])).fp b k:=fun j hj=>qJ _ _ _ (yW (ho.1 j hj).1)
  refine ⟨⟨fun j hj=>⟨yx _ _ _ (ho.1 j hj).1,qK _ _ _ (ho.1 j hj).2⟩,FG bp⟩,fun j hj=>qL _ _ _ ?_ (hr j hj),fun b k ⟨j,hj,hf⟩=>bp j hj b k hf⟩
  exact mK p hs (by simp [step,hj])
 | au m f=>exact (hnt m f rfl).elim
 | row m sz A len cap e=>exact ⟨qK n p _ ho,qL n p _ hs hr,qJ n p _ ⟨fun _ _ e=>(by cases e),fun _ _ e=>(by cases e)⟩⟩
 | ptr m g o k c=>exact ⟨qK n p _ ho,qL n p _ hs hr,qJ n p _ ⟨fun _ _ e=>(by cases e),fun _ _ e=>(by cases e)⟩⟩
 | _=>exact ⟨ho,hr,fun b k hf=>hf⟩
theorem Iy (n : Nat) (p : Path) (c : C) (h : c.dJ) : (c.ei n p).dJ:=by
 cases c with
 | au=>exact h.elim
 | row m=>cases m <;> trivial
 | ptr m=>cases m <;> trivial
 | _=>trivial
theorem CR (n : Nat) (c : C) (hs : G n = c) (ho : c.ok w Z) (hr : c.rf G) : (c.alias n []).ok w Z∧(c.alias n []).rf G∧∀ b k,¬ (c.alias n []).fp b k:=by
 have hs' : (G n).sub [] = some c:=by rw [hs]; rfl
 cases c with
 | au m f =>
  have key : ∀ j,j < m→((f j).ei n ([] ++ [(0,j)])).ok w Z∧((f j).ei n ([] ++ [(0,j)])).rf G∧∀ b k,¬ ((f j).ei n ([] ++ [(0,j)])).fp b k:=fun j hj =>
   uM n _ (f j) (fun m' f' e=>by have:=(ho.1 j hj).1; rw [e] at this; exact this) (mK [] hs' (by simp [step,hj])) (ho.1 j hj).2 (hr j hj)
  refine ⟨⟨fun j hj=>⟨?_,(key j hj).1⟩,FG fun j hj=>(key j hj).2.2⟩,fun j hj=>(key j hj).2.1,fun b k ⟨j,hj,hf⟩=>(key j hj).2.2 b k hf⟩
  exact Iy _ _ _ (ho.1 j hj).1
 | row m sz A len cap e=>exact uM n [] _ (fun _ _ e=>(by cases e)) hs' ho hr
 | ptr m g o k c=>exact uM n [] _ (fun _ _ e=>(by cases e)) hs' ho hr
 | agg m c=>exact uM n [] _ (fun _ _ e=>(by cases e)) hs' ho hr
 | _=>exact ⟨ho,hr,fun b k hf=>hf⟩
end C
end M
namespace M
open Go Go.RowKit
variable [Bs]
namespace C
def plain : C→Prop
 | .dead v=>v.oneCell' = true
 | .int _ _=>True
 | .bool _=>True
 | .str _=>True
 | .row _ _ _ _ _ _=>True
 | _=>False
theorem ic {c : C} (h : c.plain) : c.cell:=by cases c <;> first | exact h | exact h.elim
theorem tI {c : C} (h : c.plain) : c.bO:=by cases c <;> first | exact h | exact h.elim | trivial
theorem jV {c : C} (h : c.plain) (G : Nat→C) : c.rf G:=by cases c <;> first | exact h.elim | trivial
theorem BU {c : C} (h : c.plain) (t : Nat→Path→Bool) : c.aj t = c:=qc t c (tI h)
theorem Qe (t : Nat→Path→Bool) (v : Value) (s : Nat) (q : Path) (x : Nat×Nat) : (C.aj t (.ref v s q)).step x = none:=by simp only [aj]; cases t s q <;> rfl
theorem Qa (t : Nat→Path→Bool) (v : Value) (s : Nat) (q : Path) (i c : Nat) (x : Nat×Nat) : (C.aj t (.az v s q i c)).step x = none:=by simp only [aj]; cases t s q <;> rfl
theorem Qb (t : Nat→Path→Bool) (v : Value) (s : Nat) (q : Path) (i c : Nat) (x : Nat×Nat) : (C.aj t (.cut v s q i c)).step x = none:=by simp only [aj]; cases t s q <;> rfl
theorem Gu {c z : C} {x : Nat×Nat} (h : c.step x = some z) (y : C) : (c.aM x y).step x = some y:=by
 cases c with
 | row m sz A len cap e =>
  simp only [step] at h ⊢
  split at h
  ·rename_i hq; simp [aM,step,hq]
  ·cases h
 | ptr m g o n c =>
  simp only [step] at h ⊢
  split at h
  ·rename_i hq; simp [aM,step,hq,bq]
  ·cases h
 | agg n c =>
  simp only [step] at h ⊢
  split at h
  ·rename_i hq; simp [aM,step,hq,bq]
  ·cases h
 | au n c =>
  simp only [step] at h ⊢
  split at h
  ·rename_i hq; simp [aM,step,hq,bq]
  ·cases h
 | _=>simp [step] at h
theorem Gy : ∀ (p q : Path) (c d y : C),c.sub p = some d→(putAt p c (.dead d.val)).sub q = some y→∃ y',c.sub q = some y'∧y'.val = y.val∧(y'.plain→y.plain)
 | [],[],c,d,y,h,hy=>by
  simp only [sub] at h
  injection h with h
  subst h
  simp only [putAt,sub] at hy
  injection hy with hy
  subst hy
  exact ⟨_,rfl,rfl,fun hp=>Inv.lP (ic hp)⟩
 | [],q :: t,c,d,y,h,hy=>by simp [putAt,sub,step] at hy
 | x :: p,[],c,d,y,h,hy=>by
  simp only [sub] at h
  cases hst : c.step x with
  | none=>rw [hst] at h; cases h
  | some z =>
   rw [hst] at h
   simp only [putAt,hst,sub] at hy
   injection hy with hy
   subst hy
   have hv:=(FM p z d h)
   exact ⟨c,rfl,((ey.aM c x z _ hst hv).val).symm,fun hp=>by cases c <;> first | exact hp.elim | trivial | (simp [step] at hst)⟩
 | x :: p,q :: t,c,d,y,h,hy=>by
  simp only [sub] at h
  cases hst : c.step x with
  | none=>rw [hst] at h; cases h
  | some z =>
   rw [hst] at h
   simp only [putAt,hst] at hy
   simp only [sub] at hy ⊢
   by_cases rZ : x = q
   ·subst rZ
    rw [hst]
    have hs : (c.aM x (putAt p z (.dead d.val))).step x = some (putAt p z (.dead d.val)):=Gu hst _
    rw [hs] at hy
    exact Gy p t z d y h hy
   ·have hs : (c.aM x (putAt p z (.dead d.val))).step q = c.step q:=by
     cases c with
     | row m sz A len cap e =>
      simp only [step,aM]
      split
      ·rw [if_neg]
       intro hh
       exact rZ (by cases x; cases q; simp only at hh; rw [hh.1,hh.2])
      ·rfl
     | ptr m g o n c =>
      simp only [step] at hst
      split at hst
      ·rename_i hx
       simp only [step,aM,bq]
       split
       ·rename_i hq
        rw [if_neg]
        intro hh
        exact rZ (by cases x; cases q; simp only at hh hx hq; rw [hh,hx.1,hq.1])
       ·rfl
      ·cases hst
     | agg n c =>
      simp only [step] at hst
      split at hst
      ·rename_i hx
       simp only [step,aM,bq]
       split
       ·rename_i hq
        rw [if_neg]
        intro hh
        exact rZ (by cases x; cases q; simp only at hh hx hq; rw [hh,hx.1,hq.1])
       ·rfl
      ·cases hst
     | au n c =>
      simp only [step] at hst
      split at hst
      ·rename_i hx
       simp only [step,aM,bq]
       split
       ·rename_i hq
        rw [if_neg]
        intro hh
        exact rZ (by cases x; cases q; simp only at hh hx hq; rw [hh,hx.1,hq.1])
       ·rfl
      ·cases hst
     | _=>simp [step] at hst
    rw [hs] at hy
    cases hq : c.step q with
    | none=>rw [hq] at hy; cases hy
    | some z'=>rw [hq] at hy; exact ⟨y,hy,rfl,fun hp=>hp⟩
where
 FM : ∀ (p : Path) (z d : C),z.sub p = some d→(putAt p z (.dead d.val)).val = z.val
  | [],z,d,h=>by simp only [sub] at h; injection h with h; subst h; rfl
  | x :: p,z,d,h=>by
   simp only [sub] at h
   cases hst : z.step x with
   | none=>rw [hst] at h; cases h
   | some z' =>
    rw [hst] at h
    simp only [putAt,hst]
    exact (ey.aM z x z' _ hst (FM p z' d h)).val
end C
structure di (w : World) (zl zb : Nat→Nat→Prop) (G : Nat→C) (c : C) (G' : Nat→C) (s' : ag) : Prop where
 inv : Inv w zl zb G' s'
 ok : c.ok w (Zf zl zb)
 rf : c.rf G'
 sep : ∀ t b k,c.fp b k→¬ (G' t).fp b k
 fz : ∀ b k,c.fp b k→¬ zl b k∧¬ zb b k
 val : ∀ t,(G' t).val = (G t).val
 dom : ∀ b k,c.fp b k→∃ t,(G t).fp b k
 mono : ∀ t b k,(G' t).fp b k→(G t).fp b k
variable {w : World} {zl zb : Nat→Nat→Prop} {G : Nat→C} {s : ag}
theorem di.self (h : Inv w zl zb G s) {c : C} (ho : c.ok w (Zf zl zb)) (hr : c.rf G) (hn : ∀ b k,¬ c.fp b k) : di w zl zb G c G s :=
 ⟨h,ho,hr,fun t b k hf=>(hn b k hf).elim,fun b k hf=>(hn b k hf).elim,fun _=>rfl,fun b k hf=>(hn b k hf).elim,fun _ _ _ hf=>hf⟩
def weak (G : Nat→C) (v : Value) (r : Nat) (p : Path) : Prop:=∀ y,(G r).sub p = some y→y.val = v∧y.plain
theorem uv {v : Value} {r : Nat} {p : Path} (h : (C.ref v r p).rf G) : weak G v r p:=by
 obtain ⟨y,z,hs,hF,hv,m,sz,A,len,cap,e,rfl⟩:=h
 intro y' hy'
 rw [hs] at hy'
 injection hy' with hy'
 subst hy'
 cases hF
 exact ⟨hv,trivial⟩
theorem FF (h : Inv w zl zb G s) {v : Value} {r : Nat} {p : Path} (hw : weak G v r p) (hv : v.oneCell' = true) :
  ∃ c G',c.er = (move r p s).1∧c.val = v∧c.plain∧di w zl zb G c G' (move r p s).2∧∀ v' r' p',weak G v' r' p'→weak G' v' r' p':=by
 unfold move look
 rw [← h.er,C.dV]
 cases hs : (G r).sub p with
 | none=>exact ⟨.dead v,G,rfl,rfl,hv,di.self h trivial trivial (fun _ _ hf=>hf),fun _ _ _ hh=>hh⟩
 | some y =>
  obtain ⟨jR,hyp⟩:=hw y hs
  have h1:=h.kill r p
  have hs1 : ((G r).aj (C.aX r p)).sub p = some (y.aj (C.aX r p)):=C.fu _ p _ _ (h.ok r) hs
  rw [C.BU hyp] at hs1
  have kL:=C.ew p hs (h.ok r)
  obtain ⟨⟨i1,i2,i3⟩,_⟩:=h1.Gh r p y (.dead y.val) (S:=fun _ _=>False) (fun t=>C.dQ _ _) (Ext.refl _ _) hs1 (fun _ _ hf=>hf.elim) trivial (Inv.xw _) trivial trivial (fun _ _ hf=>hf.elim)
  refine ⟨y,_,?_,jR,hyp,⟨i1,kL,C.jV hyp _,?_,fun b k hf=>h.fz r b k (C.dW p hs (h.ok r) hf),fun t=>(i2 t).trans (C.fy _ _),fun b k hf=>⟨r,C.dW p hs (h.ok r) hf⟩,fun t b k hf=>?_⟩,fun v' r' p' hw' y' hy'=>?_⟩
  ·show y.er = y.er.kill r p
   rw [← C.jS,C.BU hyp]
  ·intro t b k hf hf'
   have Ar:=C.dW p hs (h.ok r) hf
   by_cases e : t = r
   ·subst e
    rw [cv] at hf'
    obtain ⟨_,j2,_⟩:=C.tC (fun _ _ _ h=>h) (Ext.refl (fun _ _=>False) w) (fun m b k _ hs=>hs) p ((G t).aj (C.aX t p)) y (.dead y.val) (h1.ok t) hs1 trivial (Inv.xw _) (fun _ _ hs=>hs.elim) (fun _ _ hs=>hs.elim)
    rcases j2 b k hf' with hh | ⟨_,hn⟩
    ·exact hh
    ·exact hn hf
   ·rw [cm _ _ e,C.bN] at hf'
    exact h.sep r t (fun e'=>e e'.symm) b k Ar hf'
  ·rcases i3 t b k hf with ⟨_,hh⟩ | hh
   ·exact hh.elim
   ·rwa [C.bN] at hh
  ·by_cases e : r' = r
   ·subst e
    rw [cv] at hy'
    obtain ⟨y1,a1,a2,a3⟩:=C.Gy p p' _ _ _ hs1 hy'
    obtain ⟨y2,b1,b2,b3⟩:=FK (C.aX r' p) p' _ (h.ok r') a1
    obtain ⟨c1,c2⟩:=hw' y2 b1
    exact ⟨by rw [← a2,← b2,c1],a3 (b3 c2)⟩
   ·rw [cm _ _ e] at hy'
    obtain ⟨y2,b1,b2,b3⟩:=FK (C.aX r p) p' _ (h.ok r') hy'
    obtain ⟨c1,c2⟩:=hw' y2 b1
    exact ⟨by rw [← b2,c1],b3 c2⟩
where
 FK (t : Nat→Path→Bool) : ∀ (q : Path) (c : C) {y : C},c.ok w (Zf zl zb)→(c.aj t).sub q = some y→∃ y',c.sub q = some y'∧y'.val = y.val∧(y'.plain→y.plain):=by
  intro q c y ho hy
  cases hc : c.sub q with
  | some y' =>
   have:=C.fu t q c y' ho hc
   rw [hy] at this
   injection this with this
   subst this
   exact ⟨y',rfl,(C.fy _ _).symm,fun hp=>by rw [C.BU hp]; exact hp⟩
  | none =>
   exfalso
   induction q generalizing c with
   | nil=>simp [C.sub] at hc
   | cons x q ih =>
    simp only [C.sub] at hc hy
    have hstep : ∀ z,(c.aj t).step x = some z→∃ z',c.step x = some z'∧z'.aj t = z:=by
     intro z hz
     cases c with
     | row m sz A len cap e =>
      simp only [C.aj,C.step] at hz ⊢
      split at hz
      ·rename_i hq
       injection hz with hz
       rw [if_pos hq]
       exact ⟨_,rfl,by rw [← hz]; exact C.qc t _ (ho.2.2.1 _ _ hq.1 hq.2).2.1⟩
      ·cases hz
     | ptr m g o n c =>
      simp only [C.aj,C.step] at hz ⊢
      split at hz
      ·rename_i hq
       injection hz with hz
       rw [if_pos hq]
       exact ⟨_,rfl,hz⟩
      ·cases hz
     | agg n c =>
      simp only [C.aj,C.step] at hz ⊢
      split at hz
      ·rename_i hq
       injection hz with hz
       rw [if_pos hq]
       exact ⟨_,rfl,hz⟩
      ·cases hz
     | au n c =>
      simp only [C.aj,C.step] at hz ⊢
      split at hz
      ·rename_i hq
       injection hz with hz
       rw [if_pos hq]
       exact ⟨_,rfl,hz⟩
      ·cases hz
     | ref v s q=>rw [C.Qe] at hz; cases hz
     | az v s q i c=>rw [C.Qa] at hz; cases hz
     | cut v s q i c=>rw [C.Qb] at hz; cases hz
     | _=>simp [C.aj,C.step] at hz
    cases hz : (c.aj t).step x with
    | none=>rw [hz] at hy; cases hy
    | some z =>
     rw [hz] at hy
     obtain ⟨z',dH,e⟩:=hstep z hz
     rw [dH] at hc
     subst e
     exact ih z' (C.oc dH ho) hy hc
end M
namespace M
open Go Go.RowKit
variable [Bs]
variable {w : World} {zl zb : Nat→Nat→Prop} {G : Nat→C} {s : ag}
structure qG (w : World) (zl zb : Nat→Nat→Prop) (G : Nat→C) (c : C) : Prop where
 cell : c.cell
 ok : c.ok w (Zf zl zb)
 bW : ∀ b k,¬ c.fp b k
 weak : ∀ v r p,c = .ref v r p→weak G v r p
structure aV (w : World) (zl zb : Nat→Nat→Prop) (G : Nat→C) (l' : List C) (G' : Nat→C) (s' : ag) : Prop where
 inv : Inv w zl zb G' s'
 all : ∀ c∈l',c.ok w (Zf zl zb)∧(∀ t b k,c.fp b k→¬ (G' t).fp b k)∧(∀ b k,c.fp b k→¬ zl b k∧¬ zb b k)∧∀ b k,c.fp b k→∃ t,(G t).fp b k
 apart : l'.Pairwise fun a b=>∀ x k,a.fp x k→¬ b.fp x k
 val : ∀ t,(G' t).val = (G t).val
 mono : ∀ t b k,(G' t).fp b k→(G t).fp b k
theorem aV.cons {c : C} {G1 G' : Nat→C} {s1 s' : ag} {l' : List C} (h : di w zl zb G c G1 s1) (hl : aV w zl zb G1 l' G' s') : aV w zl zb G (c :: l') G' s' where
 inv:=hl.inv
 all:=fun x hx=>by
  rcases List.mem_cons.1 hx with rfl | hx
  ·exact ⟨h.ok,fun t b k hf hf'=>h.sep t b k hf (hl.mono t b k hf'),h.fz,h.dom⟩
  ·obtain ⟨a1,a2,a3,a4⟩:=hl.all x hx
   exact ⟨a1,a2,a3,fun b k hf=>by obtain ⟨t,ht⟩:=a4 b k hf; exact ⟨t,h.mono t b k ht⟩⟩
 apart:=List.pairwise_cons.2 ⟨fun x hx b k hf hf'=>by
  obtain ⟨t,ht⟩:=(hl.all x hx).2.2.2 b k hf'
  exact h.sep t b k hf ht,hl.apart⟩
 val:=fun t=>(hl.val t).trans (h.val t)
 mono:=fun t b k hf=>h.mono t b k (hl.mono t b k hf)
theorem aV.nil (h : Inv w zl zb G s) : aV w zl zb G [] G s:=⟨h,fun _ hx=>(by cases hx),List.Pairwise.nil,fun _=>rfl,fun _ _ _ hf=>hf⟩
theorem val_one {c : C} (h : c.cell) : c.val.oneCell' = true:=Inv.lP h
theorem uq : ∀ (l : List C) (G : Nat→C) (s : ag),Inv w zl zb G s→(∀ c∈l,qG w zl zb G c) →
  ∃ l' G',l'.map C.er = (bk (l.map C.er) s).1∧l'.map C.val = l.map C.val∧(∀ c∈l',c.plain)∧aV w zl zb G l' G' (bk (l.map C.er) s).2∧∀ v' r' p',weak G v' r' p'→weak G' v' r' p'
 | [],G,s,h,hc=>⟨[],G,rfl,rfl,fun _ hx=>(by cases hx),aV.nil h,fun _ _ _ hh=>hh⟩
 | c :: l,G,s,h,hc=>by
  have h0:=hc c (List.mem_cons_self ..)
  have hl0 : ∀ x∈l,qG w zl zb G x:=fun x hx=>hc x (List.mem_cons_of_mem _ hx)
  have fA : ∀ d : C,d.plain→d.val = c.val→d.er = (bk (c.er :: l.map C.er) s).1.headD .dead→(bk (c.er :: l.map C.er) s).2 = (bk (l.map C.er) s).2→(bk (c.er :: l.map C.er) s).1.tail = (bk (l.map C.er) s).1→(bk (c.er :: l.map C.er) s).1≠[]→d.ok w (Zf zl zb)→(∀ b k,¬ d.fp b k) →
    ∃ l' G',l'.map C.er = (bk ((c :: l).map C.er) s).1∧l'.map C.val = (c :: l).map C.val∧(∀ c∈l',c.plain)∧aV w zl zb G l' G' (bk ((c :: l).map C.er) s).2∧∀ v' r' p',weak G v' r' p'→weak G' v' r' p':=by
   intro d hp hv he h2 h3 h4 ho hn
   obtain ⟨l',G',e1,e2,e3,e4,e5⟩:=uq l G s h hl0
   refine ⟨d :: l',G',?_,?_,?_,?_,e5⟩
   ·simp only [List.map_cons]
    rw [he,e1,← h3]
    cases hh : (bk (c.er :: l.map C.er) s).1 with
    | nil=>exact (h4 hh).elim
    | cons a t=>rfl
   ·simp only [List.map_cons,hv,e2]
   ·intro x hx
    rcases List.mem_cons.1 hx with rfl | hx
    ·exact hp
    ·exact e3 x hx
   ·simp only [List.map_cons]
    rw [h2]
    exact aV.cons (di.self h ho (C.jV hp G) hn) e4
  have dead : ∀ v,v = c.val→C.plain (.dead v):=fun v hv=>by subst hv; exact val_one h0.cell
  cases c with
  | ref v r p =>
   obtain ⟨c',G1,f1,f2,f3,f4,f5⟩:=FF h (h0.weak v r p rfl) h0.cell
   obtain ⟨l',G',e1,e2,e3,e4,e5⟩:=uq l G1 (move r p s).2 f4.inv (fun x hx=>by
    obtain ⟨a1,a2,a3,a4⟩:=hl0 x hx
    exact ⟨a1,a2,a3,fun v' r' p' e=>f5 _ _ _ (a4 v' r' p' e)⟩)
   refine ⟨c' :: l',G',?_,?_,?_,aV.cons f4 e4,fun _ _ _ hh=>e5 _ _ _ (f5 _ _ _ hh)⟩
   ·simp only [List.map_cons,C.er,bk]; rw [f1,e1]
   ·simp only [List.map_cons,f2,e2]; rfl
   ·intro x hx
    rcases List.mem_cons.1 hx with rfl | hx
    ·exact f3
    ·exact e3 x hx
  | az v r p i k=>exact fA (.dead v) (dead v rfl) rfl rfl rfl rfl (by simp [bk,C.er]) trivial (fun _ _ h=>h)
  | cut v r p i k=>exact fA (.dead v) (dead v rfl) rfl rfl rfl rfl (by simp [bk,C.er]) trivial (fun _ _ h=>h)
  | fn f n g=>exact fA (.dead _) (dead _ rfl) rfl rfl rfl rfl (by simp [bk,C.er]) trivial (fun _ _ h=>h)
  | ptr m g o n f=>exact fA (.dead _) (dead _ rfl) rfl rfl rfl rfl (by simp [bk,C.er]) trivial (fun _ _ h=>h)
  | agg n f=>exact h0.cell.elim
  | au n f=>exact h0.cell.elim
  | dead v=>exact fA (.dead v) (dead v rfl) rfl rfl rfl rfl (by simp [bk,C.er]) trivial (fun _ _ h=>h)
  | int k n=>exact fA (.int k n) trivial rfl rfl rfl rfl (by simp [bk,C.er]) trivial (fun _ _ h=>h)
  | bool b=>exact fA (.bool b) trivial rfl rfl rfl rfl (by simp [bk,C.er]) trivial (fun _ _ h=>h)
  | str t=>exact fA (.str t) trivial rfl rfl rfl rfl (by simp [bk,C.er]) h0.ok (fun _ _ h=>h)
  | row m sz A len cap e=>exact fA (.row m sz A len cap e) trivial rfl rfl rfl rfl (by simp [bk,C.er]) h0.ok h0.bW
def dZ (l : List C) : C:=.agg l.length fun j=>l.getD j (.dead undef)
theorem iN {α β : Type} (l : List α) (d : α) (f : α→β) : ((List.range l.length).map fun j=>f (l.getD j d)) = l.map f:=by
 apply List.ext_getElem?
 intro i
 rw [C.cg,List.getElem?_map]
 by_cases h : i < l.length
 ·rw [if_pos h,List.getElem?_eq_getElem h]
  simp [List.getD_eq_getElem?_getD,List.getElem?_eq_getElem h]
 ·rw [if_neg h,List.getElem?_eq_none (by omega)]; rfl
theorem ox (l : List C) : (dZ l).er = .agg (l.map C.er):=by simp only [dZ,C.er,iN]
theorem qI (l : List C) : (dZ l).val = .agg (l.map C.val).toArray:=by simp only [dZ,C.val,iN]
theorem bQ {α : Type} {l : List α} {j : Nat} (h : j < l.length) (d : α) : l.getD j d∈l:=by
 rw [List.getD_eq_getElem?_getD,List.getElem?_eq_getElem h]
 exact List.getElem_mem h
theorem qg {l : List C} (h : l.Pairwise fun a b=>∀ x k,a.fp x k→¬ b.fp x k) (d : C) {i j : Nat} (hi : i < l.length) (hj : j < l.length) (hne : i≠j) {b k : Nat} (hf : (l.getD i d).fp b k) : ¬ (l.getD j d).fp b k:=by
 rw [List.getD_eq_getElem?_getD,List.getElem?_eq_getElem hi] at hf
 rw [List.getD_eq_getElem?_getD,List.getElem?_eq_getElem hj]
 rcases Nat.lt_or_gt_of_ne hne with hlt | hlt
 ·exact List.pairwise_iff_getElem.1 h i j hi hj hlt b k hf
 ·exact fun hf'=>List.pairwise_iff_getElem.1 h j i hj hi hlt b k hf' hf
theorem lG (l : List C) (b k : Nat) : (dZ l).fp b k↔∃ c∈l,c.fp b k:=by
 constructor
 ·rintro ⟨j,hj,hf⟩
  exact ⟨_,bQ hj _,hf⟩
 ·rintro ⟨c,hc,hf⟩
  obtain ⟨j,hj,rfl⟩:=List.getElem_of_mem hc
  refine ⟨j,hj,?_⟩
  show (l.getD j (C.dead undef)).fp b k
  rw [List.getD_eq_getElem?_getD,List.getElem?_eq_getElem hj]
  exact hf
def C.flat (c : C) : Prop:=c.plain∨∃ l : List C,c = dZ l∧∀ x∈l,x.plain
structure cI (w : World) (zl zb : Nat→Nat→Prop) (G : Nat→C) (c : C) : Prop where
 ok : c.ok w (Zf zl zb)
 rf : c.rf G
 bW : ∀ b k,¬ c.fp b k
theorem B1 {v : Value} {r : Nat} {p : Path} (h : (C.ref v r p).rf G) : v.oneCell' = true:=by
 obtain ⟨y,z,hs,hF,hv,m,sz,A,len,cap,e,rfl⟩:=h
 cases hF
 rw [← hv]
 rfl
theorem DH {Z : Md→Nat→Nat→Prop} {sz : Nat} {A A' : Option Ad} {len cap lo hi cap' : Nat} {e : Nat→Nat→C} (h : (C.row .own sz A len cap e).ok w Z) (hlo : lo≤hi) (hhi : hi≤len) (hcap : hi - lo≤cap')
  (hc : lo + cap' = cap) (hA : (A' = A∧cap' = 0)∨A' = A.map fun q=>fF (lo * sz) q) :
  (C.row .own sz A' (hi - lo) cap' fun i j=>e (i + lo) j).ok w Z∧(∀ b k,(C.row .own sz A' (hi - lo) cap' fun i j=>e (i + lo) j).fp b k→(C.row .own sz A len cap e).fp b k) ∧
   (C.row .own sz A' (hi - lo) cap' fun i j=>e (i + lo) j).er = .row .own sz ((((List.range len).map fun i=>(List.range sz).map fun j=>(e i j).er).take hi).drop lo):=by
 obtain ⟨h1,h2,h3,h4,h5⟩:=h
 have hb : ∀ b o,A' = some (b,o,none)→∃ o',A = some (b,o',none):=fun b o ho=>by
  rcases hA with ⟨hA,_⟩ | hA
  ·exact ⟨o,by rw [← hA,ho]⟩
  ·cases A with
   | none=>rw [hA] at ho; cases ho
   | some q =>
    rcases h4 rfl with ⟨q1,_⟩ | ⟨g,o',_,_,_,q1,_⟩
    ·cases q1
    ·rw [hA,q1,Option.map_some,ko] at ho
     injection ho with ho
     injection ho with ho _
     exact ⟨o',by rw [q1,ho]⟩
 have hlt : hi - lo≠0→A' = A.map fun q=>fF (lo * sz) q:=fun hne=>hA.elim (fun ⟨_,h0⟩=>(by omega)) id
 refine ⟨⟨hcap,fun i j hi' hj=>?_,fun i j hi' hj=>h3 (i + lo) j (by omega) hj,fun _=>?_,fun i j hi' hj b k hf=>?_⟩,fun b k hf=>?_,?_⟩
 ·obtain ⟨g,o,q1,q2,q3⟩:=h2 (i + lo) j (by omega) hj
  refine ⟨g,o + lo * sz,by rw [hlt (by omega),q1,Option.map_some,ko],?_,fun hm=>(hm rfl).elim⟩
  rw [show o + lo * sz + i * sz + j = o + (i + lo) * sz + j by rw [Nat.add_mul]; omega]
  exact q2
 ·rcases h4 rfl with ⟨q1,q2⟩ | ⟨g,o,arr,t,fz,q1,q2,q3,q4⟩
  ·refine .inl ⟨?_,by omega⟩
   rcases hA with ⟨hA,_⟩ | hA <;> rw [hA,q1]
   rfl
  ·refine .inr ?_
   rcases hA with ⟨hA,h0⟩ | hA
   ·exact ⟨g,o,arr,t,fz,by rw [hA,q1],q2,by rw [h0]; omega,fun k hk1 hk2=>by rw [h0] at hk2; omega⟩
   ·have hm : lo * sz + cap' * sz = cap * sz:=by rw [← Nat.add_mul,hc]
    exact ⟨g,o + lo * sz,arr,t,fz,by rw [hA,q1,Option.map_some,ko],q2,by omega,fun k hk1 hk2=>q4 k (by omega) (by omega)⟩
 ·obtain ⟨a1,a2⟩:=h5 (i + lo) j (by omega) hj b k hf
  refine ⟨fun _ o ho=>?_,fun i' j' hi2 hj2 hne=>a2 (i' + lo) j' (by omega) hj2 (fun e=>hne ?_)⟩
  ·obtain ⟨o',ho'⟩:=hb b o ho
   exact a1 rfl o' ho'
  ·injection e with e1 e2
   rw [e2,show i = i' by omega]
 ·obtain ⟨_,⟨o,ho⟩ | ⟨i,j,hi',hj,hf⟩⟩:=hf
  ·obtain ⟨o',ho'⟩:=hb b o ho
   exact ⟨rfl,.inl ⟨o',ho'⟩⟩
  ·exact ⟨rfl,.inr ⟨i + lo,j,by omega,hj,hf⟩⟩
 ·simp only [C.er,← List.map_take,← List.map_drop,List.take_range]
  rw [Nat.min_eq_left hhi]
  congr 1
  apply List.ext_getElem?
  intro i
  rw [C.cg,List.getElem?_map,List.getElem?_drop]
  by_cases hh : i < hi - lo
  ·rw [if_pos hh,List.getElem?_range (by omega),Nat.add_comm]
   rfl
  ·rw [if_neg hh,List.getElem?_eq_none (by simp; omega)]
   rfl
theorem P3 (h : Inv w zl zb G s) {v : Value} {r : Nat} {p : Path} {lo hi : Nat} (hr : (C.cut v r p lo hi).rf G) :
  ∃ c G',c.er = (tw r p lo hi s).1∧c.val = v∧((C.cut v r p lo hi).cell→c.cell)∧di w zl zb G c G' (tw r p lo hi s).2:=by
 have hr':=hr
 obtain ⟨m,sz,A,len,cap,e,A',cap',hs,hv,hlo,hhi,hcap,ff,hc,NS⟩:=hr
 unfold tw look
 rw [← h.er,C.dV,hs]
 cases m with
 | own =>
  obtain ⟨c,G',c1,c2,c3,c4,c5,c6,c7,c8,c9,yI,yJ,c12⟩:=h.od r p _ hs
  obtain rfl:=c7 trivial
  obtain ⟨i1,i2,i3⟩:=DH c4 hlo hhi hcap hc NS
  refine ⟨.row .own sz A' (hi - lo) cap' fun i j=>e (i + lo) j,G',i3,?_,fun _=>trivial,⟨c3,i1,trivial,fun t b k hf=>c8 t b k (i2 b k hf),fun b k hf=>h.fz r b k (c9 b k (i2 b k hf)),yI,fun b k hf=>⟨r,c9 b k (i2 b k hf)⟩,yJ⟩⟩
  rw [hv]; rfl
 | sl=>exact ⟨.cut v r p lo hi,G,rfl,rfl,fun hh=>hh,di.self h trivial hr' fun _ _ hh=>hh⟩
 | af=>exact ⟨.cut v r p lo hi,G,rfl,rfl,fun hh=>hh,di.self h trivial hr' fun _ _ hh=>hh⟩
theorem P2 (h : Inv w zl zb G s) {v : Value} {r : Nat} {p : Path} {i j : Nat} (hr : (C.az v r p i j).rf G) :
  ∃ c G',c.er = (xA r p i j s).1∧c.val = v∧((C.az v r p i j).cell→c.cell)∧di w zl zb G c G' (xA r p i j s).2:=by
 have same : ∃ c G',c.er = X.az r p i j∧c.val = v∧((C.az v r p i j).cell→c.cell)∧di w zl zb G c G' s:=⟨.az v r p i j,G,rfl,rfl,fun hh=>hh,di.self h trivial hr fun _ _ hh=>hh⟩
 obtain ⟨y,hs,hy⟩:=hr
 unfold xA look
 rw [← h.er,C.dV,hs]
 rcases hy with ⟨m,sz,g,o,len,cap,e,rfl,hv⟩ | ⟨m,g,o,n,cc,rfl,hi,hv⟩
 ·exact same
 ·cases m with
  | own =>
   show ∃ c G',c.er = (bif i == 0 && j == 0 then _ else _ : X×ag).1∧_∧_∧di w zl zb G c G' (bif i == 0 && j == 0 then _ else _ : X×ag).2
   cases hij : (i == 0 && j == 0) with
   | false=>exact same
   | true =>
    simp only [Bool.and_eq_true,beq_iff_eq] at hij
    obtain ⟨rfl,rfl⟩:=hij
    obtain ⟨c,G',c1,c2,c3,c4,c5,c6,c7,c8,c9,yI,yJ,c12⟩:=h.od r p _ hs
    exact ⟨c,G',c1,by rw [c2,hv]; rfl,fun _=>c6.2 trivial,⟨c3,c4,c5,c8,fun b k hf=>h.fz r b k (c9 b k hf),yI,fun b k hf=>⟨r,c9 b k hf⟩,yJ⟩⟩
  | sl=>exact same
  | af=>exact same
theorem lB (tk : Tk) (h : Inv w zl zb G s) {c0 : C} (ho : cI w zl zb G c0) :
  ∃ c G',c.er = (take tk c0.er s).1∧c.val = c0.val∧(c0.cell→c.cell)∧di w zl zb G c G' (take tk c0.er s).2:=by
 have same : (take tk c0.er s) = (c0.er,s)→∃ c G',c.er = (take tk c0.er s).1∧c.val = c0.val∧(c0.cell→c.cell)∧di w zl zb G c G' (take tk c0.er s).2:=fun e=>by
  rw [e]
  exact ⟨c0,G,rfl,rfl,fun h=>h,di.self h ho.ok ho.rf ho.bW⟩
 cases c0 with
 | ref v r p =>
  have nq : ∃ c G',c.er = (move r p s).1∧c.val = v∧((C.ref v r p).cell→c.cell)∧di w zl zb G c G' (move r p s).2:=by
   obtain ⟨c',G1,f1,f2,f3,f4,f5⟩:=FF h (uv ho.rf) (B1 ho.rf)
   exact ⟨c',G1,f1,f2,fun _=>C.ic f3,f4⟩
  cases tk with
  | mv=>exact nq
  | al=>exact same rfl
  | bJ=>cases p with
   | nil=>exact nq
   | cons q p=>exact same rfl
 | cut v r p lo hi =>
  have nq:=P3 h ho.rf
  cases tk with
  | mv=>exact nq
  | al=>exact same rfl
  | bJ=>cases p with
   | nil=>exact nq
   | cons q p=>exact same rfl
 | az v r p i j =>
  cases tk with
  | mv=>exact P2 h ho.rf
  | al=>exact same rfl
  | bJ=>exact same rfl
 | agg n f =>
  cases tk with
  | mv =>
   have hcells : ∀ c∈(List.range n).map f,qG w zl zb G c:=fun c hc=>by
    obtain ⟨j,hj,rfl⟩:=List.mem_map.1 hc
    have hj' : j < n:=by simpa using hj
    exact ⟨(ho.ok.1 j hj').1,(ho.ok.1 j hj').2,fun b k hf=>ho.bW b k ⟨j,hj',hf⟩,fun v r p e=>uv (by rw [← e]; exact ho.rf j hj')⟩
   obtain ⟨l',G',e1,e2,e3,e4,e5⟩:=uq _ G s h hcells
   have er : (C.agg n f).er = .agg (((List.range n).map f).map C.er):=by simp only [C.er,List.map_map]; rfl
   rw [er]
   show ∃ c G',c.er = X.agg (bk _ s).1∧_∧_∧di w zl zb G c G' (bk _ s).2
   refine ⟨dZ l',G',by rw [ox,e1],?_,fun hc=>hc.elim,⟨e4.inv,⟨fun j hj=>⟨C.ic (e3 _ (bQ hj _)),(e4.all _ (bQ hj _)).1⟩,fun j hj b k hf j' hj' hne=>qg e4.apart _ hj hj' hne hf⟩,fun j hj=>C.jV (e3 _ (bQ hj _)) _,?_,?_,e4.val,?_,e4.mono⟩⟩
   ·rw [qI,e2]; simp only [C.val,List.map_map]; rfl
   ·intro t b k hf hf'
    obtain ⟨c,hc,hf⟩:=(lG _ _ _).1 hf
    exact (e4.all c hc).2.1 t b k hf hf'
   ·intro b k hf
    obtain ⟨c,hc,hf⟩:=(lG _ _ _).1 hf
    exact (e4.all c hc).2.2.1 b k hf
   ·intro b k hf
    obtain ⟨c,hc,hf⟩:=(lG _ _ _).1 hf
    exact (e4.all c hc).2.2.2 b k hf
  | al=>exact same rfl
  | bJ=>exact same rfl
 | _=>exact same (by cases tk <;> rfl)
theorem FP {c : Ctx} {zl : Nat→Nat→Prop} {a : Act} (h : St c G zl s a w) (n : Nat) : ((G n).alias n []).er = ai s (.t n)∧((G n).alias n []).val = (G n).val∧cI w zl c.zb G ((G n).alias n []):=by
 obtain ⟨a1,a2,a3⟩:=C.CR n (G n) rfl (h.inv.ok n) (h.inv.rf n)
 refine ⟨?_,C.CT _ _ _,⟨a1,a2,a3⟩⟩
 rw [C.CS,h.inv.er]
 rfl
end M
namespace M
open Go Go.RowKit
variable [Bs]
namespace C
variable {w : World} {Z : Md→Nat→Nat→Prop}
def ld : C→Prop
 | .row m _ _ _ _ _=>m = .own
 | .ptr m _ _ _ _=>m = .own
 | .agg _ _=>True
 | .au _ _=>True
 | _=>False
theorem Qi {d0 y : C} {q : Nat×Nat} {v : Value} (h : d0.ok w Z) (hq : d0.step q = some (.dead v)) (ho : d0.ld) (hp : y.plain) (hv : y.val = v) (hy : y.ok w Z) (hsep : ∀ b k,y.fp b k→¬ d0.fp b k) :
  (d0.aM q y).ok w Z∧∀ b k,(d0.aM q y).fp b k→d0.fp b k∨y.fp b k:=by
 have hc:=ic hp
 have hs:=tI hp
 have hnt : y.dJ:=by cases y <;> first | trivial | exact hp.elim
 have agg : ∀ (n : Nat) (f : Nat→C) (pr : C→Prop),(∀ j,j < n→pr (f j)∧(f j).ok w Z)→pr y→(∀ j,j < n→∀ b k,(f j).fp b k→∀ j',j' < n→j≠j'→¬ (f j').fp b k)→(∀ b k,y.fp b k→¬ ∃ j,j < n∧(f j).fp b k) →
   ((∀ j,j < n→pr (bq f q.2 y j)∧(bq f q.2 y j).ok w Z)∧(∀ j,j < n→∀ b k,(bq f q.2 y j).fp b k→∀ j',j' < n→j≠j'→¬ (bq f q.2 y j').fp b k))∧∀ b k,(∃ j,j < n∧(bq f q.2 y j).fp b k)→(∃ j,j < n∧(f j).fp b k)∨y.fp b k:=by
  intro n f pr h1 OU h2 h3
  refine ⟨⟨fun j hj=>?_,fun j hj b k hf j' hj' hne=>?_⟩,fun b k ⟨j,hj,hf⟩=>?_⟩
  ·unfold bq; split
   ·exact ⟨OU,hy⟩
   ·exact h1 j hj
  ·unfold bq at hf ⊢
   split at hf
   ·rename_i e
    rw [if_neg (fun e'=>hne (e.trans e'.symm))]
    exact fun hf'=>h3 b k hf ⟨j',hj',hf'⟩
   ·split
    ·exact fun hf'=>h3 b k hf' ⟨j,hj,hf⟩
    ·exact h2 j hj b k hf j' hj' hne
  ·unfold bq at hf
   split at hf
   ·exact .inr hf
   ·exact .inl ⟨j,hj,hf⟩
 have Us : ∀ (n : Nat) (f : Nat→C) (j : Nat),q.2 < n→f q.2 = .dead v→(bq f q.2 y j).val = (f j).val:=by
  intro n f j _ hf
  unfold bq; split
  ·rename_i e; rw [e,hf,hv]; rfl
  ·rfl
 cases d0 with
 | row m sz A len cap e =>
  obtain rfl : m = .own:=ho
  simp only [step] at hq
  split at hq
  ·rename_i hlt
   injection hq with hq
   obtain ⟨h1,h2,h3,h4,h5⟩:=h
   have gD : ∀ i j,i < len→j < sz→∀ b k,(e i j).fp b k→(C.row .own sz A len cap e).fp b k:=fun i j hi hj b k hf=>⟨rfl,.inr ⟨i,j,hi,hj,hf⟩⟩
   refine ⟨⟨h1,fun i j hi hj=>?_,fun i j hi hj=>?_,h4,fun i j hi hj b k hf=>?_⟩,fun b k hf=>?_⟩
   ·obtain ⟨g,o,a1,a2,a3⟩:=h2 i j hi hj
    refine ⟨g,o,a1,?_,a3⟩
    rw [a2]
    show _ = some (if i = q.1∧j = q.2 then y else e i j).val
    split
    ·rename_i hh; rw [hh.1,hh.2,hq,hv]; rfl
    ·rfl
   ·show (if i = q.1∧j = q.2 then y else e i j).cell∧(if i = q.1∧j = q.2 then y else e i j).bO∧(if i = q.1∧j = q.2 then y else e i j).fits .own∧(if i = q.1∧j = q.2 then y else e i j).ok w Z
    split
    ·exact ⟨hc,hs,by cases y <;> first | trivial | exact .inl rfl,hy⟩
    ·exact h3 i j hi hj
   ·have hf : (if i = q.1∧j = q.2 then y else e i j).fp b k:=hf
    refine ⟨fun hm o hA=>?_,fun i' j' hi' hj' hne hf'=>?_⟩
    ·split at hf
     ·exact hsep b k hf ⟨rfl,.inl ⟨o,hA⟩⟩
     ·exact (h5 i j hi hj b k hf).1 hm o hA
    ·have hf' : (if i' = q.1∧j' = q.2 then y else e i' j').fp b k:=hf'
     split at hf
     ·rename_i e1
      split at hf'
      ·rename_i e2
       exact hne (by rw [e1.1,e1.2,e2.1,e2.2])
      ·exact hsep b k hf (gD i' j' hi' hj' b k hf')
     ·split at hf'
      ·exact hsep b k hf' (gD i j hi hj b k hf)
      ·exact (h5 i j hi hj b k hf).2 i' j' hi' hj' hne hf'
   ·obtain ⟨hm,hA | ⟨i,j,hi,hj,hf⟩⟩:=hf
    ·exact .inl ⟨rfl,.inl hA⟩
    ·have hf : (if i = q.1∧j = q.2 then y else e i j).fp b k:=hf
     split at hf
     ·exact .inr hf
     ·exact .inl (gD i j hi hj b k hf)
  ·cases hq
 | ptr m g o n f =>
  obtain rfl : m = .own:=ho
  simp only [step] at hq
  split at hq
  ·rename_i hlt
   injection hq with hq
   obtain ⟨h1,h2,h3,h4⟩:=h
   obtain ⟨⟨a1,a2⟩,a3⟩:=agg n f (fun c=>c.cell∧c.fits .own) (fun j hj=>⟨⟨(h3 j hj).1,(h3 j hj).2.1⟩,(h3 j hj).2.2⟩) ⟨hc,by cases y <;> first | trivial | exact .inl rfl⟩ (fun j hj b k hf j' hj' hne=>(h4 j hj b k hf).2 j' hj' hne) (fun b k hf ⟨j,hj,hf'⟩=>hsep b k hf ⟨rfl,.inr ⟨j,hj,hf'⟩⟩)
   refine ⟨⟨fun j hj=>?_,h2,fun j hj=>⟨(a1 j hj).1.1,(a1 j hj).1.2,(a1 j hj).2⟩,fun j hj b k hf=>⟨fun hm hh=>?_,fun j' hj' hne=>a2 j hj b k hf j' hj' hne⟩⟩,fun b k hf=>?_⟩
   ·rw [Us n f j hlt.2 hq]
    exact h1 j hj
   ·have hf : (bq f q.2 y j).fp b k:=hf
    unfold bq at hf
    split at hf
    ·exact hsep b k hf ⟨rfl,.inl hh⟩
    ·exact (h4 j hj b k hf).1 hm hh
   ·obtain ⟨_,hh | hh⟩:=hf
    ·exact .inl ⟨rfl,.inl hh⟩
    ·exact (a3 b k hh).imp (fun hh=>⟨rfl,.inr hh⟩) id
  ·cases hq
 | agg n f =>
  obtain ⟨a1,a2⟩:=agg n f C.cell h.1 hc h.2 hsep
  exact ⟨a1,a2⟩
 | au n f =>
  obtain ⟨a1,a2⟩:=agg n f C.dJ h.1 hnt h.2 hsep
  exact ⟨a1,a2⟩
 | _=>exact ho.elim
end C
namespace Inv
variable {w : World} {zl zb : Nat→Nat→Prop} {G : Nat→C} {s : ag}
theorem qX {r : Nat} {P : Path} {v : Value} (hd : (G r).sub P = some (.dead v)) : ∀ c : C,c.rf G→c.free (C.aX r P)
 | .ref v' r' q,hr=>by
  obtain ⟨y,z,hs,hF,_⟩:=hr
  exact out hs (by cases hF <;> rfl)
 | .az v' r' q i c,hr=>by
  obtain ⟨y,hs,hy⟩:=hr
  exact out hs (by rcases hy with ⟨m,sz,g,o,len,cap,e,rfl,hv⟩ | ⟨m,g,o,n,cc,rfl,hi,hv⟩ <;> rfl)
 | .cut v' r' q lo hi,hr=>by
  obtain ⟨m,sz,A,len,cap,e,A',cap',hs,_⟩:=hr
  exact out hs rfl
 | .ptr m g o n c,hr=>fun j hj=>qX hd (c j) (hr j hj)
 | .agg n c,hr=>fun j hj=>qX hd (c j) (hr j hj)
 | .au n c,hr=>fun j hj=>qX hd (c j) (hr j hj)
 | .fn f n c,hr=>fun j hj=>qX hd (c j) (hr j hj)
 | .dead _,_=>trivial
 | .int _ _,_=>trivial
 | .bool _,_=>trivial
 | .str _,_=>trivial
 | .row _ _ _ _ _ _,_=>trivial
where
 out {r' : Nat} {q : Path} {y : C} (hs : (G r').sub q = some y) (hy : y.er.eY = true) : C.aX r P r' q = false:=by
  unfold C.aX
  cases h1 : (r' == r) with
  | false=>rfl
  | true =>
   cases h2 : X.pfx P q with
   | false=>rfl
   | true =>
    exfalso
    have h1 : r' = r:=by simpa using h1
    subst h1
    obtain ⟨t,rfl⟩:=BR P q h2
    rw [C.yb P t hd] at hs
    cases t with
    | nil=>simp only [C.sub] at hs; injection hs with hs; subst hs; simp [C.er,X.eY] at hy
    | cons x t=>simp [C.sub,C.step] at hs
theorem NL (h : Inv w zl zb G s) {r : Nat} {p0 : Path} {q : Nat×Nat} {d0 y : C} {v : Value} (h0 : (G r).sub p0 = some d0) (hq : d0.step q = some (.dead v)) (ho : d0.ld) (hp : y.plain) (hv : y.val = v) (hok : y.ok w (Zf zl zb))
  (hsep : ∀ t b k,y.fp b k→¬ (G t).fp b k) (hfz : ∀ b k,y.fp b k→¬ zl b k∧¬ zb b k) :
  ∃ G',G' = dr G r (C.putAt p0 (G r) (d0.aM q y))∧Inv w zl zb G' ((r,X.putAt (p0 ++ [q]) (get s r) y.er) :: s)∧(∀ t,(G' t).val = (G t).val)∧∀ t b k,(G' t).fp b k→(G t).fp b k∨y.fp b k:=by
 have hd0:=C.ew p0 h0 (h.ok r)
 have hin : ∀ b k,d0.fp b k→(G r).fp b k:=fun b k hf=>C.dW p0 h0 (h.ok r) hf
 obtain ⟨a1,a2⟩:=C.Qi hd0 hq ho hp hv hok (fun b k hf hf'=>hsep r b k hf (hin b k hf'))
 have vD : (G r).sub (p0 ++ [q]) = some (.dead v):=C.mK p0 h0 hq
 obtain ⟨⟨i1,i2,i3⟩,_⟩:=h.xY r p0 (p0 ++ [q]) d0 (d0.aM q y) y (S:=fun _ _=>False) (C.tL p0 h0 hq) (fun t=>qX vD (G t) (h.rf t)) (Ext.refl _ _) h0 (fun _ _ hf=>hf.elim) a1 (C.ey.aM d0 q (.dead v) y hq (by rw [hv]; rfl)) (C.jV hp G) (by
  cases y <;> first | trivial | exact hp.elim) (fun b k hf=>(a2 b k hf).imp id fun hf=>⟨fun t=>hsep t b k hf,hfz b k hf⟩)
 refine ⟨_,rfl,i1,i2,fun t b k hf=>?_⟩
 rcases i3 t b k hf with ⟨e,eH⟩ | eH
 ·rw [e]; exact (a2 b k eH).imp (hin b k) id
 ·exact .inl eH
end Inv
end M
namespace M
open Go Go.RowKit
variable [Bs]
namespace C
theorem GN : ∀ (P : Path) {c d y : C},c.sub P = some d→y.val = d.val→(putAt P c y).val = c.val
 | [],c,d,y,h,hv=>by simp only [sub] at h; injection h with h; subst h; exact hv
 | x :: P,c,d,y,h,hv=>by
  simp only [sub] at h
  cases hst : c.step x with
  | none=>rw [hst] at h; cases h
  | some z =>
   rw [hst] at h
   simp only [putAt,hst]
   exact (ey.aM c x z _ hst (GN P h hv)).val
theorem RP {c z : C} {x x' : Nat×Nat} (hst : c.step x = some z) (hne : x'≠x) (y : C) : (c.aM x y).step x' = c.step x':=by
 have hu : ∀ f : Nat→C,x'.1 = 0→x.1 = 0→bq f x.2 y x'.2 = f x'.2:=fun f h1 h2=>by
  unfold bq
  rw [if_neg]
  intro e
  apply hne
  cases x; cases x'
  simp_all
 cases c with
 | row m sz A len cap e =>
  simp only [aM,step]
  split
  ·congr 1
   rw [if_neg]
   rintro ⟨e1,e2⟩
   exact hne (Prod.ext e1 e2)
  ·rfl
 | ptr m g o n f =>
  simp only [step] at hst
  split at hst
  ·rename_i h0
   simp only [aM,step]
   split
   ·rename_i hh; rw [hu f hh.1 h0.1]
   ·rfl
  ·cases hst
 | agg n f =>
  simp only [step] at hst
  split at hst
  ·rename_i h0
   simp only [aM,step]
   split
   ·rename_i hh; rw [hu f hh.1 h0.1]
   ·rfl
  ·cases hst
 | au n f =>
  simp only [step] at hst
  split at hst
  ·rename_i h0
   simp only [aM,step]
   split
   ·rename_i hh; rw [hu f hh.1 h0.1]
   ·rfl
  ·cases hst
 | _=>rfl
theorem Gz : ∀ (P q : Path) {c d y z : C},c.sub P = some d→y.val = d.val→X.pfx P q = false→(putAt P c y).sub q = some z→∃ z0,c.sub q = some z0∧z.val = z0.val∧(z0.plain→z.plain)
 | [],q,c,d,y,z,_,_,h,_=>by simp [X.pfx] at h
 | x :: P,q,c,d,y,z,hd,hv,hp,hs=>by
  simp only [sub] at hd
  cases hst : c.step x with
  | none=>rw [hst] at hd; cases hd
  | some c1 =>
   rw [hst] at hd
   have hd' : c1.sub P = some d:=hd
   have hval:=GN P hd' hv
   cases q with
   | nil =>
    simp only [sub,putAt,hst] at hs
    injection hs with hs
    subst hs
    refine ⟨c,rfl,(ey.aM c x c1 _ hst hval).val,fun hpl=>?_⟩
    cases c <;> first | exact hpl | trivial
   | cons x' q =>
    simp only [sub,putAt,hst] at hs
    by_cases hne : x' = x
    ·subst hne
     rw [Gu hst] at hs
     have hp' : X.pfx P q = false:=by simpa [X.pfx] using hp
     obtain ⟨z0,a1,a2⟩:=Gz P q hd' hv hp' hs
     exact ⟨z0,by simp only [sub,hst]; exact a1,a2⟩
    ·rw [RP hst hne] at hs
     exact ⟨z,hs,rfl,fun h=>h⟩
end C
variable {w : World} {zl zb : Nat→Nat→Prop}
theorem NM {G : Nat→C} {s : ag} (h : Inv w zl zb G s) {r : Nat} {p : Path} (hg : jH s r p = true) : ∃ p0 q d0 v,p = p0 ++ [q]∧(G r).sub p0 = some d0∧d0.step q = some (.dead v)∧d0.ld:=by
 unfold jH at hg
 split at hg
 ·rename_i hl
  split at hg
  ·rename_i q hq
   have hp : p = p.dropLast ++ [q]:=by
    have hne : p≠[]:=by intro e; subst e; simp at hq
    rw [List.getLast?_eq_some_getLast hne] at hq
    injection hq with hq
    rw [← hq]
    exact (List.dropLast_concat_getLast hne).symm
   have own : ∀ x,look s r p.dropLast = some x→∃ d0,(G r).sub p.dropLast = some d0∧d0.er = x:=fun x hx=>by
    unfold look at hx
    rw [← h.er,C.dV] at hx
    cases hs : (G r).sub p.dropLast with
    | none=>rw [hs] at hx; cases hx
    | some d0=>rw [hs] at hx; exact ⟨d0,rfl,by simpa using hx⟩
   have fin : ∀ d0,(G r).sub p.dropLast = some d0→d0.ld→∃ p0 q d0 v,p = p0 ++ [q]∧(G r).sub p0 = some d0∧d0.step q = some (.dead v)∧d0.ld:=fun d0 h0 ho=>by
    unfold look at hl
    rw [← h.er,C.dV,hp,C.yb p.dropLast [q] h0] at hl
    have hl' : ((d0.step q).bind fun z=>some z).map C.er = some .dead:=by simpa [C.sub] using hl
    cases hst : d0.step q with
    | none=>rw [hst] at hl'; cases hl'
    | some z =>
     rw [hst] at hl'
     have : z.er = .dead:=by simpa using hl'
     cases z with
     | dead v=>exact ⟨p.dropLast,q,d0,v,hp,h0,hst,ho⟩
     | _=>simp [C.er] at this
   split at hg
   ·rename_i hx
    obtain ⟨d0,a1,a2⟩:=own _ hx
    have : d0.ld:=by
     cases d0 with
     | row m sz A len cap e=>simp only [C.er,X.row.injEq] at a2; exact a2.1
     | _=>simp [C.er] at a2
    exact fin _ a1 this
   ·rename_i hx
    obtain ⟨d0,a1,a2⟩:=own _ hx
    have : d0.ld:=by
     cases d0 with
     | ptr m g o n c=>simp only [C.er,X.ptr.injEq] at a2; exact a2.1
     | _=>simp [C.er] at a2
    exact fin _ a1 this
   ·rename_i hx
    obtain ⟨d0,a1,a2⟩:=own _ hx
    have : d0.ld:=by cases d0 <;> first | trivial | (simp [C.er] at a2)
    exact fin _ a1 this
   ·rename_i hx
    obtain ⟨d0,a1,a2⟩:=own _ hx
    have : d0.ld:=by cases d0 <;> first | trivial | (simp [C.er] at a2)
    exact fin _ a1 this
   ·cases hg
  ·cases hg
 ·cases hg
theorem FR {r : Nat} {p : Path} : ∀ {l : List X},gZ r p l = true→∀ r' p',X.ref r' p'∈l→¬ (r' = r∧X.pfx p p' = true)
 | [],_,_,_,hm=>by cases hm
 | x :: l,h,r',p',hm=>by
  rcases List.mem_cons.1 hm with rfl | hm
  ·simp only [gZ,Bool.and_eq_true,Bool.not_eq_true',Bool.and_eq_false_iff,beq_eq_false_iff_ne] at h
   rintro ⟨rfl,h2⟩
   rcases h.1 with h1 | h1
   ·exact h1 rfl
   ·rw [h1] at h2; cases h2
  ·refine FR (l:=l) ?_ r' p' hm
   cases x <;> first | exact h | (simp only [gZ,Bool.and_eq_true] at h; exact h.2)
theorem uQ : ∀ (cs ys : List C) {G : Nat→C} {s s' : ag},Inv w zl zb G s→ys.length = cs.length→(∀ v r p,C.ref v r p∈cs→weak G v r p) →
  (∀ (i : Nat) c y,cs[i]? = some c→ys[i]? = some y→y.plain∧y.val = c.val∧y.ok w (Zf zl zb))→(∀ y∈ys,(∀ t b k,y.fp b k→¬ (G t).fp b k)∧∀ b k,y.fp b k→¬ zl b k∧¬ zb b k) →
  (ys.Pairwise fun a b=>∀ x k,a.fp x k→¬ b.fp x k)→fe (cs.map C.er) (ys.map C.er) s = some s' →
  ∃ G',Inv w zl zb G' s'∧(∀ t,(G' t).val = (G t).val)∧∀ t b k,(G' t).fp b k→(G t).fp b k∨∃ y∈ys,y.fp b k
 | [],ys,G,s,s',h,_,_,_,_,_,hb=>by
  simp only [List.map_nil,fe,Option.some.injEq] at hb
  subst hb
  exact ⟨G,h,fun _=>rfl,fun t b k hf=>.inl hf⟩
 | c :: cs,[],_,_,_,_,hl,_,_,_,_,_=>by simp at hl
 | c :: cs,y :: ys,G,s,s',h,hl,hw,hy,hsep,fm,hb=>by
  have hl' : ys.length = cs.length:=by simpa using hl
  obtain ⟨hp,hv,hok⟩:=hy 0 c y rfl rfl
  have o7:=List.pairwise_cons.1 fm
  have skip : fe (cs.map C.er) (ys.map C.er) s = some s'→∃ G',Inv w zl zb G' s'∧(∀ t,(G' t).val = (G t).val)∧∀ t b k,(G' t).fp b k→(G t).fp b k∨∃ y'∈y :: ys,y'.fp b k:=fun hb=>by
   obtain ⟨G',g1,g2,g3⟩:=uQ cs ys h hl' (fun v r p hm=>hw v r p (List.mem_cons_of_mem _ hm)) (fun i c y h1 h2=>hy (i + 1) c y (by simpa using h1) (by simpa using h2)) (fun y hm=>hsep y (List.mem_cons_of_mem _ hm)) o7.2 hb
   exact ⟨G',g1,g2,fun t b k hf=>(g3 t b k hf).imp id fun ⟨y,hm,hf⟩=>⟨y,List.mem_cons_of_mem _ hm,hf⟩⟩
  cases c with
  | ref v r p =>
   simp only [List.map_cons,C.er,fe] at hb
   cases hg : (jH s r p && gZ r p (cs.map C.er)) with
   | false=>rw [hg] at hb; cases hb
   | true =>
    rw [hg,cond_true] at hb
    simp only [Bool.and_eq_true] at hg
    obtain ⟨p0,q,d0,v0,hpq,h0,hq,ho⟩:=NM h hg.1
    have vD : (G r).sub p = some (.dead v0):=by rw [hpq]; exact C.mK p0 h0 hq
    have hv0 : v0 = v:=(hw v r p (List.mem_cons_self ..) _ vD).1
    have jR : y.val = v0:=by rw [hv,hv0]; rfl
    obtain ⟨G1,e1,i1,i2,i3⟩:=h.NL h0 hq ho hp jR hok (hsep y (List.mem_cons_self ..)).1 (hsep y (List.mem_cons_self ..)).2
    rw [← hpq] at i1
    have he : C.putAt p0 (G r) (d0.aM q y) = C.putAt p (G r) y:=by rw [hpq,C.tL p0 h0 hq]
    rw [he] at e1
    obtain ⟨G',g1,g2,g3⟩:=uQ cs ys i1 hl' (fun v' r' p' hm=>by
     have hold:=hw v' r' p' (List.mem_cons_of_mem _ hm)
     have hno:=FR hg.2 r' p' (by have:=List.mem_map_of_mem (f:=C.er) hm; exact this)
     intro z hz
     rw [e1] at hz
     by_cases er : r' = r
     ·subst er
      rw [cv] at hz
      have hpf : X.pfx p p' = false:=by
       cases hh : X.pfx p p' with
       | false=>rfl
       | true=>exact (hno ⟨rfl,hh⟩).elim
      obtain ⟨z0,a1,a2,a3⟩:=C.Gz p p' vD (by rw [jR]; rfl) hpf hz
      obtain ⟨b1,b2⟩:=hold z0 a1
      exact ⟨a2.trans b1,a3 b2⟩
     ·rw [cm _ _ er] at hz
      exact hold z hz) (fun i c y h1 h2=>hy (i + 1) c y (by simpa using h1) (by simpa using h2)) (fun y' hm=>⟨fun t b k hf hf'=>by
      rcases i3 t b k hf' with hh | hh
      ·exact (hsep y' (List.mem_cons_of_mem _ hm)).1 t b k hf hh
      ·exact o7.1 y' hm b k hh hf,(hsep y' (List.mem_cons_of_mem _ hm)).2⟩) o7.2 hb
    refine ⟨G',g1,fun t=>(g2 t).trans (i2 t),fun t b k hf=>?_⟩
    rcases g3 t b k hf with hh | ⟨y',hm,hh⟩
    ·rcases i3 t b k hh with hh | hh
     ·exact .inl hh
     ·exact .inr ⟨y,List.mem_cons_self ..,hh⟩
    ·exact .inr ⟨y',List.mem_cons_of_mem _ hm,hh⟩
  | _=>exact skip (by simpa only [List.map_cons,C.er,fe] using hb)
end M
namespace M
open Go Go.RowKit
variable [Bs]
theorem Qj {v : Value} (h : v.oneCell' = true) : v.cells = #[v]:=by cases v <;> first | rfl | (simp [Value.oneCell'] at h)
namespace St
variable {c : Ctx} {G G1 : Nat→C} {zl : Nat→Nat→Prop} {s s1 : ag} {a : Act} {w w' : World}
theorem move (h : St c G zl s a w) (hi : Inv w' zl c.zb G1 s1) (hv : ∀ t,(G1 t).val = (G t).val) {S : Nat→Nat→Prop} (hE : Ext S w w') (hS : ∀ b k,S b k→c.F0 b k∨c.w0.heap.size≤b)
  (hd : ∀ t b k,(G1 t).fp b k→(∃ u,(G u).fp b k)∨w.heap.size≤b) : St c G1 zl s1 a w' where
 inv:=hi
 val:=fun t ht=>(hv t).trans (h.val t ht)
 size:=h.size
 small:=h.small
 defers:=h.defers
 tr:=⟨h.tr.ext.trans hE (fun b k hs hb=>(hS b k hs).elim id (fun hs=>by omega)),fun t b k hf=>by
  rcases hd t b k hf with ⟨u,hu⟩ | hb
  ·exact h.tr.dom u b k hu
  ·exact .inr (Nat.le_trans h.tr.ext.size hb),h.tr.kg,h.tr.zl,h.tr.gl,h.tr.rC⟩
 args:=fun i v hi=>(hv _).trans (h.args i v hi)
theorem put (h : St c G zl s a w) {x : C} {n : Nat} (hn : n < c.nt) (hok : x.ok w (Zf zl c.zb)) (hsep : ∀ t,t≠n→∀ b k,x.fp b k→¬ (G t).fp b k) (hfz : ∀ b k,x.fp b k→¬ zl b k∧¬ c.zb b k) (cj : x.rf G)
  (oW : ∀ b k,x.fp b k→c.F0 b k∨c.w0.heap.size≤b) : ∃ G',St c G' zl (M.put n x.er s) (a.put (some n) x.val) w:=by
 obtain ⟨G',i1,i2,i3,i4,i5⟩:=h.inv.put n x hok hsep hfz cj
 refine ⟨G',⟨i1,fun t ht=>?_,by simp [Act.put,h.size],h.small,by simpa [Act.put] using h.defers,⟨h.tr.ext,fun t b k hf=>?_,h.tr.kg,h.tr.zl,h.tr.gl,h.tr.rC⟩,fun i v hi=>?_⟩⟩
 ·by_cases e : t = n
  ·subst e
   rw [i2]
   simp only [Act.put,Array.getD_eq_getD_getElem?]
   rw [Array.getElem?_setIfInBounds_self_of_lt (by rw [h.size]; exact hn)]
   rfl
  ·rw [i3 t e,h.val t ht]
   simp only [Act.put,Array.getD_eq_getD_getElem?]
   rw [Array.getElem?_setIfInBounds_ne (fun e'=>e e'.symm)]
 ·by_cases e : t = n
  ·subst e; exact oW b k (i4 b k hf)
  ·exact h.tr.dom t b k (i5 t e b k hf)
 ·rw [i3 _ (by have:=h.small; omega)]
  exact h.args i v hi
theorem Cx (h : St c G zl s a w) {x : C} (hT : di w zl c.zb G x G1 s1) {n : Nat} (hn : n < c.nt) : ∃ G',St c G' zl (M.put n x.er s1) (a.put (some n) x.val) w:=by
 have h1 : St c G1 zl s1 a w:=h.move hT.inv hT.val (Ext.refl (fun _ _=>False) w) (fun _ _ hs=>hs.elim) (fun t b k hf=>.inl ⟨t,hT.mono t b k hf⟩)
 exact h1.put hn hT.ok (fun t _ b k hf=>hT.sep t b k hf) hT.fz hT.rf (fun b k hf=>by obtain ⟨t,ht⟩:=hT.dom b k hf; exact h.tr.dom t b k ht)
theorem tF (h : St c G zl s a w) {x : C} (ho : cI w zl c.zb G x) {n : Nat} (hn : n < c.nt) : ∃ G',St c G' zl (M.put n x.er s) (a.put (some n) x.val) w :=
 h.Cx (di.self h.inv ho.ok ho.rf ho.bW) hn
theorem flat (h : St c G zl s a w) {x : C} (hp : x.plain) (Ae : ∀ m sz A len cap e,x≠.row m sz A len cap e) (hok : x.ok w (Zf zl c.zb)) {n : Nat} (hn : n < c.nt) : ∃ G',St c G' zl (M.put n x.er s) (a.put (some n) x.val) w :=
 h.tF ⟨hok,C.jV hp G,fun b k hf=>by cases x <;> first | exact hf.elim | exact hp.elim | exact (Ae _ _ _ _ _ _ rfl).elim⟩ hn
end St
def Good (P : Program) (c : Ctx) (o : Oper) (a : Act) (w : World) (K : ag→Prop) : Prop :=
 ∃ v w',((execOp a.eval o).run P w = .ok (.value v) w'∨((execOp a.eval o).run P w = .ok .skip w'∧v = undef))∧∃ G' ay s',K s'∧St c G' ay s' (a.put o.dst v) w'
def cy (P : Program) (c : Ctx) (o : Oper) (a : Act) (w : World) (K : ag→Prop) : Prop :=
 ∃ v,(∀ w',Ext (fun _ _=>False) w w'→(execOp a.eval o).run P w' = .ok (.value v) w')∧∃ G' ay s',K s'∧St c G' ay s' (a.put o.dst v) w
theorem cy.good {P : Program} {c : Ctx} {o : Oper} {a : Act} {w : World} {K : ag→Prop} (h : cy P c o a w K) : Good P c o a w K:=by
 obtain ⟨v,hr,h⟩:=h
 exact ⟨v,w,.inl (hr w (Ext.refl _ _)),h⟩
def Rel (q : Bool) (w w' : World) : Prop:=q = true→Ext (fun _ _=>False) w w'
theorem Rel.refl (q : Bool) (w : World) : Rel q w w:=fun _=>Ext.refl _ _
def fU (P : Program) (c : Ctx) (o : Oper) (a : Act) (w : World) (K : ag→Prop) : Prop :=
 ∃ v w',(execOp a.eval o).run P w = .ok (.value v) w'∧Ext (fun _ _=>False) w w'∧∃ G' ay s',K s'∧St c G' ay s' (a.put o.dst v) w'
theorem fU.good {P : Program} {c : Ctx} {o : Oper} {a : Act} {w : World} {K : ag→Prop} (h : fU P c o a w K) : Good P c o a w K:=by
 obtain ⟨v,w',hr,_,h⟩:=h
 exact ⟨v,w',.inl hr,h⟩
theorem cy.quiet {P : Program} {c : Ctx} {o : Oper} {a : Act} {w : World} {K : ag→Prop} (h : cy P c o a w K) : fU P c o a w K:=by
 obtain ⟨v,hr,h⟩:=h
 exact ⟨v,w,hr w (Ext.refl _ _),Ext.refl _ _,h⟩
def uU : Value→X→Bool
 | .int k n,.int k' n'=>decide (k = k') && decide (n = n')
 | .bool b,.bool b'=>b == b'
 | .string s,.str s'=>decide (s = s') && decide (s.size≤9223372036854775807)
 | .slice none 0 0,.row .own _ []=>true
 | _,_=>false
def aD : Operand→AV→Bool
 | .tmp n,.t n'=>n == n' && decide (n < base)
 | .const v,.k .dead=>true
 | .const v,.k x=>uU v x
 | .func f,.k (.fn f' [])=>f == f'
 | _,_=>false
section
variable {c : Ctx} {G : Nat→C} {zl : Nat→Nat→Prop} {s : ag} {a : Act} {w : World}
theorem DF {v : Value} {x : X} (h : uU v x = true) : ∃ d : C,d.er = x∧d.val = v∧cI w zl c.zb G d∧d.plain:=by
 unfold uU at h
 split at h
 ·simp only [Bool.and_eq_true,decide_eq_true_eq] at h
  obtain ⟨rfl,rfl⟩:=h
  exact ⟨.int _ _,rfl,rfl,⟨trivial,trivial,fun _ _ h=>h⟩,trivial⟩
 ·simp only [beq_iff_eq] at h
  subst h
  exact ⟨.bool _,rfl,rfl,⟨trivial,trivial,fun _ _ h=>h⟩,trivial⟩
 ·simp only [Bool.and_eq_true,decide_eq_true_eq] at h
  obtain ⟨rfl,h⟩:=h
  exact ⟨.str _,rfl,rfl,⟨h,trivial,fun _ _ h=>h⟩,trivial⟩
 ·rename_i sz
  refine ⟨.row .own sz none 0 0 fun _ _=>.dead undef,rfl,rfl,⟨⟨Nat.le_refl _,fun i j hi=>(by omega),fun i j hi=>(by omega),fun _=>.inl ⟨rfl,rfl⟩,fun i j hi=>(by omega)⟩,trivial,?_⟩,trivial⟩
  rintro b k ⟨_,⟨o,ho⟩ | ⟨i,j,hi,_⟩⟩
  ·cases ho
  ·omega
 ·cases h
theorem bu (h : St c G zl s a w) {o : Operand} {x : AV} (hc : aD o x = true) : ∃ d : C,d.er = ai s x∧d.val = a.eval o∧cI w zl c.zb G d:=by
 unfold aD at hc
 split at hc
 ·simp only [Bool.and_eq_true,beq_iff_eq,decide_eq_true_eq] at hc
  obtain ⟨rfl,hb⟩:=hc
  rename_i n
  obtain ⟨a1,a2,a3⟩:=FP h n
  exact ⟨_,a1,a2.trans (h.val n hb),a3⟩
 ·rename_i v
  exact ⟨.dead v,rfl,rfl,⟨trivial,trivial,fun _ _ h=>h⟩⟩
 ·obtain ⟨d,h1,h2,h3,_⟩:=DF (w:=w) (zl:=zl) (c:=c) (G:=G) hc
  exact ⟨d,h1,h2,h3⟩
 ·simp only [beq_iff_eq] at hc
  subst hc
  exact ⟨.fn _ 0 fun _=>.dead undef,rfl,rfl,⟨fun j hj=>(by omega),fun j hj=>(by omega),fun _ _ h=>h⟩⟩
 ·cases hc
theorem iZ {d : C} {k : IntKind} {n : Int} (h : d.er = .int k n) : d = .int k n:=by cases d <;> simp [C.er] at h ⊢ <;> first | exact h | skip
theorem lV {d : C} {b : Bool} (h : d.er = .bool b) : d = .bool b:=by cases d <;> simp [C.er] at h ⊢; exact h
theorem vb {d : C} {t : ByteArray} (h : d.er = .str t) : d = .str t:=by cases d <;> simp [C.er] at h ⊢; exact h
theorem FO {P : Program} (h : St c G zl s a w) {o : Oper} {K : ag→Prop} {d : Nat} {x : AV} {x' : Operand} (ho : o.op = .move x'∨o.op = .assign x') (hd : o.dst = some d) (hn : d < c.nt) (hx : aD x' x = true) (hK : aG P (.mv d x) s K) : cy P c o a w K:=by
 obtain ⟨y,e1,e2,e3⟩:=bu h hx
 obtain ⟨G',h'⟩:=h.tF e3 hn
 refine ⟨a.eval x',fun w' _=>?_,G',zl,_,hK,?_⟩
 ·rcases ho with ho | ho <;> simp [execOp,ho]
 ·rw [hd,← e2,← e1]; exact h'
theorem Qn {P : Program} (h : St c G zl s a w) {o : Oper} {K : ag→Prop} {d : Nat} {tk : Tk} {x : AV} {x' : Operand} (ho : o.op = .assign x') (hd : o.dst = some d) (hn : d < c.nt) (hx : aD x' x = true) (hK : aG P (.bY d tk x) s K) : fU P c o a w K:=by
 obtain ⟨y,e1,e2,e3⟩:=bu h hx
 obtain ⟨y',G1,f1,f2,_,f4⟩:=lB tk h.inv e3
 obtain ⟨G',h'⟩:=h.Cx f4 hn
 refine ⟨a.eval x',w,by simp [execOp,ho],Ext.refl _ _,G',zl,_,hK,?_⟩
 rw [hd,← e2,← f2,← e1,← f1]; exact h'
theorem QM {P : Program} (h : St c G zl s a w) {o : Oper} {K : ag→Prop} {d : Nat} {x y z : AV} {x' y' z' : Operand} (ho : o.op = .pick x' y' z') (hd : o.dst = some d) (hn : d < c.nt) (hx : aD x' x = true) (hy : aD y' y = true) (hz : aD z' z = true)
  (hK : aG P (.pick d x y z) s K) : cy P c o a w K:=by
 obtain ⟨p,p1,p2,p3⟩:=bu h hx
 obtain ⟨q,q1,q2,q3⟩:=bu h hy
 obtain ⟨r,r1,r2,r3⟩:=bu h hz
 simp only [aG] at hK
 split at hK
 ·rename_i t ht
  rw [← p1] at ht
  have hp:=lV ht
  subst hp
  have hsel : ∃ u : C,u.er = tH t (ai s y) (ai s z)∧u.val = (if t then a.eval y' else a.eval z')∧cI w zl c.zb G u:=by
   rw [← q1,← r1,← q2,← r2]
   unfold tH
   split
   ·rename_i b1 b2 h1 h2
    have hq:=lV h1
    have hr:=lV h2
    subst hq; subst hr
    refine ⟨.bool (bif t then b1 else b2),rfl,?_,⟨trivial,trivial,fun _ _ h=>h⟩⟩
    cases t <;> rfl
   ·cases t
    ·exact ⟨r,rfl,rfl,r3⟩
    ·exact ⟨q,rfl,rfl,q3⟩
  obtain ⟨u,u1,u2,u3⟩:=hsel
  obtain ⟨G',h'⟩:=h.tF u3 hn
  refine ⟨if t then a.eval y' else a.eval z',fun w' _=>?_,G',zl,_,hK,?_⟩
  ·have : a.eval x' = .bool t:=by rw [← p2]; rfl
   simp [execOp,ho,this,asBool]
  ·rw [hd,← u2,← u1]; exact h'
 ·exact hK.elim
end
end M
namespace M
open Go Go.RowKit
variable [Bs]
section
variable {P : Program} {c : Ctx} {G : Nat→C} {zl : Nat→Nat→Prop} {s : ag} {a : Act} {w : World} {o : Oper} {K : ag→Prop}
theorem yH (x y : ByteArray) : (x.toList == y.toList) = decide (x = y):=by
 rw [Bool.eq_iff_iff]
 simp only [beq_iff_eq,decide_eq_true_eq,Go.ByteArray.toList_eq]
 constructor
 ·intro h
  cases x; cases y
  congr 1
  exact Array.toList_inj.1 h
 ·intro h
  rw [h]
theorem cC (h : St c G zl s a w) {d : Nat} (hd : o.dst = some d) (hn : d < c.nt) {x : C} (hp : x.plain) (Ae : ∀ m sz A len cap e,x≠.row m sz A len cap e) (hok : x.ok w (Zf zl c.zb))
  (hrun : ∀ w',Ext (fun _ _=>False) w w'→(execOp a.eval o).run P w' = .ok (.value x.val) w') (hK : K (put d x.er s)) : cy P c o a w K:=by
 obtain ⟨G',h'⟩:=h.flat hp Ae hok hn
 exact ⟨_,hrun,G',zl,_,hK,by rw [hd]; exact h'⟩
theorem fL (h : St c G zl s a w) {d : Nat} (hd : o.dst = some d) (hn : d < c.nt) {x : C} (hx : cI w zl c.zb G x)
  (hrun : ∀ w',Ext (fun _ _=>False) w w'→(execOp a.eval o).run P w' = .ok (.value x.val) w') (hK : K (put d x.er s)) : cy P c o a w K:=by
 obtain ⟨G',h'⟩:=h.tF hx hn
 exact ⟨_,hrun,G',zl,_,hK,by rw [hd]; exact h'⟩
theorem QW (h : St c G zl s a w) {d : Nat} {op : UnOp} {ty : TypeId} {x : AV} {x' : Operand} (ho : o.op = .unOp op ty x') (hd : o.dst = some d) (hn : d < c.nt) (hx : aD x' x = true)
  (hK : aG P (.un d op x) s K) : cy P c o a w K:=by
 obtain ⟨y,e1,e2,e3⟩:=bu h hx
 obtain ⟨k1,k2⟩:=hK
 rw [← e1] at k1 k2
 cases y with
 | int k n =>
  cases op <;> simp only [qy,C.er] at k1
  refine cC h hd hn (x:=.int k (k.wrap (0 - n))) trivial (fun _ _ _ _ _ _ e=>(by cases e)) trivial (fun w' _=>?_) k2
  simp [execOp,ho,← e2,C.val,Op.unary,Op.intArith]
 | bool b =>
  cases op <;> simp only [qy,C.er] at k1
  refine cC h hd hn (x:=.bool (!b)) trivial (fun _ _ _ _ _ _ e=>(by cases e)) trivial (fun w' _=>?_) k2
  simp [execOp,ho,← e2,C.val,Op.unary]
 | _=>cases op <;> exact k1.elim
theorem Qp (h : St c G zl s a w) {d : Nat} {op : BinOp} {ty ty' : TypeId} {x y : AV} {x' y' : Operand} (ho : o.op = .binOp op ty x' y' ty') (hd : o.dst = some d) (hn : d < c.nt) (hx : aD x' x = true) (hy : aD y' y = true)
  (hK : aG P (.bin d op x y) s K) : cy P c o a w K:=by
 obtain ⟨p,p1,p2,p3⟩:=bu h hx
 obtain ⟨q,q1,q2,q3⟩:=bu h hy
 obtain ⟨k1,k2⟩:=hK
 rw [← p1,← q1] at k1 k2
 cases p with
 | int k m =>
  cases q with
  | int k' n =>
   have hrun : ∀ v : C,(∀ w,(binOp op ty (.int k m) (.int k' n)).run P w = .ok v.val w)→∀ w',Ext (fun _ _=>False) w w'→(execOp a.eval o).run P w' = .ok (.value v.val) w':=by
    intro v hv w' _
    have hg : eqGuard op ty x' y' (.int k m) (.int k' n) = pure ():=by unfold eqGuard; cases op <;> rfl
    simp [execOp,ho,← p2,← q2,C.val,hg,hv]
   cases op <;> simp only [oD,C.er] at k1
   case add=>subst k1; exact cC h hd hn (x:=.int k _) trivial (fun _ _ _ _ _ _ e=>(by cases e)) trivial (hrun _ (fun w=>by simp [binOp,Op.intArith,C.val])) k2
   case sub=>subst k1; exact cC h hd hn (x:=.int k _) trivial (fun _ _ _ _ _ _ e=>(by cases e)) trivial (hrun _ (fun w=>by simp [binOp,Op.intArith,C.val])) k2
   case mul=>subst k1; exact cC h hd hn (x:=.int k _) trivial (fun _ _ _ _ _ _ e=>(by cases e)) trivial (hrun _ (fun w=>by simp [binOp,Op.intArith,C.val])) k2
   case quo=>obtain ⟨rfl,k1⟩:=k1; exact cC h hd hn (x:=.int k _) trivial (fun _ _ _ _ _ _ e=>(by cases e)) trivial (hrun _ (fun w=>by simp [binOp,Op.intDiv,C.val,k1])) k2
   case rem=>obtain ⟨rfl,k1⟩:=k1; exact cC h hd hn (x:=.int k _) trivial (fun _ _ _ _ _ _ e=>(by cases e)) trivial (hrun _ (fun w=>by simp [binOp,Op.intDiv,C.val,k1])) k2
   case shl=>exact cC h hd hn (x:=.int k _) trivial (fun _ _ _ _ _ _ e=>(by cases e)) trivial (hrun _ (fun w=>by simp [binOp,Op.shift,C.val,show ¬ n < 0 by omega])) k2
   case shr=>exact cC h hd hn (x:=.int k _) trivial (fun _ _ _ _ _ _ e=>(by cases e)) trivial (hrun _ (fun w=>by simp [binOp,Op.shift,C.val,show ¬ n < 0 by omega])) k2
   case and=>subst k1; exact cC h hd hn (x:=.int k _) trivial (fun _ _ _ _ _ _ e=>(by cases e)) trivial (hrun _ (fun w=>by simp [binOp,Op.intBits,C.val])) k2
   case or=>subst k1; exact cC h hd hn (x:=.int k _) trivial (fun _ _ _ _ _ _ e=>(by cases e)) trivial (hrun _ (fun w=>by simp [binOp,Op.intBits,C.val])) k2
   case xor=>subst k1; exact cC h hd hn (x:=.int k _) trivial (fun _ _ _ _ _ _ e=>(by cases e)) trivial (hrun _ (fun w=>by simp [binOp,Op.intBits,C.val])) k2
   case eql=>subst k1; exact cC h hd hn (x:=.bool _) trivial (fun _ _ _ _ _ _ e=>(by cases e)) trivial (hrun _ (fun w=>by simp only [binOp,Op.intCmp,C.val,if_neg (Classical.not_not.2 rfl)]; rfl)) k2
   case neq=>subst k1; exact cC h hd hn (x:=.bool _) trivial (fun _ _ _ _ _ _ e=>(by cases e)) trivial (hrun _ (fun w=>by simp only [binOp,Op.intCmp,C.val,if_neg (Classical.not_not.2 rfl)]; rfl)) k2
   case lss=>subst k1; exact cC h hd hn (x:=.bool _) trivial (fun _ _ _ _ _ _ e=>(by cases e)) trivial (hrun _ (fun w=>by simp [binOp,Op.intCmp,C.val])) k2
   case leq=>subst k1; exact cC h hd hn (x:=.bool _) trivial (fun _ _ _ _ _ _ e=>(by cases e)) trivial (hrun _ (fun w=>by simp [binOp,Op.intCmp,C.val])) k2
   case gtr=>subst k1; exact cC h hd hn (x:=.bool _) trivial (fun _ _ _ _ _ _ e=>(by cases e)) trivial (hrun _ (fun w=>by simp [binOp,Op.intCmp,C.val])) k2
   case geq=>subst k1; exact cC h hd hn (x:=.bool _) trivial (fun _ _ _ _ _ _ e=>(by cases e)) trivial (hrun _ (fun w=>by simp [binOp,Op.intCmp,C.val])) k2
  | _=>exact k1.elim
 | str m =>
  cases q with
  | str n =>
   have hrun : ∀ v : C,(∀ w,(binOp op ty (.string m) (.string n)).run P w = .ok v.val w)→∀ w',Ext (fun _ _=>False) w w'→(execOp a.eval o).run P w' = .ok (.value v.val) w':=by
    intro v hv w' _
    have hg : eqGuard op ty x' y' (.string m) (.string n) = pure ():=by unfold eqGuard; cases op <;> rfl
    simp [execOp,ho,← p2,← q2,C.val,hg,hv]
   cases op <;> simp only [oD,C.er] at k1
   case add =>
    have hsz : (m ++ n).size = m.size + n.size:=by simp
    exact cC h hd hn (x:=.str _) trivial (fun _ _ _ _ _ _ e=>(by cases e)) (by show (m ++ n).size≤_; omega) (hrun _ (fun w=>by
     have : ¬ ((m.size + n.size : Nat) : Int) > IntKind.i64.max:=by show ¬ (((m.size + n.size : Nat) : Int) > 9223372036854775807); omega
     simp only [binOp,Op.stringOp,if_neg this,C.val,Sem.run_pure])) k2
   case eql=>exact cC h hd hn (x:=.bool _) trivial (fun _ _ _ _ _ _ e=>(by cases e)) trivial (hrun _ (fun w=>by simp only [binOp,Op.stringOp,C.val,yH,Sem.run_pure])) k2
   case neq=>exact cC h hd hn (x:=.bool _) trivial (fun _ _ _ _ _ _ e=>(by cases e)) trivial (hrun _ (fun w=>by simp only [binOp,Op.stringOp,C.val,yH,Sem.run_pure])) k2
  | _=>exact k1.elim
 | _=>exact k1.elim
theorem run_eql_bool {ty : TypeId} (ht : P.underlying ty = some .bool) (x y : Bool) : (binOp .eql ty (.bool x) (.bool y)).run P w = .ok (.bool (x == y)) w:=by
 show ((do pure (Value.bool (← Op.equal ty (.bool x) (.bool y))) : Sem Value).run P w) = _
 rw [Sem.run_bind]
 unfold Op.equal
 show ((Op.equalIn (9999 + 1) ty (.bool x) (.bool y)).run P w).andThen _ = _
 rw [run_equalIn_bool' w 9999 ty x y ht]
 rfl
theorem run_neq_bool {ty : TypeId} (ht : P.underlying ty = some .bool) (x y : Bool) : (binOp .neq ty (.bool x) (.bool y)).run P w = .ok (.bool (!(x == y))) w:=by
 show ((do pure (Value.bool (!(← Op.equal ty (.bool x) (.bool y)))) : Sem Value).run P w) = _
 rw [Sem.run_bind]
 unfold Op.equal
 show ((Op.equalIn (9999 + 1) ty (.bool x) (.bool y)).run P w).andThen _ = _
 rw [run_equalIn_bool' w 9999 ty x y ht]
 rfl
theorem ED (op : BinOp) (ty : TypeId) (p q : Operand) (x y : Bool) : eqGuard op ty p q (.bool x) (.bool y) = pure ():=by unfold eqGuard; cases op <;> rfl
theorem Qo (h : St c G zl s a w) {d : Nat} {neg : Bool} {ty ty' : TypeId} {x y : AV} {x' y' : Operand} (ho : o.op = .binOp (bif neg then .neq else .eql) ty x' y' ty') (ht : P.underlying ty = some .bool) (hd : o.dst = some d) (hn : d < c.nt) (hx : aD x' x = true) (hy : aD y' y = true)
  (hK : aG P (.beq d neg x y) s K) : cy P c o a w K:=by
 obtain ⟨p,p1,p2,p3⟩:=bu h hx
 obtain ⟨q,q1,q2,q3⟩:=bu h hy
 simp only [aG] at hK
 split at hK
 ·rename_i b1 b2 h1 h2
  rw [← p1] at h1
  rw [← q1] at h2
  have e1:=lV h1
  have e2:=lV h2
  subst e1; subst e2
  refine cC h hd hn (x:=.bool (xor neg (b1 == b2))) trivial (fun _ _ _ _ _ _ e=>(by cases e)) trivial (fun w' _=>?_) hK
  cases neg
  ·simp only [execOp,ho,← p2,← q2,C.val,ED,Sem.run_bind,Sem.run_pure,Result.andThen_ok,cond_false,run_eql_bool ht,Bool.false_bne]
  ·simp only [execOp,ho,← p2,← q2,C.val,ED,Sem.run_bind,Sem.run_pure,Result.andThen_ok,cond_true,run_neq_bool ht,Bool.true_bne]
 ·exact hK.elim
theorem Qy (h : St c G zl s a w) {d : Nat} {k : IntKind} {sr dt : TypeId} {sd : TypeDesc} {x : AV} {x' : Operand} (ho : o.op = .convert sr dt x') (hs : P.underlying sr = some sd) (hu : P.underlying dt = some (.int k)) (hd : o.dst = some d) (hn : d < c.nt) (hx : aD x' x = true)
  (hK : aG P (.conv d k x) s K) : cy P c o a w K:=by
 obtain ⟨y,e1,e2,e3⟩:=bu h hx
 simp only [aG] at hK
 split at hK
 ·rename_i k' n hy
  rw [← e1] at hy
  have:=iZ hy
  subst this
  refine cC h hd hn (x:=.int k _) trivial (fun _ _ _ _ _ _ e=>(by cases e)) trivial (fun w' _=>?_) hK
  simp [execOp,ho,← e2,C.val,convert,run_underlying hs,run_underlying hu,Conv.intToInt]
 ·exact hK.elim
theorem Qw (h : St c G zl s a w) {d : Nat} {x : AV} {x' : Operand} (ho : o.op = .nilCheck x') (hd : o.dst = some d) (hn : d < c.nt) (hx : aD x' x = true)
  (hK : aG P (.jC d x) s K) : cy P c o a w K:=by
 obtain ⟨y,e1,e2,e3⟩:=bu h hx
 simp only [aG] at hK
 rw [← e1] at hK
 cases y with
 | az v r p i k =>
  obtain ⟨y,hs,hy⟩:=e3.rf
  refine fL h hd hn e3 (fun w' _=>?_) hK
  rcases hy with ⟨m,sz,g,o',len,cap,e,rfl,hv⟩ | ⟨m,g,o',n,cc,rfl,_,hv⟩ <;> (simp only [C.val] at e2; subst hv; simp [execOp,ho,← e2,C.val])
 | ptr m g o' n f =>
  refine fL h hd hn e3 (fun w' _=>?_) hK
  simp only [C.val] at e2
  simp [execOp,ho,← e2,C.val]
 | fn f n g =>
  refine fL h hd hn e3 (fun w' _=>?_) hK
  simp only [C.val] at e2
  simp [execOp,ho,← e2,C.val]
 | _=>exact hK.elim
end
end M
namespace M
open Go Go.RowKit
variable [Bs]
theorem lF (g k j : Nat) : (⟨g,k,none⟩ : Addr).add j = ⟨g,k + j,none⟩:=by
 unfold Addr.add
 split
 ·rename_i h; subst h; rfl
 ·rfl
theorem jX (n c : Nat) : (List.range n).drop c = (List.range (n - c)).map (· + c):=by
 apply List.ext_getElem?
 intro i
 rw [List.getElem?_drop,List.getElem?_map]
 by_cases h : c + i < n
 ·rw [List.getElem?_range h,List.getElem?_range (by omega)]
  simp [Nat.add_comm]
 ·rw [List.getElem?_eq_none (by simp; omega),List.getElem?_eq_none (by simp; omega)]
  rfl
section
variable {P : Program} {c : Ctx} {G : Nat→C} {zl : Nat→Nat→Prop} {s : ag} {a : Act} {w : World} {o : Oper} {K : ag→Prop}
structure Ij (w : World) (zl zb : Nat→Nat→Prop) (G : Nat→C) (v : Value) (l : List C) : Prop where
 addr : ∃ g k,v = .pointer (some ⟨g,k,none⟩)∧∀ j (hj : j < l.length),w.cell? ⟨g,k + j,none⟩ = some l[j].val
 tF : ∀ x∈l,cI w zl zb G x∧x.cell
theorem Fz {zb : Nat→Nat→Prop} (h : Inv w zl zb G s) {y : C} (hy : cI w zl zb G y) {cs : List X} (hc : dN s y.er = some cs) : ∃ l : List C,l.map C.er = cs∧Ij w zl zb G y.val l:=by
 cases y with
 | ptr m g o n f =>
  simp only [C.er,dN] at hc
  injection hc with hc
  obtain ⟨h1,h2,h3,h4⟩:=hy.ok
  refine ⟨(List.range n).map f,by rw [← hc,List.map_map]; rfl,⟨⟨g,o,rfl,fun j hj=>?_⟩,fun x hx=>?_⟩⟩
  ·simp only [List.length_map,List.length_range] at hj
   simp only [List.getElem_map,List.getElem_range]
   exact (h1 j hj).1
  ·obtain ⟨j,hj,rfl⟩:=List.mem_map.1 hx
   have hj' : j < n:=by simpa using hj
   obtain ⟨a1,a2,a3⟩:=h3 j hj'
   exact ⟨⟨a3,hy.rf j hj',fun b k hf=>hy.bW b k (C.gF a1 a2 hj' hf)⟩,a1⟩
 | az v r p i k0 =>
  obtain ⟨z,hz,hp⟩:=hy.rf
  have me:=C.ew p hz (h.ok r)
  have Fk:=Inv.od.uo p (h.ok r) hz (h.rf r)
  simp only [C.er,dN,look] at hc
  rw [← h.er,C.dV,hz] at hc
  simp only [Option.map_some] at hc
  rcases hp with ⟨m,sz,g,o,len,cap,e,rfl,rfl⟩ | ⟨m,g,o,n,f,rfl,rfl,rfl⟩
  ·simp only [C.er,C.cg] at hc
   by_cases hi : i < len
   ·rw [if_pos hi] at hc
    simp only [Option.map_some,Option.some.injEq] at hc
    refine ⟨((List.range (sz - k0)).map (· + k0)).map fun j=>(e i j).e9 r (p ++ [(i,j)]),?_,⟨⟨g,o + i * sz + k0,rfl,fun j hj=>?_⟩,fun x hx=>?_⟩⟩
    ·rw [← hc,← List.map_drop,jX]
     rw [C.oy r p i ((List.range (sz - k0)).map (· + k0)) k0 (fun j=>e i j) (by simp)]
     simp only [List.map_map]
     rfl
    ·simp only [List.length_map,List.length_range] at hj
     simp only [List.getElem_map,List.getElem_range,C.qM]
     obtain ⟨g',o',hA,hcell,_⟩:=me.2.1 i (j + k0) hi (by omega)
     injection hA with hA
     injection hA with e1 e2
     injection e2 with e2
     subst e1; subst e2
     rw [show o + i * sz + k0 + j = o + i * sz + (j + k0) by omega]
     exact hcell
    ·obtain ⟨j,hj,rfl⟩:=List.mem_map.1 hx
     obtain ⟨j',hj',rfl⟩:=List.mem_map.1 hj
     have hj2 : j' + k0 < sz:=by simp at hj'; omega
     obtain ⟨a1,a2,a3,a4⟩:=me.2.2.1 i (j' + k0) hi hj2
     refine ⟨⟨C.qK _ _ _ a4,C.qL _ _ _ (C.mK p hz (by simp only [C.step,if_pos (And.intro hi hj2)])) ?_,C.qJ _ _ _ (C.yW a1)⟩,C.yx _ _ _ a1⟩
     have:=Inv.od.uo (w:=w) (zl:=zl) (zb:=zb) (G:=G) [(i,j' + k0)] me (d:=e i (j' + k0)) (by simp only [C.sub,C.step,if_pos (And.intro hi hj2)]; rfl) Fk
     exact this
   ·rw [if_neg hi] at hc; cases hc
  ·simp only [C.er,Option.some.injEq] at hc
   refine ⟨((List.range (n - k0)).map (· + k0)).map fun j=>(f j).e9 r (p ++ [(0,j)]),?_,⟨⟨g,o + k0,rfl,fun j hj=>?_⟩,fun x hx=>?_⟩⟩
   ·rw [← hc,← List.map_drop,jX]
    rw [C.oy r p 0 ((List.range (n - k0)).map (· + k0)) k0 f (by simp)]
    simp only [List.map_map]
    rfl
   ·simp only [List.length_map,List.length_range] at hj
    simp only [List.getElem_map,List.getElem_range,C.qM]
    rw [show o + k0 + j = o + (j + k0) by omega]
    exact (me.1 (j + k0) (by omega)).1
   ·obtain ⟨j,hj,rfl⟩:=List.mem_map.1 hx
    obtain ⟨j',hj',rfl⟩:=List.mem_map.1 hj
    have hj2 : j' + k0 < n:=by simp at hj'; omega
    obtain ⟨a1,a2,a3⟩:=me.2.2.1 (j' + k0) hj2
    exact ⟨⟨C.qK _ _ _ a3,C.qL _ _ _ (C.mK p hz (if_pos (And.intro rfl hj2))) (Fk _ hj2),C.qJ _ _ _ (C.yW a1)⟩,C.yx _ _ _ a1⟩
 | _=>simp [C.er,dN] at hc
theorem Ir {zb : Nat→Nat→Prop} {l : List C} (h : ∀ x∈l,cI w zl zb G x∧x.cell) : cI w zl zb G (dZ l) where
 ok:=⟨fun j hj=>⟨(h _ (bQ hj _)).2,(h _ (bQ hj _)).1.ok⟩,fun j hj b k hf=>((h _ (bQ hj _)).1.bW b k hf).elim⟩
 rf:=fun j hj=>(h _ (bQ hj _)).1.rf
 bW:=fun b k hf=>by
  obtain ⟨x,hx,hf⟩:=(lG _ _ _).1 hf
  exact (h x hx).1.bW b k hf
theorem FN (h : St c G zl s a w) {d sz : Nat} {agg : Bool} {ty : TypeId} {x : AV} {x' : Operand} (ho : o.op = .load ty x') (hsz : ∃ i,P.info? ty = some i∧i.size = sz) (jc : ∃ dd,P.underlying ty = some dd∧(match dd with | .struct _=>true | .array _ _=>true | _=>false) = agg)
  (h1 : agg = true∨sz = 1) (hd : o.dst = some d) (hn : d < c.nt) (hx : aD x' x = true)
  (hK : aG P (.load d sz agg x) s K) : cy P c o a w K:=by
 obtain ⟨y,e1,e2,e3⟩:=bu h hx
 obtain ⟨cs,k1,k2,k3⟩:=hK
 rw [← e1] at k1
 obtain ⟨l,l1,⟨g,k,hv,hcell⟩,l3⟩:=Fz h.inv e3 k1
 have hlen : l.length = cs.length:=by rw [← l1]; simp
 obtain ⟨i,hi,gC⟩:=hsz
 obtain ⟨dd,rI,hda⟩:=jc
 have nu : ∀ w : World,(isAgg ty).run P w = .ok agg w:=by
  intro w
  subst hda
  simp only [isAgg,Sem.run_bind,run_underlying rI,Result.andThen_ok]
  cases dd <;> rfl
 have hsize : ∀ w : World,(Go.sizeOf ty).run P w = .ok sz w:=by intro w; simp [Go.sizeOf,typeInfo,hi,gC]
 have EO : ∀ w',Ext (fun _ _=>False) w w'→∀ j (hj : j < l.length),w'.cell? ⟨g,k + j,none⟩ = some l[j].val:=fun w' hE j hj=>hE.cell (fun hs=>hs) (hcell j hj)
 have iF : ∀ w : World,(execOp a.eval o).run P w = ((loadVar ty ⟨g,k,none⟩).run P w).andThen fun v w'=>.ok (.value v) w':=by
  intro w
  simp [execOp,ho,← e2,hv,Instr.loadAt,Instr.sureAddr]
 cases agg with
 | true =>
  have hl : ∀ w',Ext (fun _ _=>False) w w'→(loadCells ⟨g,k,none⟩ sz).run P w' = .ok ((List.range sz).map fun j=>((l.take sz).getD j (.dead undef)).val).toArray w':=fun w' hE=>run_loadCells w' _ sz _ (fun j hj=>by
   rw [lF,EO w' hE j (by omega)]
   congr 1
   rw [List.getD_eq_getElem?_getD,List.getElem?_take_of_lt hj,List.getElem?_eq_getElem (by omega)]
   rfl)
  have hval : (dZ (l.take sz)).val = .agg ((List.range sz).map fun j=>((l.take sz).getD j (.dead undef)).val).toArray:=by
   simp only [dZ,C.val,List.length_take]
   rw [Nat.min_eq_left (by omega)]
  refine fL h hd hn (x:=dZ (l.take sz)) (Ir fun x hx=>l3 x (List.mem_of_mem_take hx)) ?_ ?_
  ·intro w' hE
   rw [iF,hval]
   simp only [loadVar,Sem.run_bind,nu,Result.andThen_ok,if_true,hsize,hl w' hE,Sem.run_pure]
  ·rw [ox,List.map_take,l1]
   exact k3
 | false =>
  have hs1 : sz = 1:=h1.resolve_left (by simp)
  subst hs1
  cases l with
  | nil=>simp at hlen; omega
  | cons y0 l =>
   refine fL h hd hn (x:=y0) (l3 y0 (List.mem_cons_self ..)).1 ?_ ?_
   ·intro w' hE
    have hc0:=EO w' hE 0 (by simp)
    simp only [Nat.add_zero,List.getElem_cons_zero] at hc0
    rw [iF]
    simp only [loadVar,Sem.run_bind,nu,Result.andThen_ok,Bool.false_eq_true,if_false,run_load,hc0]
   ·rw [← l1] at k3
    exact k3
theorem QA (h : St c G zl s a w) {d off fi : Nat} {ty : TypeId} {fs : Array Field} {f : Field} {x : AV} {x' : Operand} (ho : o.op = .fieldAddr ty x' fi) (hu : P.underlying ty = some (.struct fs)) (hf : fs[fi]? = some f) (hfo : f.offset = off) (hfs : ∃ i,P.info? f.type = some i∧i.size≠0)
  (hd : o.dst = some d) (hn : d < c.nt) (hx : aD x' x = true) (hK : aG P (.kD d x off) s K) : cy P c o a w K:=by
 obtain ⟨y,e1,e2,e3⟩:=bu h hx
 obtain ⟨i,hi,hi0⟩:=hfs
 have hrun : ∀ g k,a.eval x' = .pointer (some ⟨g,k,none⟩)→∀ w',Ext (fun _ _=>False) w w'→(execOp a.eval o).run P w' = .ok (.value (.pointer (some ⟨g,k + off,none⟩))) w':=by
  intro g k hv w' _
  simp [execOp,ho,hv,Instr.fieldAt,Instr.sureAddr,run_underlying hu,hf,fieldPlace,Go.sizeOf,typeInfo,hi,hi0,lF,hfo]
 simp only [aG] at hK
 rw [← e1] at hK
 cases y with
 | az v r p i' k0 =>
  obtain ⟨z,hz,hp⟩:=e3.rf
  have hcase : ∃ g k,v = .pointer (some ⟨g,k,none⟩)∧(C.az (.pointer (some ⟨g,k + off,none⟩)) r p i' (k0 + off)).rf G:=by
   rcases hp with ⟨m,sz,g,o',len,cap,e,rfl,rfl⟩ | ⟨m,g,o',n,f',rfl,rfl,rfl⟩
   ·exact ⟨_,_,rfl,_,hz,.inl ⟨_,_,_,_,_,_,_,rfl,by rw [Nat.add_assoc]⟩⟩
   ·exact ⟨_,_,rfl,_,hz,.inr ⟨_,_,_,_,_,rfl,rfl,by rw [Nat.add_assoc]⟩⟩
  obtain ⟨g,k,rfl,cj⟩:=hcase
  refine fL h hd hn (x:=.az (.pointer (some ⟨g,k + off,none⟩)) r p i' (k0 + off)) ⟨trivial,cj,fun _ _ hh=>hh⟩ ?_ hK
  exact hrun g k e2.symm
 | ptr m g o' n f' =>
  obtain ⟨h1,h2,h3,h4⟩:=e3.ok
  refine fL h hd hn (x:=.ptr m g (o' + off) (n - off) fun j=>f' (j + off)) ⟨⟨fun j hj=>?_,h2,fun j hj=>h3 (j + off) (by omega),fun j hj b k hf=>?_⟩,fun j hj=>e3.rf (j + off) (by omega),fun b k hf=>?_⟩ ?_ ?_
  ·rw [show o' + off + j = o' + (j + off) by omega]; exact h1 (j + off) (by omega)
  ·obtain ⟨a1,a2⟩:=h4 (j + off) (by omega) b k hf
   exact ⟨fun hm hb=>a1 hm (by omega),fun j' hj' hne=>a2 (j' + off) (by omega) (by omega)⟩
  ·obtain ⟨hm,hf | ⟨j,hj,hf⟩⟩:=hf
   ·exact e3.bW b k ⟨hm,.inl (by omega)⟩
   ·exact e3.bW b k ⟨hm,.inr ⟨j + off,by omega,hf⟩⟩
  ·exact hrun g o' e2.symm
  ·have : (C.ptr m g (o' + off) (n - off) fun j=>f' (j + off)).er = .ptr m (((List.range n).map fun j=>(f' j).er).drop off):=by
    simp only [C.er]
    rw [← List.map_drop,jX,List.map_map]
    rfl
   rw [this]
   exact hK
 | _=>exact hK.elim
end
end M
namespace M
open Go Go.RowKit
variable [Bs]
def vm (P : Program) (t : TypeId) (k : Nat) : Bool:=match P.underlying t with
 | some (.int _)=>k == 0
 | some .bool=>k == 1
 | some .string=>k == 2
 | _=>false
def vl (P : Program) : Nat→List Nat→List Field→Bool
 | _,[],[]=>true
 | n,k :: ks,f :: l=>decide (f.offset = n) && decide (f.name≠ "_") && vm P f.type k && vl P (n + 1) ks l
 | _,_,_=>false
def zv (P : Program) (t : TypeId) (ks : List Nat) : Bool:=(match P.underlying t with
 | some (.struct fs)=>vl P 0 ks fs.toList
 | _=>false) && !P.stoodInHeld t && !P.eqGuardType P.depth t
section
variable {P : Program} {c : Ctx} {G : Nat→C} {zl : Nat→Nat→Prop} {s : ag} {a : Act} {w : World} {o : Oper} {K : ag→Prop}
theorem FT {t : TypeId} {k : Nat} {vs : Array Value} {n : Nat} {v : Value} (ht : vm P t k = true) (hv : vs[n]? = some v) (w : World) : (part t vs n).run P w = .ok v w:=by
 unfold vm at ht
 split at ht <;> first | (rename_i h; simp [part,isAgg,run_underlying h,hv]) | cases ht
theorem K6 {w : World} {xs ys : Array Value} (d : Nat) : ∀ (l : List Field) (ks : List Nat) (ps qs : List C) (n : Nat) (t : Bool),vl P n ks l = true→(∀ j,(ps[j]?).map C.val = xs[n + j]?)→(∀ j,(qs[j]?).map C.val = ys[n + j]?) →
  fZ ks (ps.map C.er) (qs.map C.er) = some t→(Op.eqFields (d + 1) xs ys l).run P w = .ok t w:=by
 intro l
 induction l with
 | nil =>
  intro ks ps qs n t hf _ _ he
  cases ks with
  | nil =>
   cases ps <;> cases qs <;> simp [fZ] at he
   subst he
   simp [Op.eqFields]
  | cons k ks=>cases hf
 | cons f l ih =>
  intro ks ps qs n t hf hx hy he
  cases ks with
  | nil=>cases hf
  | cons k ks =>
  cases ps with
  | nil=>simp [fZ] at he
  | cons p ps =>
  cases qs with
  | nil=>simp [fZ] at he
  | cons q qs =>
  simp only [vl,Bool.and_eq_true,decide_eq_true_eq] at hf
  obtain ⟨⟨⟨hoff,hname⟩,hk⟩,nr⟩:=hf
  have hx0:=hx 0
  have hy0:=hy 0
  simp only [List.getElem?_cons_zero,Option.map_some,Nat.add_zero] at hx0 hy0
  have wE:=fun t=>ih ks ps qs (n + 1) t nr (fun j=>by have:=hx (j + 1); simpa [Nat.add_assoc,Nat.add_comm 1 j] using this) (fun j=>by have:=hy (j + 1); simpa [Nat.add_assoc,Nat.add_comm 1 j] using this)
  have step : ∀ b : Bool,(∀ w : World,(Op.equalIn (d + 1) f.type p.val q.val).run P w = .ok b w)→(fZ ks (ps.map C.er) (qs.map C.er)).map (fun t=>b && t) = some t→(Op.eqFields (d + 1) xs ys (f :: l)).run P w = .ok t w:=by
   intro b hb h1
   cases h2 : fZ ks (ps.map C.er) (qs.map C.er) with
   | none=>rw [h2] at h1; cases h1
   | some t' =>
    rw [h2] at h1
    simp only [Option.map_some,Option.some.injEq] at h1
    subst h1
    simp only [Op.eqFields,if_pos hname,Sem.run_bind,hoff,FT hk hx0.symm,FT hk hy0.symm,Result.andThen_ok,hb]
    cases b with
    | true=>simpa using wE t' h2
    | false=>simp
  unfold vm at hk
  simp only [List.map_cons] at he
  split at hk
  ·rename_i h
   obtain rfl : k = 0:=by simpa using hk
   cases p <;> cases q <;> simp only [C.er,fZ] at he <;> try (cases he; done)
   split at he
   ·rename_i hkk
    subst hkk
    exact step _ (fun w=>run_equalIn_int w d f.type _ _ _ _ h) he
   ·cases he
  ·rename_i h
   obtain rfl : k = 1:=by simpa using hk
   cases p <;> cases q <;> simp only [C.er,fZ] at he <;> try (cases he; done)
   exact step _ (fun w=>run_equalIn_bool' w d f.type _ _ h) he
  ·rename_i h
   obtain rfl : k = 2:=by simpa using hk
   cases p <;> cases q <;> simp only [C.er,fZ] at he <;> try (cases he; done)
   refine step _ (fun w=>?_) he
   rw [show (C.str _).val = Value.string _ from rfl,show (C.str _).val = Value.string _ from rfl,run_equalIn_string w d f.type _ _ h,yH]
  ·cases hk
theorem Qk (h : St c G zl s a w) {d : Nat} {neg : Bool} {ks : List Nat} {ty ty' : TypeId} {x y : AV} {x' y' : Operand} (ho : o.op = .binOp (bif neg then .neq else .eql) ty x' y' ty') (ht : zv P ty ks = true) (hd : o.dst = some d) (hn : d < c.nt) (hx : aD x' x = true) (hy : aD y' y = true)
  (hK : aG P (.mP d neg ks x y) s K) : cy P c o a w K:=by
 obtain ⟨p,p1,p2,p3⟩:=bu h hx
 obtain ⟨q,q1,q2,q3⟩:=bu h hy
 simp only [aG] at hK
 rw [← p1,← q1] at hK
 simp only [zv,Bool.and_eq_true,Bool.not_eq_true'] at ht
 obtain ⟨⟨ht,hst⟩,Ox⟩:=ht
 split at ht
 ·rename_i fs hfs
  have hfo : P.fieldsOf ty = fs:=by simp only [Program.fieldsOf,hfs]
  cases p with
  | agg n f =>
   cases q with
   | agg m g =>
    simp only [C.er] at hK
    obtain ⟨t,he,hK⟩:=hK
    have hcell : ∀ (n : Nat) (f : Nat→C) (j : Nat),((((List.range n).map f)[j]?).map C.val) = ((((List.range n).map fun j=>(f j).val).toArray)[0 + j]?):=fun n f j=>by
     rw [Nat.zero_add,List.getElem?_toArray,C.cg]
     rw [C.cg (fun j=>(f j).val)]
     split <;> rfl
    have hrun : ∀ w' : World,(Op.equalIn 10000 ty (C.agg n f).val (C.agg m g).val).run P w' = .ok t w':=fun w'=>by
     simp only [C.val]
     rw [run_equalIn_struct w' 9999 ty _ _ (by rw [hfo]; exact hfs) hst,hfo]
     exact K6 9998 fs.toList ks ((List.range n).map f) ((List.range m).map g) 0 t ht (hcell n f) (hcell m g) (by rw [List.map_map,List.map_map]; exact he)
    refine cC h hd hn (x:=.bool (xor neg t)) trivial (fun _ _ _ _ _ _ e=>(by cases e)) trivial (fun w' _=>?_) hK
    have e1 : ∀ w' : World,(eqGuard (bif neg then .neq else .eql) ty x' y' (C.agg n f).val (C.agg m g).val).run P w' = .ok () w':=fun w'=>run_eqGuard_agg w' _ ty x' y' _ _ Ox
    cases neg
    ·simp only [execOp,ho,← p2,← q2,Sem.run_bind,cond_false]
     simp only [cond_false] at e1
     rw [e1]
     simp only [Result.andThen_ok]
     rw [show (C.agg n f).val = .agg _ from rfl,show (C.agg m g).val = .agg _ from rfl] at hrun ⊢
     rw [run_eql_struct,hrun]
     simp
     rfl
    ·simp only [execOp,ho,← p2,← q2,Sem.run_bind,cond_true]
     simp only [cond_true] at e1
     rw [e1]
     simp only [Result.andThen_ok]
     rw [show (C.agg n f).val = .agg _ from rfl,show (C.agg m g).val = .agg _ from rfl] at hrun ⊢
     rw [run_neq_struct,hrun]
     simp
     rfl
   | _=>exact hK.elim
  | _=>exact hK.elim
 ·cases ht
end
end M
namespace M
open Go Go.RowKit
variable [Bs]
section
variable {P : Program} {c : Ctx} {G : Nat→C} {zl : Nat→Nat→Prop} {s : ag} {a : Act} {w : World} {o : Oper} {K : ag→Prop}
structure Ik (w : World) (zl zb : Nat→Nat→Prop) (v : Value) (z : Nat) (A : Option Ad) (len cap : Nat) (e : Nat→Nat→C) : Prop where
 val : v = .slice (A.map fun q=>⟨q.1,q.2.1,q.2.2⟩) len cap
 cap : len≤cap
 cell : ∀ i j,i < len→j < z→∃ g o,A = some (g,o,none)∧w.cell? ⟨g,o + i * z + j,none⟩ = some (e i j).val
 PA : ∀ i j,i < len→j < z→(e i j).cell∧(e i j).bO∧(e i j).ok w (Zf zl zb)
def cx (z len : Nat) (e : Nat→Nat→C) : List (List X):=(List.range len).map fun i=>(List.range z).map fun j=>(e i j).er
theorem B3 {zb : Nat→Nat→Prop} (h : Inv w zl zb G s) {y : C} (hy : cI w zl zb G y) {z : Nat} {xs : List (List X)} (hc : rowAt s y.er = some (z,xs)) : ∃ A len cap e,xs = cx z len e∧Ik w zl zb y.val z A len cap e:=by
 cases y with
 | row m sz A len cap e =>
  simp only [C.er,rowAt,Option.some.injEq,Prod.mk.injEq] at hc
  obtain ⟨rfl,rfl⟩:=hc
  obtain ⟨h1,h2,h3,h4,h5⟩:=hy.ok
  exact ⟨A,len,cap,e,rfl,rfl,h1,fun i j hi hj=>by obtain ⟨g,o,hA,hcl,_⟩:=h2 i j hi hj; exact ⟨g,o,hA,hcl⟩,fun i j hi hj=>by obtain ⟨a1,a2,a3,a4⟩:=h3 i j hi hj; exact ⟨a1,a2,a4⟩⟩
 | ref v r p =>
  obtain ⟨y',z',hs,hF,hv,m,sz,A,len,cap,e,rfl⟩:=hy.rf
  cases hF with
  | row m m' sz A len cap e e' =>
   simp only [C.er,rowAt,look] at hc
   rw [← h.er,C.dV,hs] at hc
   simp only [Option.map_some,C.er,Option.some.injEq,Prod.mk.injEq] at hc
   obtain ⟨rfl,rfl⟩:=hc
   obtain ⟨h1,h2,h3,h4,h5⟩:=C.ew p hs (h.ok r)
   exact ⟨A,len,cap,e',rfl,hv.symm,h1,fun i j hi hj=>by obtain ⟨g,o,hA,hcl,_⟩:=h2 i j hi hj; exact ⟨g,o,hA,hcl⟩,fun i j hi hj=>by obtain ⟨a1,a2,a3,a4⟩:=h3 i j hi hj; exact ⟨a1,a2,a4⟩⟩
 | cut v r p lo hi =>
  obtain ⟨m,sz,A,len,cap,e,A',cap',hs,hv,hlo,hhi,hcap,ff,-,-⟩:=hy.rf
  simp only [C.er,rowAt,look] at hc
  rw [← h.er,C.dV,hs] at hc
  simp only [Option.map_some,C.er,Option.some.injEq,Prod.mk.injEq] at hc
  obtain ⟨rfl,rfl⟩:=hc
  obtain ⟨h1,h2,h3,h4,h5⟩:=C.ew p hs (h.ok r)
  have hX : (((List.range len).map fun i=>(List.range sz).map fun j=>(e i j).er).take hi).drop lo = cx sz (hi - lo) fun i j=>e (i + lo) j:=by
   unfold cx
   rw [← List.map_take,← List.map_drop,List.take_range,Nat.min_eq_left hhi,jX,List.map_map]
   rfl
  refine ⟨A',hi - lo,cap',fun i j=>e (i + lo) j,hX,⟨hv,hcap,fun i j hi' hj=>?_,fun i j hi' hj=>?_⟩⟩
  ·obtain ⟨g,o,hA,hcl,_⟩:=h2 (i + lo) j (by omega) hj
   refine ⟨g,o + lo * sz,by rw [ff (by omega),hA,Option.map_some,ko],?_⟩
   rw [show o + lo * sz + i * sz + j = o + (i + lo) * sz + j by rw [Nat.add_mul]; omega]
   exact hcl
  ·obtain ⟨a1,a2,a3,a4⟩:=h3 (i + lo) j (by omega) hj
   exact ⟨a1,a2,a4⟩
 | _=>simp [C.er,rowAt] at hc
theorem Rl (z len : Nat) (e : Nat→Nat→C) : (cx z len e).length = len:=by simp [cx]
theorem QD (h : St c G zl s a w) {d : Nat} {ty el : TypeId} {x : AV} {x' : Operand} (ho : o.op = .call { callee:=.builtin .len,args:=#[x'],argTypes:=#[ty] }) (hu : P.underlying ty = some (.slice el)) (hd : o.dst = some d) (hn : d < c.nt) (hx : aD x' x = true)
  (hK : aG P (.len d x) s K) : cy P c o a w K:=by
 obtain ⟨y,e1,e2,e3⟩:=bu h hx
 obtain ⟨z,xs,k1,k2⟩:=hK
 rw [← e1] at k1
 obtain ⟨A,len,cap,e,rfl,hv⟩:=B3 h.inv e3 k1
 rw [Rl] at k2
 refine cC h hd hn (x:=.int .i64 len) trivial (fun _ _ _ _ _ _ e=>(by cases e)) trivial (fun w' _=>?_) k2
 simp [execOp,ho,resolve,invoke,builtin,← e2,hv.val,Builtin.len_,run_underlying hu,goInt,C.val]
theorem QS (h : St c G zl s a w) {d : Nat} {ty : TypeId} {x : AV} {x' : Operand} (ho : o.op = .call { callee:=.builtin .len,args:=#[x'],argTypes:=#[ty] }) (hu : P.underlying ty = some .string) (hd : o.dst = some d) (hn : d < c.nt) (hx : aD x' x = true)
  (hK : aG P (.mJ d x) s K) : cy P c o a w K:=by
 obtain ⟨y,e1,e2,e3⟩:=bu h hx
 simp only [aG] at hK
 split at hK
 ·rename_i t ht
  rw [← e1] at ht
  have:=vb ht
  subst this
  refine cC h hd hn (x:=.int .i64 t.size) trivial (fun _ _ _ _ _ _ e=>(by cases e)) trivial (fun w' _=>?_) hK
  simp [execOp,ho,resolve,invoke,builtin,← e2,Builtin.len_,run_underlying hu,goInt,C.val]
 ·exact hK.elim
theorem QO (h : St c G zl s a w) {d : Nat} {ty : TypeId} {x y : AV} {x' y' : Operand} (ho : o.op = .index ty x' y') (hu : P.underlying ty = some .string) (hd : o.dst = some d) (hn : d < c.nt) (hx : aD x' x = true) (hy : aD y' y = true)
  (hK : aG P (.de d x y) s K) : cy P c o a w K:=by
 obtain ⟨p,p1,p2,p3⟩:=bu h hx
 obtain ⟨q,q1,q2,q3⟩:=bu h hy
 simp only [aG] at hK
 split at hK
 ·rename_i t k n h1 h2
  rw [← p1] at h1
  rw [← q1] at h2
  have:=vb h1
  subst this
  have:=iZ h2
  subst this
  obtain ⟨k1,b,k2,k3⟩:=hK
  refine cC h hd hn (x:=.int .u8 b.toNat) trivial (fun _ _ _ _ _ _ e=>(by cases e)) trivial (fun w' _=>?_) k3
  have hb : t[n.toNat]? = some b:=k2
  simp [execOp,ho,← p2,← q2,C.val,Instr.index,asIntOf,run_underlying hu,if_pos k1,hb]
 ·exact hK.elim
theorem QC (h : St c G zl s a w) {d sz : Nat} {ty el : TypeId} {x y : AV} {x' y' : Operand} (ho : o.op = .indexAddr ty x' y') (hu : P.underlying ty = some (.slice el)) (hsz : ∃ i,P.info? el = some i∧i.size = sz) (h0 : 0 < sz) (hd : o.dst = some d) (hn : d < c.nt) (hx : aD x' x = true) (hy : aD y' y = true)
  (hK : aG P (.mg d sz x y) s K) : cy P c o a w K:=by
 obtain ⟨p,p1,p2,p3⟩:=bu h hx
 obtain ⟨q,q1,q2,q3⟩:=bu h hy
 obtain ⟨ii,hi,gC⟩:=hsz
 simp only [aG] at hK
 rw [← p1] at hK
 split at hK
 ·rename_i k n h2
  rw [← q1] at h2
  have:=iZ h2
  subst this
  obtain ⟨k1,hK⟩:=hK
  have hrun : ∀ g o' len cap,a.eval x' = .slice (some ⟨g,o',none⟩) len cap→n.toNat < len→∀ w',Ext (fun _ _=>False) w w'→(execOp a.eval o).run P w' = .ok (.value (.pointer (some ⟨g,o' + n.toNat * sz,none⟩))) w':=by
   intro g o' len cap hv hlt w' _
   have hb : 0≤n∧n < len:=⟨k1,by omega⟩
   simp [execOp,ho,hv,← q2,C.val,Instr.indexAt,asIntOf,run_underlying hu,hb,Go.sizeOf,typeInfo,hi,gC,lF]
  cases p with
  | row m z A len cap e =>
   simp only [C.er] at hK
   obtain ⟨rfl,e',k2,k3⟩:=hK
   rw [C.cg] at k2
   split at k2
   ·rename_i hlt
    injection k2 with k2
    obtain ⟨h1,h2,h3,h4,h5⟩:=p3.ok
    obtain ⟨g,o',hA,_,_⟩:=h2 n.toNat 0 hlt h0
    refine fL h hd hn (x:=.ptr m g (o' + n.toNat * z) z fun j=>e n.toNat j) ⟨⟨fun j hj=>?_,?_,fun j hj=>?_,fun j hj b k hf=>?_⟩,fun j hj=>?_,fun b k hf=>?_⟩ ?_ ?_
    ·obtain ⟨g1,o1,kF,hcl,hz⟩:=h2 n.toNat j hlt hj
     rw [hA] at kF
     injection kF with kF
     injection kF with e1 e2
     injection e2 with e2
     subst e1; subst e2
     refine ⟨hcl,hz,fun hm=>?_⟩
     exact (p3.bW g 0 ⟨hm,.inl ⟨_,hA⟩⟩).elim
    ·obtain ⟨g1,o1,kF,hcl,hz⟩:=h2 n.toNat 0 hlt h0
     rw [hA] at kF
     injection kF with kF
     injection kF with e1 e2
     subst e1
     rcases Nat.lt_or_ge g w.heap.size with hg | hg
     ·exact hg
     ·simp [World.cell?,Array.getElem?_eq_none hg] at hcl
    ·obtain ⟨a1,a2,a3,a4⟩:=h3 n.toNat j hlt hj
     exact ⟨a1,a3,a4⟩
    ·obtain ⟨a1,a2,a3,a4⟩:=h3 n.toNat j hlt hj
     exact (p3.bW b k (C.gj a1 a3 hlt hj hf)).elim
    ·obtain ⟨a1,a2,a3,a4⟩:=h3 n.toNat j hlt hj
     show (e n.toNat j).rf G
     cases hh : e n.toNat j with
     | ref=>rw [hh] at a2; exact a2.elim
     | az=>rw [hh] at a2; exact a2.elim
     | cut=>rw [hh] at a2; exact a2.elim
     | ptr=>rw [hh] at a2; exact a2.elim
     | agg=>rw [hh] at a2; exact a2.elim
     | au=>rw [hh] at a2; exact a2.elim
     | fn=>rw [hh] at a2; exact a2.elim
     | _=>trivial
    ·exact p3.bW g 0 ⟨hf.1,.inl ⟨_,hA⟩⟩
    ·exact hrun g o' len cap (by rw [← p2,C.val,hA]; rfl) hlt
    ·rw [← k2] at k3; exact k3
   ·cases k2
  | ref v r pp =>
   obtain ⟨y',z',hs,hF,hv,m,z1,A,len,cap,e,rfl⟩:=p3.rf
   cases hF with
   | row m m' sz' A len cap e e' =>
    simp only [C.er,look] at hK
    rw [← h.inv.er,C.dV,hs] at hK
    simp only [Option.map_some,C.er] at hK
    obtain ⟨k1,k2,k3⟩:=hK
    have Fo : n.toNat < len:=by simpa using k2
    subst k1
    obtain ⟨h1,h2,h3,h4,h5⟩:=C.ew pp hs (h.inv.ok r)
    obtain ⟨g,o',hA,_,_⟩:=h2 n.toNat 0 Fo h0
    subst hA
    refine fL h hd hn (x:=.az (.pointer (some ⟨g,o' + n.toNat * _,none⟩)) r pp n.toNat 0) ⟨trivial,⟨_,hs,.inl ⟨_,_,_,_,_,_,_,rfl,rfl⟩⟩,fun _ _ hh=>hh⟩ ?_ k3
    exact hrun g o' len cap (by rw [← p2]; exact hv.symm) Fo
  | cut v r pp lo hi =>
   obtain ⟨m,z1,A,len,cap,e,A',cap',hs,hv,hlo,hhi,hcap,ff,-,-⟩:=p3.rf
   simp only [C.er,look] at hK
   rw [← h.inv.er,C.dV,hs] at hK
   simp only [Option.map_some,C.er] at hK
   obtain ⟨k1,k2,k3⟩:=hK
   subst k1
   obtain ⟨h1,h2,h3,h4,h5⟩:=C.ew pp hs (h.inv.ok r)
   obtain ⟨g,o',hA,_,_⟩:=h2 (lo + n.toNat) 0 (by omega) h0
   subst hA
   refine fL h hd hn (x:=.az (.pointer (some ⟨g,o' + (lo + n.toNat) * _,none⟩)) r pp (lo + n.toNat) 0) ⟨trivial,⟨_,hs,.inl ⟨_,_,_,_,_,_,_,rfl,rfl⟩⟩,fun _ _ hh=>hh⟩ ?_ k3
   have:=hrun g (o' + lo * z1) (hi - lo) cap' (by rw [← p2,C.val,hv,ff (by omega),Option.map_some,ko]; rfl) (by omega)
   intro w' hE
   rw [this w' hE,C.val,Nat.add_mul,Nat.add_assoc]
  | _=>simp only [C.er] at hK
 ·exact hK.elim
theorem Qz (h : St c G zl s a w) {d i : Nat} {x : AV} {x' : Operand} (ho : o.op = .extract x' i) (hd : o.dst = some d) (hn : d < c.nt) (hx : aD x' x = true)
  (hK : aG P (.ext d x i) s K) : cy P c o a w K:=by
 obtain ⟨y,e1,e2,e3⟩:=bu h hx
 simp only [aG] at hK
 rw [← e1] at hK
 cases y with
 | au n f =>
  simp only [C.er] at hK
  obtain ⟨hi,hK⟩:=hK
  have hi : i < n:=by simpa using hi
  ·have hX : ((List.range n).map fun j=>(f j).er).getD i .dead = (f i).er:=by
    rw [List.getD_eq_getElem?_getD,C.cg,if_pos hi]; rfl
   rw [hX] at hK
   refine fL h hd hn (x:=f i) ⟨(e3.ok.1 i hi).2,e3.rf i hi,fun b k hf=>e3.bW b k ⟨i,hi,hf⟩⟩ (fun w' _=>?_) hK
   have hv : ((List.range n).map fun j=>(f j).val).toArray[i]? = some (f i).val:=by
    rw [List.getElem?_toArray,C.cg,if_pos hi]
   simp only [execOp,ho,← e2,C.val,Instr.extract,hv,Sem.run_bind,Sem.run_pure,Result.andThen_ok]
 | _=>exact hK.elim
end
end M
namespace M
open Go Go.RowKit
variable [Bs]
section
variable {P : Program} {c : Ctx} {G : Nat→C} {zl : Nat→Nat→Prop} {s : ag} {a : Act} {w : World} {o : Oper} {K : ag→Prop}
theorem Is {n : Nat} {f : Nat→C} {j : Nat} (hj : j < n) : ((List.range n).map fun j=>(f j).val).toArray[j]? = some (f j).val:=by
 rw [List.getElem?_toArray,C.cg,if_pos hj]
theorem Iu {zb : Nat→Nat→Prop} {n : Nat} {f : Nat→C} (hy : cI w zl zb G (.agg n f)) {off sz : Nat} (h : off + sz≤n) : cI w zl zb G (.agg sz fun j=>f (j + off)) where
 ok:=⟨fun j hj=>hy.ok.1 (j + off) (by omega),fun j hj b k hf j' hj' hne=>hy.ok.2 (j + off) (by omega) b k hf (j' + off) (by omega) (by omega)⟩
 rf:=fun j hj=>hy.rf (j + off) (by omega)
 bW:=fun b k ⟨j,hj,hf⟩=>hy.bW b k ⟨j + off,by omega,hf⟩
theorem CP {zb : Nat→Nat→Prop} {n : Nat} {f : Nat→C} (hy : cI w zl zb G (.agg n f)) {j : Nat} (h : j < n) : cI w zl zb G (f j) where
 ok:=(hy.ok.1 j h).2
 rf:=hy.rf j h
 bW:=fun b k hf=>hy.bW b k ⟨j,h,hf⟩
theorem Iv (n : Nat) (f : Nat→C) {off sz : Nat} (h : off + sz≤n) : (C.agg sz fun j=>f (j + off)).er = .agg ((((List.range n).map fun j=>(f j).er).drop off).take sz):=by
 simp only [C.er,← List.map_drop,jX,← List.map_take,List.take_range]
 rw [Nat.min_eq_left (by omega),List.map_map]
 rfl
theorem Iw (n : Nat) (f : Nat→C) {off sz : Nat} (h : off + sz≤n) : (C.agg sz fun j=>f (j + off)).val = .agg (((List.range n).map fun j=>(f j).val).toArray.extract off (off + sz)):=by
 simp only [C.val]
 congr 1
 apply Array.ext_getElem?
 intro i
 rw [List.getElem?_toArray,C.cg,Array.getElem?_extract]
 by_cases hi : i < sz
 ·have h1 : i < min (off + sz) ((List.range n).map fun j=>(f j).val).toArray.size - off:=by simp; omega
  rw [if_pos hi,if_pos h1,List.getElem?_toArray,C.cg,if_pos (by omega),Nat.add_comm]
 ·have h1 : ¬ i < min (off + sz) ((List.range n).map fun j=>(f j).val).toArray.size - off:=by simp; omega
  rw [if_neg hi,if_neg h1]
theorem Ol (n : Nat) (f : Nat→C) {off : Nat} (h : off < n) : (((List.range n).map fun j=>(f j).er).drop off).headD .dead = (f off).er:=by
 rw [List.headD_eq_head?_getD,List.head?_drop,C.cg,if_pos h]
 rfl
theorem Gd {n : Nat} {f : Nat→C} {off sz : Nat} {agg : Bool} {ty : TypeId} (h : off + sz≤n) (h1 : agg = true∨sz = 1) (hsz : ∃ i,P.info? ty = some i∧i.size = sz) (jc : ∃ dd,P.underlying ty = some dd∧(match dd with | .struct _=>true | .array _ _=>true | _=>false) = agg) :
  (part ty ((List.range n).map fun j=>(f j).val).toArray off).run P w = .ok (bif agg then (C.agg sz fun j=>f (j + off)) else f off).val w:=by
 obtain ⟨i,hi,gC⟩:=hsz
 obtain ⟨dd,rI,hda⟩:=jc
 have nu : (isAgg ty).run P w = .ok agg w:=by
  subst hda
  simp only [isAgg,Sem.run_bind,run_underlying rI,Result.andThen_ok]
  cases dd <;> rfl
 have hsize : (Go.sizeOf ty).run P w = .ok sz w:=by simp [Go.sizeOf,typeInfo,hi,gC]
 unfold part
 simp only [Sem.run_bind,nu,Result.andThen_ok]
 cases agg with
 | true=>simp only [if_true,Sem.run_bind,hsize,Result.andThen_ok,Sem.run_pure,cond_true,Iw n f h]
 | false =>
  have hs1 : sz = 1:=h1.resolve_left (by simp)
  simp only [Bool.false_eq_true,if_false,Is (f:=f) (show off < n by omega),Sem.run_pure,cond_false]
theorem EA (h : St c G zl s a w) {n : Nat} {f : Nat→C} {off sz : Nat} {agg : Bool} (hy : cI w zl c.zb G (.agg n f)) (hb : off + sz≤n) (h1 : agg = true∨sz = 1) {d : Nat} (hd : o.dst = some d) (hn : d < c.nt)
  (hrun : ∀ w',Ext (fun _ _=>False) w w'→(execOp a.eval o).run P w' = .ok (.value (bif agg then (C.agg sz fun j=>f (j + off)) else f off).val) w')
  (hK : K (put d (bif agg then .agg ((((List.range n).map fun j=>(f j).er).drop off).take sz) else (((List.range n).map fun j=>(f j).er).drop off).headD .dead) s)) : cy P c o a w K:=by
 cases agg with
 | true=>exact fL h hd hn (Iu hy hb) hrun (by rw [Iv n f hb]; exact hK)
 | false =>
  have hs1 : sz = 1:=h1.resolve_left (by simp)
  exact fL h hd hn (CP hy (by omega)) hrun (by rw [← Ol n f (by omega)]; exact hK)
theorem QB (h : St c G zl s a w) {d off sz fi : Nat} {agg : Bool} {ty : TypeId} {fs : Array Field} {f : Field} {x : AV} {x' : Operand} (ho : o.op = .field ty x' fi) (hu : P.underlying ty = some (.struct fs)) (hf : fs[fi]? = some f) (hfo : f.offset = off)
  (hsz : ∃ i,P.info? f.type = some i∧i.size = sz) (jc : ∃ dd,P.underlying f.type = some dd∧(match dd with | .struct _=>true | .array _ _=>true | _=>false) = agg)
  (h1 : agg = true∨sz = 1) (hd : o.dst = some d) (hn : d < c.nt) (hx : aD x' x = true) (hK : aG P (.ng d x off sz agg) s K) : cy P c o a w K:=by
 obtain ⟨y,e1,e2,e3⟩:=bu h hx
 subst hfo
 simp only [aG] at hK
 rw [← e1] at hK
 cases y with
 | agg n g =>
  simp only [C.er] at hK
  obtain ⟨hb,hK⟩:=hK
  have hb : f.offset + sz≤n:=by simpa using hb
  refine EA h e3 hb h1 hd hn (fun w' _=>?_) hK
  simp only [execOp,ho,← e2,C.val,Instr.field,Sem.run_bind,run_underlying hu,Result.andThen_ok,hf,asAgg,Sem.run_pure,Gd hb h1 hsz jc]
 | _=>exact hK.elim
theorem Ql (h : St c G zl s a w) {d n sz : Nat} {agg : Bool} {ty el : TypeId} {x y : AV} {x' y' : Operand} (ho : o.op = .index ty x' y') (hu : P.underlying ty = some (.array n el))
  (hsz : ∃ i,P.info? el = some i∧i.size = sz) (jc : ∃ dd,P.underlying el = some dd∧(match dd with | .struct _=>true | .array _ _=>true | _=>false) = agg)
  (h1 : agg = true∨sz = 1) (hd : o.dst = some d) (hn : d < c.nt) (hx : aD x' x = true) (hy : aD y' y = true) (hK : aG P (.mQ d n sz agg x y) s K) : cy P c o a w K:=by
 obtain ⟨p,p1,p2,p3⟩:=bu h hx
 obtain ⟨q,q1,q2,q3⟩:=bu h hy
 simp only [aG] at hK
 rw [← p1] at hK
 cases p with
 | agg m g =>
  simp only [C.er] at hK
  split at hK
  ·rename_i k j h2 h3
   injection h2 with h2
   subst h2
   rw [← q1] at h3
   have:=iZ h3
   subst this
   obtain ⟨k1,k2,k3,hK⟩:=hK
   have k3 : m = n * sz:=by simpa using k3
   have hb : j.toNat * sz + sz≤m:=by
    rw [k3]
    have : (j.toNat + 1) * sz≤n * sz:=Nat.mul_le_mul_right _ (by omega)
    rw [Nat.add_mul] at this
    omega
   obtain ⟨i,hi,gC⟩:=hsz
   refine EA h p3 hb h1 hd hn (fun w' _=>?_) hK
   have O4:=Gd (P:=P) (w:=w') (f:=g) hb h1 ⟨i,hi,gC⟩ jc
   have hbd : 0≤j∧j < (n : Int):=⟨k1,k2⟩
   have hsize : (Go.sizeOf el).run P w' = .ok sz w':=by simp [Go.sizeOf,typeInfo,hi,gC]
   simp only [execOp,ho,← p2,← q2,C.val,Instr.index,asIntOf,Sem.run_bind,run_underlying hu,Result.andThen_ok,Sem.run_pure,if_pos hbd,hsize,O4]
  ·exact hK.elim
 | _=>simp only [C.er] at hK
theorem QI (h : St c G zl s a w) {d : Nat} {ts : Array TypeId} {x y : AV} {x' y' : Operand} (ho : o.op = .call { callee:=.builtin .min,args:=#[x',y'],argTypes:=ts }) (hd : o.dst = some d) (hn : d < c.nt) (hx : aD x' x = true) (hy : aD y' y = true)
  (hK : aG P (.mn d [x,y]) s K) : cy P c o a w K:=by
 obtain ⟨p,p1,p2,p3⟩:=bu h hx
 obtain ⟨q,q1,q2,q3⟩:=bu h hy
 simp only [aG,List.map_cons,List.map_nil] at hK
 rw [← p1,← q1] at hK
 split at hK
 ·rename_i k m k' n he
  simp only [List.cons.injEq,and_true] at he
  have e1:=iZ he.1
  have e2:=iZ he.2
  subst e1; subst e2
  obtain ⟨rfl,hK⟩:=hK
  refine cC h hd hn (x:=.int k (if n < m then n else m)) trivial (fun _ _ _ _ _ _ e=>(by cases e)) trivial (fun w' _=>?_) hK
  simp [execOp,ho,resolve,invoke,builtin,← p2,← q2,C.val,Builtin.min_,Builtin.min2]
 ·exact hK.elim
theorem QJ (h : St c G zl s a w) {d : Nat} {ts : Array TypeId} {x y : AV} {x' y' : Operand} (ho : o.op = .call { callee:=.builtin .max,args:=#[x',y'],argTypes:=ts }) (hd : o.dst = some d) (hn : d < c.nt) (hx : aD x' x = true) (hy : aD y' y = true)
  (hK : aG P (.mx d [x,y]) s K) : cy P c o a w K:=by
 obtain ⟨p,p1,p2,p3⟩:=bu h hx
 obtain ⟨q,q1,q2,q3⟩:=bu h hy
 simp only [aG,List.map_cons,List.map_nil] at hK
 rw [← p1,← q1] at hK
 split at hK
 ·rename_i k m k' n he
  simp only [List.cons.injEq,and_true] at he
  have e1:=iZ he.1
  have e2:=iZ he.2
  subst e1; subst e2
  obtain ⟨rfl,hK⟩:=hK
  refine cC h hd hn (x:=.int k (if n > m then n else m)) trivial (fun _ _ _ _ _ _ e=>(by cases e)) trivial (fun w' _=>?_) hK
  simp [execOp,ho,resolve,invoke,builtin,← p2,← q2,C.val,Builtin.max_,Builtin.max2]
 ·exact hK.elim
def iX : Option Operand→Option AV→Bool
 | none,none=>true
 | some x',some x=>aD x' x
 | _,_=>false
theorem yG (h : St c G zl s a w) {lo' : Option Operand} {lo : Option AV} (hc : iX lo' lo = true) (d : Nat) (h0 : 0≤asNat s lo d) :
  (lo'.map a.eval = none∧asNat s lo d = d)∨∃ k,lo'.map a.eval = some (.int k (asNat s lo d)):=by
 cases lo' with
 | none =>
  cases lo with
  | none=>exact .inl ⟨rfl,rfl⟩
  | some x=>cases hc
 | some x' =>
  cases lo with
  | none=>cases hc
  | some x =>
   obtain ⟨p,p1,p2,p3⟩:=bu h hc
   simp only [asNat] at h0 ⊢
   rw [← p1] at h0 ⊢
   cases p <;> simp [C.er] at h0
   ·exact .inr ⟨_,by simp only [Option.map_some,← p2]; rfl⟩
theorem run_sliceBound {k : IntKind} {i : Int} {y : Nat} {code : BoundsCode} (h : 0≤i∧i≤y) : (Instr.sliceBound (.int k i) y code).run P w = .ok i.toNat w:=by
 simp [Instr.sliceBound,asIntOf,h]
theorem Gc {w' : World} (h : St c G zl s a w) {lo' hi' : Option Operand} {lo hi : Option AV} (h1 : iX lo' lo = true) (h2 : iX hi' hi = true) {Fm : Bool} {len cap : Nat} (hlc : len≤cap)
  (k1 : 0≤asNat s lo 0) (k2 : asNat s lo 0≤asNat s hi len) (k3 : asNat s hi len≤len) :
  (Instr.sliceBounds Fm len cap (lo'.map a.eval) (hi'.map a.eval) none).run P w' = .ok ((asNat s lo 0).toNat,(asNat s hi len).toNat,cap) w':=by
 have B : ∀ {k : IntKind} {i : Int} {y : Nat} {code : BoundsCode},0≤i∧i≤y→(Instr.sliceBound (.int k i) y code).run P w' = .ok i.toNat w':=run_sliceBound
 unfold Instr.sliceBounds
 rcases yG h h2 len (by omega) with ⟨e1,e2⟩ | ⟨k,e1⟩
 ·rw [e2] at k2 ⊢
  rcases yG h h1 0 k1 with ⟨e3,e4⟩ | ⟨k',e3⟩
  ·rw [e1,e3,e4]
   simp
  ·rw [e1,e3]
   simp only [Sem.run_bind,Sem.run_pure,Result.andThen_ok,B (And.intro k1 k2)]
   simp
 ·rcases yG h h1 0 k1 with ⟨e3,e4⟩ | ⟨k',e3⟩
  ·rw [e1,e3,e4]
   simp only [Sem.run_bind,Sem.run_pure,Result.andThen_ok,B (show 0≤asNat s hi len∧asNat s hi len≤(cap : Int) by omega)]
   simp
  ·rw [e1,e3]
   have hle : asNat s lo 0≤((asNat s hi len).toNat : Int):=by omega
   simp only [Sem.run_bind,Sem.run_pure,Result.andThen_ok,B (show 0≤asNat s hi len∧asNat s hi len≤(cap : Int) by omega),B (And.intro k1 hle)]
theorem QT (h : St c G zl s a w) {d : Nat} {ty : TypeId} {x : AV} {x' : Operand} {lo' hi' : Option Operand} {lo hi : Option AV} (ho : o.op = .slice ty x' lo' hi' none) (hu : P.underlying ty = some .string) (hd : o.dst = some d) (hn : d < c.nt) (hx : aD x' x = true)
  (h1 : iX lo' lo = true) (h2 : iX hi' hi = true) (hK : aG P (.j8 d x lo hi) s K) : cy P c o a w K:=by
 obtain ⟨y,e1,e2,e3⟩:=bu h hx
 simp only [aG] at hK
 split at hK
 ·rename_i t ht
  rw [← e1] at ht
  have:=vb ht
  subst this
  obtain ⟨k1,k2,k3,k4⟩:=hK
  refine cC h hd hn (x:=.str _) trivial (fun _ _ _ _ _ _ e=>(by cases e)) ?_ (fun w' _=>?_) k4
  ·have : t.size≤9223372036854775807:=e3.ok
   show (t.extract _ _).size≤_
   rw [ByteArray.size_extract]
   omega
  ·simp only [execOp,ho,← e2,C.val,Instr.sliceAt,Instr.slice,Sem.run_bind,run_underlying hu,Result.andThen_ok,Option.map_none,Option.isSome_none,Bool.false_eq_true,if_false,Sem.run_pure,Gc h h1 h2 (Nat.le_refl t.size) k1 k2 k3]
 ·exact hK.elim
theorem QN (h : St c G zl s a w) {d sz : Nat} {ty el : TypeId} {x : AV} {x' : Operand} {lo' hi' : Option Operand} {lo hi : Option AV} (ho : o.op = .slice ty x' lo' hi' none) (hu : P.underlying ty = some (.slice el)) (hsz : ∃ i,P.info? el = some i∧i.size = sz) (hd : o.dst = some d) (hn : d < c.nt) (hx : aD x' x = true)
  (h1 : iX lo' lo = true) (h2 : iX hi' hi = true) (hK : aG P (.mI d sz x lo hi) s K) : cy P c o a w K:=by
 obtain ⟨y,e1,e2,e3⟩:=bu h hx
 obtain ⟨xs,k0,k1,k2,k3,hK⟩:=hK
 rw [← e1] at k0 hK
 obtain ⟨ii,rM,gC⟩:=hsz
 have hsize : ∀ w : World,(Go.sizeOf el).run P w = .ok sz w:=by intro w; simp [Go.sizeOf,typeInfo,rM,gC]
 have hrun : ∀ (A : Option Ad) (cap : Nat),y.val = .slice (A.map fun q=>⟨q.1,q.2.1,q.2.2⟩) xs.length cap→xs.length≤cap→∃ A' cap',(∀ w',Ext (fun _ _=>False) w w'→(execOp a.eval o).run P w' = .ok (.value (.slice (Option.map (fun q : Ad=>(⟨q.1,q.2.1,q.2.2⟩ : Addr)) A') (((asNat s hi xs.length).toNat - (asNat s lo 0).toNat)) cap')) w') ∧
   cap' = cap - (asNat s lo 0).toNat∧(A = none→A' = none)∧((asNat s lo 0).toNat < cap→A' = A.map fun q=>fF ((asNat s lo 0).toNat * sz) q)∧((A' = A∧cap' = 0)∨A' = A.map fun q=>fF ((asNat s lo 0).toNat * sz) q):=by
  intro A cap hv hcap
  refine ⟨if cap = (asNat s lo 0).toNat then A else A.map fun q=>fF ((asNat s lo 0).toNat * sz) q,cap - (asNat s lo 0).toNat,fun w' _=>?_,rfl,fun hA=>by subst hA; split <;> rfl,fun hlt=>if_neg (by omega),?_⟩
  rotate_left
  ·by_cases hh : cap = (asNat s lo 0).toNat
   ·exact .inl ⟨if_pos hh,by omega⟩
   ·exact .inr (if_neg hh)
  have hb:=Gc (P:=P) (w':=w') h h1 h2 (Fm:=true) hcap k1 k2 k3
  simp only [execOp,ho,← e2,hv,Instr.sliceAt,Instr.slice,Sem.run_bind,run_underlying hu,Result.andThen_ok,Option.map_none,hb,hsize,Sem.run_pure]
  congr 3
  split
  ·rfl
  ·cases A with
   | none=>rfl
   | some q=>simp [Ip]
 cases y with
 | row m z A len cap e =>
  simp only [C.er,rowAt,Option.some.injEq,Prod.mk.injEq] at k0
  obtain ⟨rfl,rfl⟩:=k0
  have hlen : ((List.range len).map fun i=>(List.range z).map fun j=>(e i j).er).length = len:=by simp
  rw [hlen] at hrun k2 k3 hK
  obtain ⟨o1,o2,o3,o4,o5⟩:=e3.ok
  obtain ⟨A',cap',r1,r2,r3,r4,-⟩:=hrun A cap rfl o1
  obtain ⟨L,hL⟩ : ∃ L,L = (asNat s lo 0).toNat:=⟨_,rfl⟩
  obtain ⟨H,hH⟩ : ∃ H,H = (asNat s hi len).toNat:=⟨_,rfl⟩
  rw [← hL,← hH] at r1 hK
  rw [← hL] at r2 r4
  have WH : L≤H:=by omega
  have NZ : H≤len:=by omega
  have ff : L < H→A' = A.map fun q=>fF (L * z) q:=fun hlt=>r4 (by omega)
  refine fL h hd hn (x:=.row m z A' (H - L) cap' fun i j=>e (i + L) j) ⟨⟨by omega,fun i j hi hj=>?_,fun i j hi hj=>o3 (i + L) j (by omega) hj,fun hm=>?_,fun i j hi hj b k hf=>?_⟩,trivial,fun b k hf=>?_⟩ r1 ?_
  ·obtain ⟨g,o',q1,q2,q3⟩:=o2 (i + L) j (by omega) hj
   refine ⟨g,o' + L * z,by rw [ff (by omega),q1,Option.map_some,ko],?_,fun hm=>?_⟩
   ·rw [show o' + L * z + i * z + j = o' + (i + L) * z + j by rw [Nat.add_mul]; omega]; exact q2
   ·rw [show o' + L * z + i * z + j = o' + (i + L) * z + j by rw [Nat.add_mul]; omega]; exact q3 hm
  ·rcases o4 hm with ⟨q1,q2⟩ | ⟨g,o',arr,t,fz,q1,_⟩
   ·exact .inl ⟨r3 q1,by omega⟩
   ·exact (e3.bW g 0 ⟨hm,.inl ⟨_,q1⟩⟩).elim
  ·exact (e3.bW b k (C.gj (o3 (i + L) j (by omega) hj).1 (o3 (i + L) j (by omega) hj).2.2.1 (by omega) hj hf)).elim
  ·obtain ⟨hm,⟨o',hA⟩ | ⟨i,j,hi,hj,hf⟩⟩:=hf
   ·rcases o4 hm with ⟨q1,_⟩ | ⟨g,XC,_,_,_,q1,_⟩
    ·rw [r3 q1] at hA; cases hA
    ·exact e3.bW g 0 ⟨hm,.inl ⟨_,q1⟩⟩
   ·exact e3.bW b k (C.gj (o3 (i + L) j (by omega) hj).1 (o3 (i + L) j (by omega) hj).2.2.1 (by omega) hj hf)
  ·have hX : (C.row m z A' (H - L) cap' fun i j=>e (i + L) j).er = .row m z ((((List.range len).map fun i=>(List.range z).map fun j=>(e i j).er).take H).drop L):=by
    simp only [C.er,← List.map_take,← List.map_drop,List.take_range]
    rw [Nat.min_eq_left NZ,jX,List.map_map]
    rfl
   rw [hX]
   exact hK
 | ref v r p =>
  obtain ⟨y',z',hs,hF,hv,m,sz',A,len,cap,e,rfl⟩:=e3.rf
  cases hF with
  | row m m' sz' A len cap e e' =>
   simp only [C.er,rowAt,look] at k0
   rw [← h.inv.er,C.dV,hs] at k0
   simp only [Option.map_some,C.er,Option.some.injEq,Prod.mk.injEq] at k0
   obtain ⟨rfl,rfl⟩:=k0
   have hlen : ((List.range len).map fun i=>(List.range sz').map fun j=>(e' i j).er).length = len:=by simp
   rw [hlen] at hrun k2 k3 hK
   obtain ⟨o1,o2,o3,o4,o5⟩:=C.ew p hs (h.inv.ok r)
   obtain ⟨A',cap',r1,r2,r3,r4,r5⟩:=hrun A cap hv.symm o1
   refine fL h hd hn (x:=.cut _ r p (asNat s lo 0).toNat (asNat s hi len).toNat) ⟨trivial,⟨m',_,A,len,cap,e',A',cap',hs,rfl,by omega,by omega,by omega,fun hlt=>r4 (by omega),by omega,r5⟩,fun _ _ hh=>hh⟩ r1 hK
 | _=>exact hK.elim
def iA : List Operand→List AV→Bool
 | [],[]=>true
 | x' :: l',x :: l=>aD x' x && iA l' l
 | _,_=>false
theorem BP (h : St c G zl s a w) : ∀ {l' : List Operand} {l : List AV},iA l' l = true→∃ cs : List C,cs.map C.er = l.map (ai s)∧cs.map C.val = l'.map a.eval∧∀ x∈cs,cI w zl c.zb G x
 | [],[],_=>⟨[],rfl,rfl,fun _ hx=>(by cases hx)⟩
 | x' :: l',x :: l,hc=>by
  simp only [iA,Bool.and_eq_true] at hc
  obtain ⟨cs,l1,l2,l3⟩:=BP h hc.2
  obtain ⟨p,p1,p2,p3⟩:=bu h hc.1
  refine ⟨p :: cs,by simp [p1,l1],by simp [p2,l2],fun x hx=>?_⟩
  rcases List.mem_cons.1 hx with rfl | hx
  ·exact p3
  ·exact l3 x hx
 | [],_ :: _,hc=>by cases hc
 | _ :: _,[],hc=>by cases hc
theorem QH (h : St c G zl s a w) {d : Nat} {f : FuncId} {cs : List AV} {cs' : Array Operand} (ho : o.op = .makeFunc (.func f) #[] cs') (hd : o.dst = some d) (hn : d < c.nt) (hx : iA cs'.toList cs = true)
  (hK : aG P (.kX d f cs) s K) : cy P c o a w K:=by
 obtain ⟨l,l1,l2,l3⟩:=BP h hx
 refine fL h hd hn (x:=.fn f l.length fun j=>l.getD j (.dead undef)) ⟨fun j hj=>⟨(l3 _ (bQ hj _)).ok,(l3 _ (bQ hj _)).bW⟩,fun j hj=>(l3 _ (bQ hj _)).rf,fun _ _ hh=>hh⟩ (fun w' _=>?_) ?_
 ·have : (C.fn f l.length fun j=>l.getD j (.dead undef)).val = .func (.func f) #[] (l.map C.val).toArray:=by
   show Value.func _ _ _ = _
   rw [iN l _ C.val]
  rw [this,l2]
  have hm : (cs'.toList.map a.eval).toArray = cs'.map a.eval:=by
   rw [← Array.toList_map,Array.toArray_toList]
  rw [hm]
  simp [execOp,ho,Instr.makeFunc]
 ·have : (C.fn f l.length fun j=>l.getD j (.dead undef)).er = .fn f (l.map C.er):=by
   show X.fn _ _ = _
   rw [iN l _ C.er]
  rw [this,l1]
  exact hK
theorem QV (h : St c G zl s a w) {d : Nat} {src dst el : TypeId} {x : AV} {x' : Operand} (ho : o.op = .convert src dst x') (hs : P.underlying src = some (.slice el)) (he : P.underlying el = some (.int .u8)) (hdt : P.underlying dst = some .string) (hd : o.dst = some d) (hn : d < c.nt) (hx : aD x' x = true)
  (hK : aG P (.text d x) s K) : cy P c o a w K:=by
 obtain ⟨y,e1,e2,e3⟩:=bu h hx
 obtain ⟨xs,k1,k2,l,k3,hK⟩:=hK
 rw [← e1] at k1
 obtain ⟨A,len,cap,e,hxs,hv⟩:=B3 h.inv e3 k1
 have hlen : len = l.length:=by
  have:=congrArg List.length (hxs.symm.trans k3)
  simpa [cx] using this
 subst hlen
 have hcell : ∀ j (hj : j < l.length),(e j 0).val = .int .u8 (l[j].toNat : Int):=by
  intro j hj
  have:=congrArg (fun t : List (List X)=>t[j]?) (hxs.symm.trans k3)
  simp only [cx] at this
  rw [C.cg,if_pos hj,List.getElem?_map,List.getElem?_eq_getElem hj] at this
  simp only [Option.map_some,Option.some.injEq] at this
  have hz : (e j 0).er = .int .u8 (l[j].toNat : Int):=by
   have h2:=congrArg (fun t : List X=>t[0]?) this
   simpa using h2
  rw [iZ hz]
  rfl
 refine cC h hd hn (x:=.str ⟨l.toArray⟩) trivial (fun _ _ _ _ _ _ e=>(by cases e)) ?_ (fun w' hE=>?_) hK
 ·show (⟨l.toArray⟩ : ByteArray).size≤_
  rw [k3] at k2
  simpa [ByteArray.size] using k2
 ·cases hA : A with
  | none =>
   have hl0 : l = []:=by
    cases hl : l with
    | nil=>rfl
    | cons b t =>
     obtain ⟨g,o',hg,_⟩:=hv.cell 0 0 (by rw [hl]; simp) (by omega)
     rw [hA] at hg; cases hg
   subst hl0
   have eR:=hv.val
   rw [hA] at eR
   simp only [Option.map_none] at eR
   simp [execOp,ho,← e2,eR,convert,run_underlying hs,run_underlying he,run_underlying hdt,Conv.bytesToString,C.val]
   rfl
  | some q =>
   have eR:=hv.val
   rw [hA] at eR
   simp only [Option.map_some] at eR
   have:=run_convert_bytes_back (P:=P) w' src dst el ⟨q.1,q.2.1,q.2.2⟩ cap l hs he hdt (fun j hj=>by
    obtain ⟨g,o',hg,hcl⟩:=hv.cell j 0 hj (by omega)
    rw [hA] at hg
    injection hg with hg
    subst hg
    rw [lF,← hcell j hj]
    exact hE.cell (fun hs=>hs) (by simpa using hcl))
   simp [execOp,ho,← e2,eR,this,C.val]
end
end M
namespace M
open Go Go.RowKit
variable [Bs]
variable {w w' : World} {zl zb : Nat→Nat→Prop} {G G1 : Nat→C} {s s1 : ag} {Z : Md→Nat→Nat→Prop}
theorem kE {α : Type} {l : List α} {i : Nat} {x : α} (h : l[i]? = some x) (d : α) : l.getD i d = x:=by rw [List.getD_eq_getElem?_getD,h]; rfl
theorem C.El (c : C) : c.fits .own:=by cases c <;> first | trivial | exact .inl rfl
theorem rA {α : Type} {sz : Nat} : ∀ {L : List (List α)} (h : ∀ e∈L,e.length = sz) (i j : Nat) (hi : i < L.length) (hj : j < sz),L.flatten[i * sz + j]? = (L[i]?).bind (·[j]?)
 | [],h,i,j,hi,hj=>by simp at hi
 | e :: L,h,0,j,hi,hj=>by
  have:=h e (List.mem_cons_self ..)
  simp only [Nat.zero_mul,Nat.zero_add,List.flatten_cons,List.getElem?_cons_zero,Option.bind_some]
  rw [List.getElem?_append_left (by omega)]
 | e :: L,h,i + 1,j,hi,hj=>by
  have he:=h e (List.mem_cons_self ..)
  have hh : ∀ e∈L,e.length = sz:=fun x hx=>h x (List.mem_cons_of_mem _ hx)
  simp only [List.flatten_cons,List.getElem?_cons_succ]
  rw [List.getElem?_append_right (by rw [he,Nat.add_mul]; omega),← rA hh i j (by simpa using hi) hj,he]
  congr 1
  rw [Nat.add_mul]; omega
theorem lW {α : Type} {sz : Nat} : ∀ {L : List (List α)} (h : ∀ e∈L,e.length = sz),L.flatten.length = L.length * sz
 | [],h=>by simp
 | e :: L,h=>by
  rw [List.flatten_cons,List.length_append,h e (List.mem_cons_self ..),lW fun x hx=>h x (List.mem_cons_of_mem _ hx),List.length_cons,Nat.add_mul]
  omega
def qj (L : List (List C)) (i j : Nat) : C:=(L.getD i []).getD j (.dead undef)
def nX (g o sz cap : Nat) (L : List (List C)) : C:=.row .own sz (some (g,o,none)) L.length cap (qj L)
theorem qk {L : List (List C)} {sz i j : Nat} (h : ∀ e∈L,e.length = sz) (hi : i < L.length) (hj : j < sz) : L.flatten[i * sz + j]? = some (qj L i j)∧qj L i j∈L.flatten:=by
 have h1 : L[i]? = some L[i]:=List.getElem?_eq_getElem hi
 have hl : L[i].length = sz:=h _ (List.getElem_mem hi)
 have h2 : (L[i])[j]? = some (L[i])[j]:=List.getElem?_eq_getElem (by omega)
 have h3 : qj L i j = (L[i])[j]:=by unfold qj; rw [kE h1,kE h2]
 have h4:=rA h i j hi hj
 rw [h1,Option.bind_some,h2] at h4
 rw [h3]
 exact ⟨h4,List.mem_of_getElem? h4⟩
theorem F6 {g o sz cap : Nat} {L : List (List C)} (h : ∀ e∈L,e.length = sz) : (nX g o sz cap L).er = .row .own sz (L.map fun e=>e.map C.er):=by
 simp only [nX,C.er]
 congr 1
 apply List.ext_getElem?
 intro i
 rw [C.cg,List.getElem?_map]
 by_cases hi : i < L.length
 ·rw [if_pos hi,List.getElem?_eq_getElem hi,Option.map_some]
  congr 1
  have hl : L[i].length = sz:=h _ (List.getElem_mem hi)
  apply List.ext_getElem?
  intro j
  rw [C.cg,List.getElem?_map]
  by_cases hj : j < sz
  ·rw [if_pos hj,List.getElem?_eq_getElem (by omega),Option.map_some]
   unfold qj
   rw [kE (List.getElem?_eq_getElem hi),kE (List.getElem?_eq_getElem (by omega))]
  ·rw [if_neg hj,List.getElem?_eq_none (by omega)]; rfl
 ·rw [if_neg hi,List.getElem?_eq_none (by omega)]; rfl
theorem Rk (g o sz cap : Nat) (L : List (List C)) : (nX g o sz cap L).val = .slice (some ⟨g,o,none⟩) L.length cap:=rfl
theorem F7 {g o sz cap : Nat} {L : List (List C)} (h : ∀ e∈L,e.length = sz) {b k : Nat} (hf : (nX g o sz cap L).fp b k) : b = g∨∃ x∈L.flatten,x.fp b k:=by
 obtain ⟨_,⟨o',hA⟩ | ⟨i,j,hi,hj,hf⟩⟩:=hf
 ·injection hA with hA; injection hA with e1 e2; exact .inl e1.symm
 ·exact .inr ⟨_,(qk h hi hj).2,hf⟩
theorem QY {l : List C} (h : l.Pairwise fun a b=>∀ x k,a.fp x k→¬ b.fp x k) {p q : Nat} {x y : C} (hp : l[p]? = some x) (hq : l[q]? = some y) (hne : p≠q) {b k : Nat} (hf : x.fp b k) : ¬ y.fp b k:=by
 obtain ⟨hp',rfl⟩:=List.getElem?_eq_some_iff.1 hp
 obtain ⟨jO,rfl⟩:=List.getElem?_eq_some_iff.1 hq
 rcases Nat.lt_or_gt_of_ne hne with hlt | hlt
 ·exact List.pairwise_iff_getElem.1 h p q hp' jO hlt b k hf
 ·exact fun hf'=>List.pairwise_iff_getElem.1 h q p jO hp' hlt b k hf' hf
theorem F8 {g o sz cap : Nat} {L : List (List C)} (h : ∀ e∈L,e.length = sz) (hcap : L.length≤cap) {arr : Array Value} {t : TypeId} {fz : Nat×Nat} (hh : w.heap[g]? = some (.cells arr t fz)) (hsz : o + cap * sz≤arr.size)
  (hfr : ∀ k,o≤k→k < o + cap * sz→w.frozen? ⟨g,k,none⟩ = false) (hcell : ∀ q x,L.flatten[q]? = some x→w.cell? ⟨g,o + q,none⟩ = some x.val)
  (hx : ∀ x∈L.flatten,x.cell∧x.bO∧x.ok w Z) (fm : L.flatten.Pairwise fun a b=>∀ x k,a.fp x k→¬ b.fp x k) (hg : ∀ x∈L.flatten,∀ b k,x.fp b k→b≠g) : (nX g o sz cap L).ok w Z:=by
 refine ⟨hcap,fun i j hi hj=>⟨g,o,rfl,?_,fun hm=>(hm rfl).elim⟩,fun i j hi hj=>?_,fun _=>.inr ⟨g,o,arr,t,fz,rfl,hh,hsz,hfr⟩,fun i j hi hj b k hf=>⟨fun _ o' hA=>?_,fun i' j' hi' hj' hne=>?_⟩⟩
 ·rw [Nat.add_assoc]; exact hcell _ _ (qk h hi hj).1
 ·obtain ⟨a1,a2,a3⟩:=hx _ (qk h hi hj).2
  exact ⟨a1,a2,C.El _,a3⟩
 ·injection hA with hA; injection hA with e1 e2
  exact hg _ (qk h hi hj).2 b k hf e1.symm
 ·refine QY fm (qk h hi hj).1 (qk h hi' hj').1 (fun e=>hne ?_) hf
  obtain ⟨rfl,rfl⟩:=BS hj hj' e
  rfl
def tJ (g : Nat) (l : List C) : C:=.ptr .own g 0 l.length fun j=>l.getD j (.dead undef)
theorem Q5 (g : Nat) (l : List C) : (tJ g l).er = .ptr .own (l.map C.er):=by simp only [tJ,C.er,iN]
theorem Q6 {g : Nat} {l : List C} {b k : Nat} (hf : (tJ g l).fp b k) : b = g∨∃ x∈l,x.fp b k:=by
 obtain ⟨_,hA | ⟨j,hj,hf⟩⟩:=hf
 ·exact .inl hA.1
 ·exact .inr ⟨_,bQ hj _,hf⟩
theorem Q7 {g : Nat} {l : List C} (hg : g < w.heap.size) (hcell : ∀ q x,l[q]? = some x→w.cell? ⟨g,q,none⟩ = some x.val) (hfr : ∀ k,k < l.length→w.frozen? ⟨g,k,none⟩ = false)
  (hx : ∀ x∈l,x.cell∧x.ok w Z) (fm : l.Pairwise fun a b=>∀ x k,a.fp x k→¬ b.fp x k) (Oy : ∀ x∈l,∀ b k,x.fp b k→b≠g) : (tJ g l).ok w Z:=by
 refine ⟨fun j hj=>⟨?_,fun hm=>(hm rfl).elim,fun _=>?_⟩,hg,fun j hj=>?_,fun j hj b k hf=>⟨fun _ hb=>?_,fun j' hj' hne=>?_⟩⟩
 ·rw [Nat.zero_add]
  exact hcell j _ (by show _ = some (l.getD j (.dead undef)); rw [kE (List.getElem?_eq_getElem hj)]; exact List.getElem?_eq_getElem hj)
 ·rw [Nat.zero_add]; exact hfr j hj
 ·obtain ⟨a1,a3⟩:=hx _ (bQ hj (.dead undef))
  exact ⟨a1,C.El _,a3⟩
 ·exact Oy _ (bQ hj _) b k hf hb.1
 ·exact qg fm _ hj hj' hne hf
def C.cells : C→List C
 | .agg n f=>(List.range n).map f
 | .au _ _=>[]
 | .dead _=>[]
 | x=>[x]
def C.shape (x : C) : Prop:=x.cells = []∨(∃ n f,x = .agg n f)∨(x.cells = [x]∧x.cell)
theorem xZ {x : C} (h : x.rf G) : x.shape:=by
 cases x with
 | agg n f=>exact .inr (.inl ⟨n,f,rfl⟩)
 | au n f=>exact .inl rfl
 | dead v=>exact .inl rfl
 | ref v r p=>exact .inr (.inr ⟨rfl,B1 h⟩)
 | az v r p i c =>
  obtain ⟨y,hs,hy⟩:=h
  refine .inr (.inr ⟨rfl,?_⟩)
  rcases hy with ⟨m,sz,g,o',len,cap,e,rfl,hv⟩ | ⟨m,g,o',n,cc,rfl,_,hv⟩ <;> (subst hv; rfl)
 | cut v r p lo hi =>
  obtain ⟨m,sz,A,len,cap,e,A',cap',hs,hv,_⟩:=h
  refine .inr (.inr ⟨rfl,?_⟩)
  subst hv; rfl
 | _=>exact .inr (.inr ⟨rfl,trivial⟩)
theorem mW (x : C) : x.cells.map C.er = cellsOf x.er:=by
 cases x <;> simp [C.cells,C.er,cellsOf]
theorem uT {x : C} (h : 0 < x.cells.length) (hc : x.shape) : x.val.cells = (x.cells.map C.val).toArray:=by
 rcases hc with hc | ⟨n,f,rfl⟩ | ⟨h1,h2⟩
 ·rw [hc] at h; simp at h
 ·simp [C.cells,C.val,Value.cells]
 ·rw [h1]; exact Qj (Inv.lP h2)
theorem qR {x y : C} (hy : y∈x.cells) {b k : Nat} (hf : y.fp b k) : x.fp b k:=by
 cases x with
 | agg n f =>
  obtain ⟨j,hj,rfl⟩:=List.mem_map.1 hy
  exact ⟨j,by simpa using hj,hf⟩
 | au n f=>cases hy
 | dead v=>cases hy
 | _=>simp only [C.cells,List.mem_singleton] at hy; subst hy; exact hf
theorem oF {x y : C} (hc : x.shape) (hx : x.ok w Z) (hy : y∈x.cells) : y.cell∧y.ok w Z:=by
 rcases hc with hc | ⟨n,f,rfl⟩ | ⟨h1,h2⟩
 ·rw [hc] at hy; cases hy
 ·obtain ⟨j,hj,rfl⟩:=List.mem_map.1 hy
  exact hx.1 j (by simpa using hj)
 ·rw [h1,List.mem_singleton] at hy; subst hy; exact ⟨h2,hx⟩
theorem yX {x y : C} (hx : x.rf G) (hy : y∈x.cells) : y.rf G:=by
 cases x with
 | agg n f =>
  obtain ⟨j,hj,rfl⟩:=List.mem_map.1 hy
  exact hx j (by simpa using hj)
 | au n f=>cases hy
 | dead v=>cases hy
 | _=>simp only [C.cells,List.mem_singleton] at hy; subst hy; exact hx
theorem Kn {x : C} (hx : x.ok w Z) : x.cells.Pairwise fun a b=>∀ x k,a.fp x k→¬ b.fp x k:=by
 cases x with
 | agg n f =>
  refine List.pairwise_map.2 ?_
  refine List.Pairwise.imp_of_mem (R:=fun a b=>a < b) ?_ List.pairwise_lt_range
  intro i j hi hj hlt b k hf
  exact hx.2 i (by simpa using hi) b k hf j (by simpa using hj) (by omega)
 | au n f=>exact List.Pairwise.nil
 | dead v=>exact List.Pairwise.nil
 | _=>exact List.pairwise_singleton _ _
theorem aV.one {c : C} (h : di w zl zb G c G1 s1) : aV w zl zb G [c] G1 s1:=aV.cons h (aV.nil h.inv)
theorem aV.flat {cs : List C} (h : aV w zl zb G cs G1 s1) (hc : ∀ x∈cs,x.shape) : aV w zl zb G (cs.flatMap C.cells) G1 s1 where
 inv:=h.inv
 all:=fun c hx=>by
  obtain ⟨x,hx,gd⟩:=List.mem_flatMap.1 hx
  obtain ⟨a1,a2,a3,a4⟩:=h.all x hx
  exact ⟨(oF (hc x hx) a1 gd).2,fun t b k hf=>a2 t b k (qR gd hf),fun b k hf=>a3 b k (qR gd hf),fun b k hf=>a4 b k (qR gd hf)⟩
 apart:=by
  have h1:=h.apart
  have h2:=h.all
  clear h hc
  induction cs with
  | nil=>exact List.Pairwise.nil
  | cons x cs ih =>
   rw [List.flatMap_cons]
   rw [List.pairwise_cons] at h1
   refine List.pairwise_append.2 ⟨Kn (h2 x (List.mem_cons_self ..)).1,ih h1.2 (fun c hc=>h2 c (List.mem_cons_of_mem _ hc)),fun a ha b hb y k hf hf'=>?_⟩
   obtain ⟨x',hx',hb⟩:=List.mem_flatMap.1 hb
   exact h1.1 x' hx' y k (qR ha hf) (qR hb hf')
 val:=h.val
 mono:=h.mono
namespace Inv
theorem ext (h : Inv w zl zb G s) {S : Nat→Nat→Prop} (hE : Ext S w w') (hS : ∀ t b k,(G t).fp b k→¬ S b k) (hZ : ∀ b k,zl b k∨zb b k→¬ S b k) : Inv w' zl zb G s where
 er:=h.er
 ok:=fun t=>C.dc hE (fun m b k hz=>by cases m with
  | own=>exact hz.elim
  | sl=>exact hZ b k (.inl hz)
  | af=>exact hZ b k hz) _ (hS t) (h.ok t)
 sep:=h.sep
 fz:=h.fz
 rf:=h.rf
 bD:=fun b k hz=>Nat.lt_of_lt_of_le (h.bD b k hz) hE.size
end Inv
theorem St.fresh' {c : Ctx} {zl : Nat→Nat→Prop} {a : Act} {l : List C} {S : Nat→Nat→Prop} (h : St c G zl s a w) (hT : aV w zl c.zb G l G1 s1) (hE : Ext S w w') (hS : ∀ b k,S b k→w.heap.size≤b∨∃ y∈l,y.fp b k) {x : C} {n : Nat} (hn : n < c.nt) (hok : x.ok w' (Zf zl c.zb)) (cj : x.rf G1)
  (bp : ∀ b k,x.fp b k→w.heap.size≤b∨∃ y∈l,y.fp b k) : ∃ G',St c G' zl (M.put n x.er s1) (a.put (some n) x.val) w':=by
 have hi : Inv w' zl c.zb G1 s1:=hT.inv.ext hE (fun t b k hf hs=>by
  rcases hS b k hs with hb | ⟨y,hy,hf'⟩
  ·have:=C.dj _ (hT.inv.ok t) b k hf; omega
  ·exact (hT.all y hy).2.1 t b k hf' hf) (fun b k hz hs=>by
  rcases hS b k hs with hb | ⟨y,hy,hf'⟩
  ·have:=hT.inv.bD b k hz; omega
  ·exact hz.elim ((hT.all y hy).2.2.1 b k hf').1 ((hT.all y hy).2.2.1 b k hf').2)
 have oW : ∀ b k,(w.heap.size≤b∨∃ y∈l,y.fp b k)→c.F0 b k∨c.w0.heap.size≤b:=fun b k hh=>by
  rcases hh with hb | ⟨y,hy,hf⟩
  ·exact .inr (Nat.le_trans h.tr.ext.size hb)
  ·obtain ⟨t,ht⟩:=(hT.all y hy).2.2.2 b k hf
   exact h.tr.dom t b k ht
 have h1 : St c G1 zl s1 a w':=h.move hi hT.val hE (fun b k hs=>oW b k (hS b k hs)) (fun t b k hf=>.inl ⟨t,hT.mono t b k hf⟩)
 refine h1.put hn hok (fun t _ b k hf hf'=>?_) (fun b k hf=>?_) cj (fun b k hf=>oW b k (bp b k hf))
 ·rcases bp b k hf with hb | ⟨y,hy,hf⟩
  ·have:=C.dj _ (hT.inv.ok t) b k hf'; omega
  ·exact (hT.all y hy).2.1 t b k hf hf'
 ·rcases bp b k hf with hb | ⟨y,hy,hf⟩
  ·exact ⟨fun hz=>by have:=hT.inv.bD b k (.inl hz); omega,fun hz=>by have:=hT.inv.bD b k (.inr hz); omega⟩
  ·exact (hT.all y hy).2.2.1 b k hf
theorem St.fresh {c : Ctx} {zl : Nat→Nat→Prop} {a : Act} {l : List C} (h : St c G zl s a w) (hT : aV w zl c.zb G l G1 s1) (hE : Ext (fun b _=>w.heap.size≤b) w w') {x : C} {n : Nat} (hn : n < c.nt) (hok : x.ok w' (Zf zl c.zb)) (cj : x.rf G1)
  (bp : ∀ b k,x.fp b k→w.heap.size≤b∨∃ y∈l,y.fp b k) : ∃ G',St c G' zl (M.put n x.er s1) (a.put (some n) x.val) w' :=
 h.fresh' hT hE (fun _ _ hs=>.inl hs) hn hok cj bp
theorem aV.fits' {l : List C} {S : Nat→Nat→Prop} (hT : aV w zl zb G l G1 s1) (hE : Ext S w w') (hZ : ∀ b k,zl b k∨zb b k→¬ S b k) {x : C} (hx : x.ok w (Zf zl zb)) (hS : ∀ b k,x.fp b k→¬ S b k) : x.ok w' (Zf zl zb) :=
 C.dc hE (fun m b k hz=>by cases m with
  | own=>exact hz.elim
  | sl=>exact hZ b k (.inl hz)
  | af=>exact hZ b k hz) _ hS hx
theorem aV.fits {l : List C} (hT : aV w zl zb G l G1 s1) (hE : Ext (fun b _=>w.heap.size≤b) w w') {x : C} (hx : x∈l) : x.ok w' (Zf zl zb):=by
 obtain ⟨a1,a2,a3,a4⟩:=hT.all x hx
 exact C.dc hE (fun m b k hz hs=>by have:=yw hT.inv.bD m b k hz; omega) _ (fun b k hf hs=>by have:=C.dj _ a1 b k hf; omega) a1
theorem rK (w : World) (o : Obj) : (w.alloc o).heap[w.heap.size]? = some o:=by
 show (w.heap.push o)[w.heap.size]? = _
 simp
theorem yA (w : World) (o : Obj) : Ext (fun b _=>w.heap.size≤b) w (w.alloc o):=Ext.alloc w _ o
theorem DI (w : World) (o : Obj) : Ext (fun b _=>w.heap.size≤b) w (w.drew.alloc o) :=
 (Ext.drew w (fun b _=>w.heap.size≤b)).trans (Ext.alloc w.drew (fun b _=>w.heap.size≤b) o) (fun _ _ h _=>h)
end M
namespace M
open Go Go.RowKit
variable [Bs]
section
variable {P : Program} {c : Ctx} {G : Nat→C} {zl : Nat→Nat→Prop} {s : ag} {a : Act} {w : World} {o : Oper} {K : ag→Prop}
def iY : List Value→List X→Bool
 | [],[]=>true
 | v :: vs,x :: xs=>(uU v x || (match x with | .dead=>v.oneCell' | _=>false)) && iY vs xs
 | _,_=>false
structure Il (w : World) (zl zb : Nat→Nat→Prop) (vs : List Value) (xs : List X) (l : List C) : Prop where
 er : l.map C.er = xs
 val : l.map C.val = vs
 all : ∀ x∈l,x.plain∧x.ok w (Zf zl zb)∧∀ b k,¬ x.fp b k
theorem uF (w : World) (zl zb : Nat→Nat→Prop) : ∀ {vs : List Value} {xs : List X},iY vs xs = true→∃ l,Il w zl zb vs xs l
 | [],[],_=>⟨[],rfl,rfl,fun _ hx=>(by cases hx)⟩
 | v :: vs,x :: xs,h=>by
  simp only [iY,Bool.and_eq_true,Bool.or_eq_true] at h
  obtain ⟨l,l1,l2,l3⟩:=uF w zl zb h.2
  have : ∃ d : C,d.er = x∧d.val = v∧d.plain∧d.ok w (Zf zl zb)∧∀ b k,¬ d.fp b k:=by
   rcases h.1 with h1 | h1
   ·obtain ⟨d,d1,d2,d3,d4⟩:=DF (w:=w) (zl:=zl) (c:=⟨w,zl,zl,zb,0,[]⟩) (G:=fun _=>.dead undef) h1
    exact ⟨d,d1,d2,d4,d3.ok,d3.bW⟩
   ·cases x with
    | dead=>exact ⟨.dead v,rfl,rfl,h1,trivial,fun _ _ h=>h⟩
    | _=>cases h1
  obtain ⟨d,d1,d2,d3⟩:=this
  refine ⟨d :: l,by simp [d1,l1],by simp [d2,l2],fun x hx=>?_⟩
  rcases List.mem_cons.1 hx with rfl | hx
  ·exact d3
  ·exact l3 x hx
 | [],_ :: _,h=>by cases h
 | _ :: _,[],h=>by cases h
theorem lH {l : List C} (h : ∀ x∈l,∀ b k,¬ x.fp b k) : l.Pairwise fun a b=>∀ x k,a.fp x k→¬ b.fp x k:=by
 induction l with
 | nil=>exact List.Pairwise.nil
 | cons x l ih=>exact List.pairwise_cons.2 ⟨fun y _ b k hf=>(h x (List.mem_cons_self ..) b k hf).elim,ih fun y hy=>h y (List.mem_cons_of_mem _ hy)⟩
theorem aV.none (h : Inv w zl c.zb G s) {l : List C} (hl : ∀ x∈l,x.ok w (Zf zl c.zb)∧∀ b k,¬ x.fp b k) : aV w zl c.zb G l G s :=
 ⟨h,fun x hx=>⟨(hl x hx).1,fun t b k hf=>((hl x hx).2 b k hf).elim,fun b k hf=>((hl x hx).2 b k hf).elim,fun b k hf=>((hl x hx).2 b k hf).elim⟩,lH fun x hx=>(hl x hx).2,fun _=>rfl,fun _ _ _ hf=>hf⟩
theorem EB (h : St c G zl s a w) {l : List C} {G1 : Nat→C} {s1 : ag} (hT : aV w zl c.zb G l G1 s1) (hcell : ∀ x∈l,x.cell) (cj : ∀ x∈l,x.rf G1) {d : Nat} (hd : o.dst = some d) (hn : d < c.nt) {t : TypeId} {arr : Array Value} (zN : arr = (l.map C.val).toArray)
  (hrun : (execOp a.eval o).run P w = .ok (.value (.pointer (some ⟨w.heap.size,0,none⟩))) (w.alloc (.cells arr t))) (hK : K (put d (.ptr .own (l.map C.er)) s1)) : fU P c o a w K:=by
 subst zN
 have hE:=yA w (.cells (l.map C.val).toArray t)
 have hnew:=rK w (.cells (l.map C.val).toArray t)
 have hok : (tJ w.heap.size l).ok (w.alloc (.cells (l.map C.val).toArray t)) (Zf zl c.zb):=by
  refine Q7 ?_ (fun q x hq=>?_) (fun k _=>frozen_of_row _ _ _ _ _ hnew) (fun x hx=>⟨hcell x hx,hT.fits hE hx⟩) hT.apart (fun x hx b k hf=>?_)
  ·exact (Array.getElem?_eq_some_iff.1 hnew).1
  ·rw [cell_of_row _ _ _ _ _ (0,0) hnew]
   simp [hq]
  ·have:=C.dj _ (hT.all x hx).1 b k hf; omega
 obtain ⟨G',h'⟩:=h.fresh hT hE hn hok (fun j hj=>cj _ (bQ hj _)) (fun b k hf=>(Q6 hf).imp (fun e=>by omega) id)
 refine ⟨_,_,hrun,hE.mono (fun b k hs hb=>by omega),G',zl,_,hK,?_⟩
 rw [hd]
 rw [Q5] at h'
 exact h'
theorem good_row (h : St c G zl s a w) {L : List (List C)} {sz cap : Nat} {G1 : Nat→C} {s1 : ag} (hL : ∀ e∈L,e.length = sz) (hcap : L.length≤cap) (hT : aV w zl c.zb G L.flatten G1 s1) (hpl : ∀ x∈L.flatten,x.plain) {d : Nat} (hd : o.dst = some d) (hn : d < c.nt)
  {t : TypeId} {arr : Array Value} {fz : Nat×Nat} {w' : World} (hE : Ext (fun b _=>w.heap.size≤b) w w') (hnew : w'.heap[w.heap.size]? = some (.cells arr t fz)) (hsz : cap * sz≤arr.size) (hfz : ∀ k,k < cap * sz→¬ (fz.1≤k∧k < fz.2)) (zN : ∀ (q : Nat) (x : C),L.flatten[q]? = some x→arr[q]? = some x.val)
  (hrun : (execOp a.eval o).run P w = .ok (.value (.slice (some ⟨w.heap.size,0,none⟩) L.length cap)) w') (hK : K (put d (.row .own sz (L.map fun e=>e.map C.er)) s1)) : fU P c o a w K:=by
 have hok : (nX w.heap.size 0 sz cap L).ok w' (Zf zl c.zb):=by
  refine F8 hL hcap hnew (by omega) (fun k _ hk=>?_) (fun q x hq=>?_) (fun x hx=>⟨C.ic (hpl x hx),C.tI (hpl x hx),hT.fits hE hx⟩) hT.apart (fun x hx b k hf=>?_)
  ·have:=hfz k (by omega)
   simp [World.frozen?,hnew]
   omega
  ·rw [cell_of_row _ _ _ _ _ fz hnew,Nat.zero_add]
   exact zN q x hq
  ·have:=C.dj _ (hT.all x hx).1 b k hf; omega
 obtain ⟨G',h'⟩:=h.fresh hT hE hn hok trivial (fun b k hf=>(F7 hL hf).imp (fun e=>by omega) id)
 refine ⟨_,_,hrun,hE.mono (fun b k hs hb=>by omega),G',zl,_,hK,?_⟩
 rw [hd]
 rw [F6 hL] at h'
 exact h'
theorem QK (h : St c G zl s a w) {d : Nat} {ty : TypeId} {i : TypeInfo} {v : Value} {z : List X} (ho : o.op = .alloc ty) (hi : P.info? ty = some i) (hz : i.zero = some v) (hc : iY v.cells.toList z = true) (hd : o.dst = some d) (hn : d < c.nt)
  (hK : aG P (.new d z) s K) : fU P c o a w K:=by
 obtain ⟨l,l1,l2,l3⟩:=uF w zl c.zb hc
 refine EB h (aV.none h.inv fun x hx=>(l3 x hx).2) (fun x hx=>C.ic (l3 x hx).1) (fun x hx=>C.jV (l3 x hx).1 _) hd hn (t:=ty) (arr:=v.cells) ?_ ?_ (by rw [l1]; exact hK)
 ·rw [l2]
 ·simp [execOp,ho,Instr.alloc,zeroValue,typeInfo,hi,hz,newVar,newRow]
theorem Qq (h : St c G zl s a w) {d : Nat} {tk : Tk} {ty : TypeId} {x : AV} {x' : Operand} (ho : o.op = .box ty x') (hd : o.dst = some d) (hn : d < c.nt) (hx : aD x' x = true)
  (hK : aG P (.box d tk x) s K) : fU P c o a w K:=by
 obtain ⟨y,e1,e2,e3⟩:=bu h hx
 obtain ⟨y',G1,f1,f2,f3,f4⟩:=lB tk h.inv e3
 obtain ⟨k1,k2⟩:=hK
 rw [← e1,← f1,← mW] at k1 k2
 have hsh:=xZ f4.rf
 have hT:=aV.flat (aV.one f4) (fun x hx=>by rw [List.mem_singleton] at hx; subst hx; exact hsh)
 simp only [List.flatMap_cons,List.flatMap_nil,List.append_nil] at hT
 refine EB h hT (fun x hx=>(oF hsh f4.ok hx).1) (fun x hx=>yX f4.rf hx) hd hn (t:=ty) (uT (by simpa using k1) hsh) ?_ k2
 rw [f2,e2]
 simp [execOp,ho,Instr.box,newVar,newRow]
theorem QG (h : St c G zl s a w) {d sz bytes : Nat} {ty el : TypeId} {i : TypeInfo} {v : Value} {z : List X} {n : AV} {n' n2 : Operand} (ho : o.op = .makeSlice ty n' n2) (hu : P.underlying ty = some (.slice el)) (hi : P.info? el = some i) (hz : i.zero = some v) (hsz : i.size = sz) (hb : i.bytes = bytes) (hb0 : 0 < bytes)
  (h0 : 0 < sz) (hzs : z.length = sz) (hc : iY v.cells.toList z = true) (hd : o.dst = some d) (hn : d < c.nt) (hx : aD n' n = true) (hx2 : aD n2 n = true) (hK : aG P (.make d sz bytes z n) s K) : fU P c o a w K:=by
 obtain ⟨y,e1,e2,e3⟩:=bu h hx
 obtain ⟨y2,g1,g2,g3⟩:=bu h hx2
 simp only [aG] at hK
 split at hK
 ·rename_i k m hm
  have hm2:=hm
  rw [← e1] at hm
  rw [← g1] at hm2
  have:=iZ hm
  subst this
  have:=iZ hm2
  subst this
  obtain ⟨k1,k2,k3⟩:=hK
  obtain ⟨l,l1,l2,l3⟩:=uF w zl c.zb hc
  have rR : l.length = sz:=by rw [← hzs,← l1]; simp
  have hvs : v.cells.size = sz:=by
   have:=congrArg List.length l2
   simp only [List.length_map,Array.length_toList] at this
   omega
  have hL : ∀ e∈List.replicate m.toNat l,e.length = sz:=fun e he=>by rw [(List.mem_replicate.1 he).2]; exact rR
  have hfl : ∀ x∈(List.replicate m.toNat l).flatten,x∈l:=fun x hx=>by
   obtain ⟨e,he,hx⟩:=List.mem_flatten.1 hx
   rw [(List.mem_replicate.1 he).2] at hx; exact hx
  have hmul : m≤m * bytes:=by
   have : m * 1≤m * (bytes : Int):=Int.mul_le_mul_of_nonneg_left (by omega) k1
   omega
  have hr:=run_make (P:=P) w ty el i v hu hi hz k k m m k1 (Int.le_refl _) (by rw [hb,Int.mul_comm]; omega) (by omega)
  refine good_row h (L:=List.replicate m.toNat l) (cap:=m.toNat) hL (by simp) (aV.none h.inv fun x hx=>(l3 x (hfl x hx)).2) (fun x hx=>(l3 x (hfl x hx)).1) hd hn (yA w (.cells (madeCells v.cells (m.toNat * i.size)) el (0,0))) (rK w (.cells (madeCells v.cells (m.toNat * i.size)) el (0,0))) ?_ ?_ ?_ ?_ ?_
  ·rw [size_madeCells,hsz]; exact Nat.le_refl _
  ·intro k _ hh; simp at hh
  ·intro q x hq
   have rU : q < m.toNat * sz:=by
    have:=(List.getElem?_eq_some_iff.1 hq).1
    rw [lW hL,List.length_replicate] at this
    exact this
   have hj : q % sz < sz:=Nat.mod_lt _ h0
   have hi' : q / sz < m.toNat:=Nat.div_lt_of_lt_mul (by rw [Nat.mul_comm]; exact rU)
   have rS : q = q / sz * sz + q % sz:=by have:=Nat.div_add_mod q sz; rw [Nat.mul_comm] at this; omega
   have:=rA hL (q / sz) (q % sz) (by simpa using hi') hj
   rw [← rS,hq,List.getElem?_replicate,if_pos hi'] at this
   simp only [Option.bind_some] at this
   have hv : v.cells.toList[q % sz]? = some x.val:=by rw [← l2,List.getElem?_map,← this]; rfl
   have eR : v.cells[q % sz]? = some x.val:=by simpa using hv
   rw [hsz]
   simp only [madeCells,Array.getElem?_map]
   rw [Array.getElem?_range,if_pos rU]
   simp [hvs,getElem!_def,eR]
  ·simp [execOp,ho,← e2,← g2,C.val,hr]
  ·rw [List.map_replicate,l1]; exact k3
 ·exact hK.elim
theorem Qs (h : St c G zl s a w) {d : Nat} {src dst el : TypeId} {x : AV} {x' : Operand} (ho : o.op = .convert src dst x') (hs : P.underlying src = some .string) (hu : P.underlying dst = some (.slice el)) (he : P.underlying el = some (.int .u8)) (hd : o.dst = some d) (hn : d < c.nt) (hx : aD x' x = true)
  (hK : aG P (.bytes d x) s K) : fU P c o a w K:=by
 obtain ⟨y,e1,e2,e3⟩:=bu h hx
 simp only [aG] at hK
 split at hK
 ·rename_i t ht
  rw [← e1] at ht
  have:=vb ht
  subst this
  have hr:=run_bytes_of_string (P:=P) w src dst el t hs hu he
  have hge:=grownCap_ge w t.size 0 el
  generalize grownCap w t.size 0 el = cap at hr hge
  have hL : ∀ e∈t.data.toList.map (fun b : UInt8=>[C.int .u8 (b.toNat : Int)]),e.length = 1:=fun e he=>by
   obtain ⟨b,_,rfl⟩:=List.mem_map.1 he; rfl
  have hfl : ∀ x∈(t.data.toList.map (fun b : UInt8=>[C.int .u8 (b.toNat : Int)])).flatten,∃ n,x = C.int .u8 n:=fun x hx=>by
   obtain ⟨e,he,hx⟩:=List.mem_flatten.1 hx
   obtain ⟨b,_,rfl⟩:=List.mem_map.1 he
   exact ⟨_,List.mem_singleton.1 hx⟩
  have hts : t.size = t.data.size:=rfl
  have hlen : (t.data.toList.map (fun b : UInt8=>[C.int .u8 (b.toNat : Int)])).length = t.size:=by rw [List.length_map,Array.length_toList]; rfl
  have hsz : (bytesRow t cap).size = cap:=by simp [bytesRow]; omega
  refine good_row h (L:=t.data.toList.map (fun b : UInt8=>[C.int .u8 (b.toNat : Int)])) (cap:=cap) (sz:=1) hL (by rw [hlen]; exact hge) (aV.none h.inv fun x hx=>?_) (fun x hx=>?_) hd hn (DI w (.cells (bytesRow t cap) el ((bytesRow t cap).size,(bytesRow t cap).size + 1))) (rK w.drew (.cells (bytesRow t cap) el ((bytesRow t cap).size,(bytesRow t cap).size + 1))) ?_ ?_ ?_ ?_ ?_
  ·obtain ⟨n,rfl⟩:=hfl x hx; exact ⟨trivial,fun _ _ hf=>hf⟩
  ·obtain ⟨n,rfl⟩:=hfl x hx; trivial
  ·rw [hsz]; omega
  ·intro k hk; rw [hsz]; omega
  ·intro q x hq
   have rU : q < t.data.size:=by
    have:=(List.getElem?_eq_some_iff.1 hq).1
    rw [lW hL,hlen] at this
    omega
   have:=rA hL q 0 (by rw [hlen]; omega) (by omega)
   rw [Nat.mul_one,Nat.add_zero,hq,List.getElem?_map] at this
   rw [bytesRow_at t cap q rU]
   rw [List.getElem?_eq_getElem (by simpa using rU)] at this
   simp at this
   rw [this]
   rfl
  ·rw [hlen]
   simp [execOp,ho,← e2,C.val,hr]
  ·rw [List.map_map]
   exact hK
 ·exact hK.elim
end
end M
namespace M
open Go Go.RowKit
variable [Bs]
theorem Q2 {y : C} (hc : y.cell) (h : bO y.er = true) : y.plain:=by
 cases y <;> first | exact hc | trivial | (simp [C.er,bO] at h)
theorem x7 : ∀ {l : List X},eu l = true→∀ x∈l,bO x = true
 | [],_,x,hx=>by cases hx
 | y :: l,h,x,hx=>by
  simp only [eu,Bool.and_eq_true] at h
  rcases List.mem_cons.1 hx with rfl | hx
  ·exact h.1
  ·exact x7 h.2 x hx
theorem Fv {w : World} {Z : Md→Nat→Nat→Prop} {x y : C} (hs : x.shape) (hok : x.ok w Z) (h : eu (cellsOf x.er) = true) (hy : y∈x.cells) : y.plain:=by
 refine Q2 (oF hs hok hy).1 (x7 h _ ?_)
 rw [← mW]
 exact List.mem_map_of_mem hy
section
variable {P : Program} {c : Ctx} {G : Nat→C} {zl : Nat→Nat→Prop} {s : ag} {a : Act} {w : World} {o : Oper} {K : ag→Prop}
theorem St.qw {x : C} {G1 : Nat→C} {s1 : ag} (h : St c G zl s a w) (hT : di w zl c.zb G x G1 s1) : St c G1 zl s1 a w :=
 h.move hT.inv hT.val (Ext.refl (fun _ _=>False) w) (fun _ _ hs=>hs.elim) (fun t b k hf=>.inl ⟨t,hT.mono t b k hf⟩)
theorem Cw (tk : Tk) : ∀ {l' : List Operand} {l : List AV},iA l' l = true→∀ {G : Nat→C} {s : ag},St c G zl s a w →
  ∃ cs G',cs.map C.er = (takes tk l s).1∧cs.map C.val = l'.map a.eval∧aV w zl c.zb G cs G' (takes tk l s).2∧∀ x∈cs,x.shape
 | [],[],_,G,s,h=>⟨[],G,rfl,rfl,aV.nil h.inv,fun _ hx=>(by cases hx)⟩
 | x' :: l',x :: l,hc,G,s,h=>by
  simp only [iA,Bool.and_eq_true] at hc
  obtain ⟨p,p1,p2,p3⟩:=bu h hc.1
  obtain ⟨y,G1,f1,f2,f3,f4⟩:=lB tk h.inv p3
  obtain ⟨cs,G',g1,g2,g3,g4⟩:=Cw tk hc.2 (h.qw f4)
  rw [p1] at f1 g1 g3 f4
  refine ⟨y :: cs,G',by simp [takes,f1,g1],by simp [f2,p2,g2],aV.cons f4 g3,fun z hz=>?_⟩
  rcases List.mem_cons.1 hz with rfl | hz
  ·exact xZ f4.rf
  ·exact g4 z hz
 | [],_ :: _,hc,_,_,_=>by cases hc
 | _ :: _,[],hc,_,_,_=>by cases hc
theorem RW (x : X) (s : ag) : take .al x s = (x,s):=by
 cases x <;> rfl
theorem GB : ∀ (l : List AV) (s : ag),takes .al l s = (l.map (ai s),s)
 | [],s=>rfl
 | x :: l,s=>by simp only [takes,RW,GB l s,List.map_cons]
theorem RX (tk : Tk) {l' : List Operand} {l : List AV} (hc : iA l' l = true) (h : St c G zl s a w) (hs : x8 tk (takes tk l s).1) :
  ∃ cs G',cs.map C.er = (takes tk l s).1∧cs.map C.val = l'.map a.eval∧aV w zl c.zb G cs G' (takes tk l s).2∧(∀ x∈cs,x.shape)∧∀ x∈cs,∀ y∈x.cells,y.rf G':=by
 have gen : (∀ x∈(takes tk l s).1,eu (cellsOf x) = true)→∃ cs G',cs.map C.er = (takes tk l s).1∧cs.map C.val = l'.map a.eval∧aV w zl c.zb G cs G' (takes tk l s).2∧(∀ x∈cs,x.shape)∧∀ x∈cs,∀ y∈x.cells,y.rf G':=by
  intro hs
  obtain ⟨cs,G',g1,g2,g3,g4⟩:=Cw tk hc h
  refine ⟨cs,G',g1,g2,g3,g4,fun x hx y hy=>C.jV (Fv (g4 x hx) (g3.all x hx).1 (hs _ ?_) hy) _⟩
  rw [← g1]
  exact List.mem_map_of_mem hx
 cases tk with
 | al =>
  rw [GB]
  obtain ⟨cs,l1,l2,l3⟩:=BP h hc
  exact ⟨cs,G,l1,l2,aV.none h.inv fun x hx=>⟨(l3 x hx).ok,(l3 x hx).bW⟩,fun x hx=>xZ (l3 x hx).rf,fun x hx y hy=>yX (l3 x hx).rf hy⟩
 | mv=>exact gen hs
 | bJ=>exact gen hs
def qT : Nat→List (Nat×Operand)→List AV→Bool
 | _,[],[]=>true
 | k,(i,x') :: l',x :: l=>i == k && aD x' x && qT (k + 1) l' l
 | _,_,_=>false
theorem Dv (a : Act) : ∀ {k : Nat} {l' : List (Nat×Operand)} {l : List AV},qT k l' l = true→iA (l'.map (·.2)) l = true∧l'.length = l.length∧(l'.map fun x=>(x.1,a.eval x.2)) = (((l'.map (·.2)).map a.eval).zipIdx k).map fun x=>(x.2,x.1)
 | k,[],[],_=>⟨rfl,rfl,rfl⟩
 | k,(i,x') :: l',x :: l,h=>by
  simp only [qT,Bool.and_eq_true,beq_iff_eq] at h
  obtain ⟨⟨rfl,h1⟩,h2⟩:=h
  obtain ⟨i1,i2,i3⟩:=Dv a h2
  exact ⟨by simp [iA,h1,i1],by simp [i2],by simp [i3,List.zipIdx_cons]⟩
 | k,[],_ :: _,h=>by cases h
 | k,_ :: _,[],h=>by cases h
theorem QE (h : St c G zl s a w) {d sz n : Nat} {tk : Tk} {ty el : TypeId} {i : TypeInfo} {v : Value} {ps : List AV} {ps' : Array (Nat×Operand)} (ho : o.op = .buildSlice ty n ps') (hu : P.underlying ty = some (.slice el)) (hi : P.info? el = some i) (hz : i.zero = some v) (hsz : i.size = sz)
  (h0 : 0 < sz) (hvs : v.cells.size = sz) (hn' : ps'.toList.length = n) (hbig : n * sz≤16777216) (hd : o.dst = some d) (hn : d < c.nt) (hx : qT 0 ps'.toList ps = true) (hK : aG P (.lit d tk sz ps) s K) : fU P c o a w K:=by
 obtain ⟨i1,i2,i3⟩:=Dv a hx
 obtain ⟨k1,k2⟩:=hK
 obtain ⟨cs,G',g1,g2,g3,g4⟩:=Cw tk i1 h
 rw [← g1] at k1 k2
 have hlen : ∀ x∈cs,x.cells.length = sz:=fun x hx=>by
  have:=(k1 x.er (List.mem_map_of_mem hx)).1
  rw [← mW] at this
  simpa using this
 have hcl : cs.length = n:=by
  have:=congrArg List.length g2
  simp only [List.length_map] at this
  omega
 have hL : ∀ e∈cs.map C.cells,e.length = sz:=fun e he=>by
  obtain ⟨x,hx,rfl⟩:=List.mem_map.1 he
  exact hlen x hx
 have hfl : (cs.map C.cells).flatten = cs.flatMap C.cells:=by rw [List.flatMap_def]
 have hval : ∀ x∈cs,x.val.cells = (x.cells.map C.val).toArray:=fun x hx=>uT (by rw [hlen x hx]; exact h0) (g4 x hx)
 have hvl : ∀ v∈cs.map C.val,v.cells.size = sz:=fun v hv=>by
  obtain ⟨x,hx,rfl⟩:=List.mem_map.1 hv
  rw [hval x hx]
  simp [hlen x hx]
 have Ou : ((cs.map C.val).flatMap fun v=>v.cells.toList) = (cs.flatMap C.cells).map C.val:=by
  rw [List.map_flatMap,List.flatMap_map]
  clear k1 k2 g1 g2 g3 g4 hcl hL hfl hvl hlen
  induction cs with
  | nil=>rfl
  | cons x cs ih =>
   rw [List.flatMap_cons,List.flatMap_cons,ih fun y hy=>hval y (List.mem_cons_of_mem _ hy),hval x (List.mem_cons_self ..)]
 have hparts : (ps'.map fun (i,x)=>(i,a.eval x)).toList = ((cs.map C.val).zipIdx 0).map fun x=>(x.2,x.1):=by
  rw [Array.toList_map,g2]
  exact i3
 have hrun : (Instr.buildSlice ty n (ps'.map fun (i,x)=>(i,a.eval x))).run P w = .ok (.slice (some ⟨w.heap.size,0,none⟩) n n) (w.alloc (.cells ((cs.flatMap C.cells).map C.val).toArray el)):=by
  by_cases hz0 : n = 0
  ·subst hz0
   have hc0 : cs = []:=List.eq_nil_of_length_eq_zero hcl
   subst hc0
   have hp : ps' = #[]:=by
    apply Array.ext'
    exact List.eq_nil_of_length_eq_zero hn'
   subst hp
   simp [Instr.buildSlice,run_underlying hu,Go.sizeOf,typeInfo,hi,newRow,Instr.fill,Array.range_zero']
  ·have hsmall : ¬ n * i.size > 2 ^ 24:=by rw [hsz]; omega
   have hpos : ¬ n * i.size = 0:=by
    rw [hsz]
    have:=Nat.mul_pos (Nat.pos_of_ne_zero hz0) h0
    omega
   refine run_buildSlice (P:=P) w ty el n _ _ i v hu hi hz hsmall hpos ?_
   rw [hparts,hsz,← Ou]
   exact Great.fill_whole h0 _ _ hvl (by simp [hcl])
 refine good_row h (L:=cs.map C.cells) (cap:=n) (sz:=sz) (fz:=(0,0)) (w':=w.alloc (.cells ((cs.flatMap C.cells).map C.val).toArray el)) hL (by simp [hcl]) (by rw [hfl]; exact aV.flat g3 g4) (fun y hy=>?_) hd hn (yA w _) (rK w _) ?_ (fun k _ hh=>by simp at hh) ?_ ?_ ?_
 ·rw [hfl] at hy
  obtain ⟨x,hx,hy⟩:=List.mem_flatMap.1 hy
  exact Fv (g4 x hx) (g3.all x hx).1 (k1 x.er (List.mem_map_of_mem hx)).2 hy
 ·have:=lW hL
  rw [hfl] at this
  simp only [List.length_map] at this
  simp [this,hcl]
 ·intro q x hq
  rw [hfl] at hq
  simp [hq]
 ·have : (cs.map C.cells).length = n:=by simp [hcl]
  rw [this]
  simp only [execOp,ho,Sem.run_bind,hrun,Result.andThen_ok,Sem.run_pure]
 ·rw [List.map_map] at k2 ⊢
  have : cs.map (cellsOf ∘ C.er) = cs.map ((fun e=>e.map C.er) ∘ C.cells):=List.map_congr_left fun x _=>(mW x).symm
  rw [← this]
  exact k2
theorem En : ∀ (vs : List Value) (off k : Nat) (cells : Array Value),((vs.zipIdx k).foldl (fun cs (x : Value×Nat)=>cs.setIfInBounds (off + x.2) x.1) cells).toList = gx cells.toList (off + k) vs
 | [],off,k,cells=>rfl
 | v :: vs,off,k,cells=>by
  rw [List.zipIdx_cons,List.foldl_cons,En vs off (k + 1)]
  rw [Array.toList_setIfInBounds]
  rfl
theorem zn {α β : Type} (f : α→β) : ∀ (ys : List α) (l : List α) (o : Nat),(gx l o ys).map f = gx (l.map f) o (ys.map f)
 | [],l,o=>rfl
 | y :: ys,l,o=>by
  simp only [gx,List.map_cons]
  rw [zn f ys,List.map_set]
theorem Ec {α : Type} : ∀ (ys : List α) (l : List α) (o : Nat),(gx l o ys).length = l.length
 | [],l,o=>rfl
 | y :: ys,l,o=>by simp only [gx]; rw [Ec ys,List.length_set]
theorem zo {α : Type} : ∀ (ys : List α) (l : List α) (o : Nat),∀ x∈gx l o ys,x∈l∨x∈ys
 | [],l,o,x,hx=>.inl hx
 | y :: ys,l,o,x,hx=>by
  rcases zo ys _ _ x hx with hx | hx
  ·rcases List.mem_or_eq_of_mem_set hx with hx | rfl
   ·exact .inl hx
   ·exact .inr (List.mem_cons_self ..)
  ·exact .inr (List.mem_cons_of_mem _ hx)
theorem Gj {α : Type} {R : α→α→Prop} (l9 : ∀ a b,R a b→R b a) {y : α} : ∀ {l : List α},l.Pairwise R→(∀ x∈l,R x y)→∀ o,(l.set o y).Pairwise R
 | [],h,hy,o=>by simp
 | x :: l,h,hy,0=>by
  rw [List.pairwise_cons] at h
  rw [List.set_cons_zero]
  exact List.pairwise_cons.2 ⟨fun a ha=>l9 _ _ (hy a (List.mem_cons_of_mem _ ha)),h.2⟩
 | x :: l,h,hy,o + 1=>by
  rw [List.pairwise_cons] at h
  rw [List.set_cons_succ]
  refine List.pairwise_cons.2 ⟨fun a ha=>?_,Gj l9 h.2 (fun z hz=>hy z (List.mem_cons_of_mem _ hz)) o⟩
  rcases List.mem_or_eq_of_mem_set ha with ha | rfl
  ·exact h.1 a ha
  ·exact hy x (List.mem_cons_self ..)
theorem Ed {α : Type} {R : α→α→Prop} (l9 : ∀ a b,R a b→R b a) : ∀ (ys : List α) (l : List α) (o : Nat),l.Pairwise R→ys.Pairwise R→(∀ x∈l,∀ y∈ys,R x y)→(gx l o ys).Pairwise R
 | [],l,o,h,_,_=>h
 | y :: ys,l,o,h,h2,h3=>by
  rw [List.pairwise_cons] at h2
  refine Ed l9 ys _ _ (Gj l9 h (fun x hx=>h3 x hx y (List.mem_cons_self ..)) o) h2.2 fun x hx z hz=>?_
  rcases List.mem_or_eq_of_mem_set hx with hx | rfl
  ·exact h3 x hx z (List.mem_cons_of_mem _ hz)
  ·exact h2.1 z hz
def iD : List C→List Nat→List C→List C
 | cs,o :: os,y :: ys=>iD (gx cs o y.cells) os ys
 | cs,_,_=>cs
theorem Eg : ∀ (cs : List C) (os : List Nat) (ys : List C),(iD cs os ys).map C.er = oP (cs.map C.er) os (ys.map C.er)
 | cs,[],ys=>by cases ys <;> rfl
 | cs,o :: os,[]=>rfl
 | cs,o :: os,y :: ys=>by
  simp only [iD,oP,List.map_cons]
  rw [Eg,zn,mW]
theorem Eh : ∀ (cs : List C) (os : List Nat) (ys : List C),∀ x∈iD cs os ys,x∈cs∨x∈ys.flatMap C.cells
 | cs,[],ys,x,hx=>by cases ys <;> exact .inl hx
 | cs,o :: os,[],x,hx=>.inl hx
 | cs,o :: os,y :: ys,x,hx=>by
  rw [List.flatMap_cons,List.mem_append]
  rcases Eh _ os ys x hx with hx | hx
  ·exact (zo _ _ _ x hx).imp id .inl
  ·exact .inr (.inr hx)
theorem Ei {R : C→C→Prop} (l9 : ∀ a b,R a b→R b a) : ∀ (cs : List C) (os : List Nat) (ys : List C),cs.Pairwise R→(ys.flatMap C.cells).Pairwise R→(∀ x∈cs,∀ y∈ys.flatMap C.cells,R x y)→(iD cs os ys).Pairwise R
 | cs,[],ys,h,_,_=>by cases ys <;> exact h
 | cs,o :: os,[],h,_,_=>h
 | cs,o :: os,y :: ys,h,h2,h3=>by
  rw [List.flatMap_cons,List.pairwise_append] at h2
  refine Ei l9 _ os ys (Ed l9 _ _ _ h h2.1 fun x hx z hz=>h3 x hx z (by rw [List.flatMap_cons]; exact List.mem_append_left _ hz)) h2.2.1 fun x hx z hz=>?_
  rcases zo _ _ _ x hx with hx | hx
  ·exact h3 x hx z (by rw [List.flatMap_cons]; exact List.mem_append_right _ hz)
  ·exact h2.2.2 x hx z hz
def mX (places : List (Nat×Nat)) (len : Nat) : List (Nat×Operand)→List ((Nat×Nat)×AV)→Bool
 | [],[]=>true
 | (i,x') :: l',((off,size),x) :: l=>(match places[i]? with | some q=>q.1 == off && q.2 == size | none=>false) && decide (0 < size) && decide (off + size≤len) && aD x' x && mX places len l' l
 | _,_=>false
theorem Dr {places : List (Nat×Nat)} {len : Nat} : ∀ {l' : List (Nat×Operand)} {l : List ((Nat×Nat)×AV)},mX places len l' l = true→iA (l'.map (·.2)) (l.map (·.2)) = true
 | [],[],_=>rfl
 | (i,x') :: l',((off,size),x) :: l,h=>by
  simp only [mX,Bool.and_eq_true] at h
  simp only [List.map_cons,iA,h.1.2,Dr h.2,Bool.and_self]
 | [],_ :: _,h=>by cases h
 | _ :: _,[],h=>by cases h
theorem Ee (a : Act) {places : List (Nat×Nat)} {len : Nat} : ∀ {l' : List (Nat×Operand)} {l : List ((Nat×Nat)×AV)},mX places len l' l = true→∀ (zs cs : List C),zs.length = len→cs.map C.val = (l'.map (·.2)).map a.eval→(∀ x∈cs,x.shape)→qp (l.map (·.1.2)) (cs.map C.er) →
  Instr.fill (fun i=>places[i]?) (zs.map C.val).toArray (l'.map fun x=>(x.1,a.eval x.2)) = some ((iD zs (l.map (·.1.1)) cs).map C.val).toArray
 | [],[],_,zs,cs,hz,hv,hs,hsz=>by
  cases cs with
  | nil=>rfl
  | cons x cs=>simp at hv
 | (i,x') :: l',((off,size),x) :: l,h,zs,cs,hz,hv,hs,hsz=>by
  simp only [mX,Bool.and_eq_true,decide_eq_true_eq] at h
  obtain ⟨⟨⟨⟨h1,h2⟩,h3⟩,h4⟩,h5⟩:=h
  cases cs with
  | nil=>simp at hv
  | cons y cs =>
   simp only [List.map_cons,List.cons.injEq] at hv
   simp only [List.map_cons,qp] at hsz
   have hpl : places[i]? = some (off,size):=by
    cases hp : places[i]? with
    | none=>rw [hp] at h1; cases h1
    | some q =>
     rw [hp] at h1
     simp only [Bool.and_eq_true,beq_iff_eq] at h1
     rw [← h1.1,← h1.2]
   have jQ : y.cells.length = size:=by
    have:=hsz.1
    rw [← mW] at this
    simpa using this
   have jR:=uT (by rw [jQ]; exact h2) (hs y (List.mem_cons_self ..))
   simp only [List.map_cons]
   unfold Instr.fill
   simp only [hpl,← hv.1,jR]
   rw [if_neg (by simp [jQ,hz]; exact h3)]
   have : (((y.cells.map C.val).toArray.zipIdx).foldl (fun cs (x : Value×Nat)=>cs.setIfInBounds (off + x.2) x.1) (zs.map C.val).toArray) = ((gx zs off y.cells).map C.val).toArray:=by
    apply Array.ext'
    rw [← Array.foldl_toList,Array.toList_zipIdx,En,zn]
    rfl
   have ih:=Ee a h5 (gx zs off y.cells) cs (by rw [Ec]; exact hz) hv.2 (fun x hx=>hs x (List.mem_cons_of_mem _ hx)) hsz.2
   simp only [iD]
   rw [← ih,← this]
 | [],_ :: _,h,_,_,_,_,_,_=>by cases h
 | _ :: _,[],h,_,_,_,_,_,_=>by cases h
theorem Qr (h : St c G zl s a w) {d : Nat} {tk : Tk} {ty : TypeId} {i : TypeInfo} {v : Value} {z : List X} {ps : List ((Nat×Nat)×AV)} {ps' : Array (Nat×Operand)} {places : List (Nat×Nat)} (ho : o.op = .build ty ps')
  (hb : ∀ parts cells,Instr.fill (fun i=>places[i]?) v.cells parts = some cells→P.built ty parts = some cells) (hc : iY v.cells.toList z = true) (hd : o.dst = some d) (hn : d < c.nt) (hx : mX places z.length ps'.toList ps = true)
  (hK : aG P (.build d tk z ps) s K) : fU P c o a w K:=by
 obtain ⟨k1,k2,k3⟩:=hK
 obtain ⟨cs,G',g1,g2,g3,g4,g5⟩:=RX tk (Dr hx) h k1
 obtain ⟨l,l1,l2,l3⟩:=uF w zl c.zb hc
 rw [← g1] at k2 k3
 have rR : l.length = z.length:=by rw [← l1]; simp
 have ES:=Ee a hx l cs rR g2 g4 k2
 have O9 : (l.map C.val).toArray = v.cells:=by rw [l2]
 rw [O9] at ES
 have hrun : (Instr.build ty (ps'.map fun (i,x)=>(i,a.eval x))).run P w = .ok (.agg ((iD l (ps.map (·.1.1)) cs).map C.val).toArray) w:=by
  refine run_build w ty _ _ (hb _ _ ?_)
  rw [Array.toList_map]
  exact ES
 have hT:=aV.flat g3 g4
 have hall : ∀ x∈iD l (ps.map (·.1.1)) cs,x.cell∧x.ok w (Zf zl c.zb)∧x.rf G'∧∀ b k,x.fp b k→∃ y∈cs.flatMap C.cells,y.fp b k:=fun x hx=>by
  rcases Eh _ _ _ x hx with hx | hx
  ·obtain ⟨a1,a2,a3⟩:=l3 x hx
   exact ⟨C.ic a1,a2,C.jV a1 _,fun b k hf=>(a3 b k hf).elim⟩
  ·obtain ⟨y,hy,hx'⟩:=List.mem_flatMap.1 hx
   obtain ⟨b1,b2⟩:=oF (g4 y hy) (g3.all y hy).1 hx'
   exact ⟨b1,b2,g5 y hy x hx',fun b k hf=>⟨x,hx,hf⟩⟩
 have fm : (iD l (ps.map (·.1.1)) cs).Pairwise fun a b=>∀ x k,a.fp x k→¬ b.fp x k :=
  Ei (fun a b hab x k hf hf'=>hab x k hf' hf) _ _ _ (lH fun x hx=>(l3 x hx).2.2) hT.apart fun x hx y _ b k hf=>((l3 x hx).2.2 b k hf).elim
 obtain ⟨G2,h'⟩:=h.fresh hT (Ext.refl _ w) hn (x:=dZ (iD l (ps.map (·.1.1)) cs)) ⟨fun j hj=>⟨(hall _ (bQ hj _)).1,(hall _ (bQ hj _)).2.1⟩,fun j hj b k hf j' hj' hne=>qg fm _ hj hj' hne hf⟩ (fun j hj=>(hall _ (bQ hj _)).2.2.1) (fun b k hf=>by
  obtain ⟨x,hx,hf⟩:=(lG _ _ _).1 hf
  exact .inr ((hall x hx).2.2.2 b k hf))
 refine ⟨.agg ((iD l (ps.map (·.1.1)) cs).map C.val).toArray,w,?_,Ext.refl _ _,G2,zl,_,k3,?_⟩
 ·simp only [execOp,ho,Sem.run_bind,hrun,Result.andThen_ok,Sem.run_pure]
 ·rw [hd]
  rw [ox,Eg,l1,qI] at h'
  exact h'
end
end M
namespace M
open Go Go.RowKit
variable [Bs]
section
variable {P : Program}
theorem Rx {w : World} {g k : Nat} {v u : Value} (hv : v.oneCell' = true) (hc : w.cell? ⟨g,k,none⟩ = some u) (hf : w.frozen? ⟨g,k,none⟩ = false) : (store ⟨g,k,none⟩ v).run P w = .ok () (w.setCell ⟨g,k,none⟩ v):=by
 rw [run_store P w _ v _ hv,hc]
 simp [hf]
theorem cX.hand {d y z : C} {i c g k : Nat} (h : cX d i c y g k) (hz : y.bO→z.bO) : cX d i c z g k:=by
 cases h with
 | row h hi hc hs=>exact .row h hi hc (hz hs)
 | ptr h hi hc=>exact .ptr h hi hc
theorem cX.fp {d y : C} {i c g k : Nat} (h : cX d i c y g k) : d.fp g k:=by
 cases h with
 | row hd hi hc hs=>subst hd; exact ⟨rfl,.inl ⟨_,rfl⟩⟩
 | ptr hd hi hc=>subst hd; exact ⟨rfl,.inl ⟨rfl,by omega,by omega⟩⟩
structure CO (w : World) (zl zb : Nat→Nat→Prop) (G : Nat→C) (l : List C) : Prop where
 all : ∀ x∈l,x.cell∧x.ok w (Zf zl zb)∧x.rf G∧(∀ t b k,x.fp b k→¬ (G t).fp b k)∧∀ b k,x.fp b k→¬ zl b k∧¬ zb b k
 apart : l.Pairwise fun a b=>∀ x k,a.fp x k→¬ b.fp x k
theorem PB (r : Nat) (p : Path) (l : List C) : X.ep r p (l.map C.er) = (l.map fun x=>x.aj (C.aX r p)).map C.er:=by
 rw [X.pF,List.map_map]
 exact List.map_congr_left fun x _=>(C.jS r p x).symm
theorem Gv (r : Nat) (p : Path) (i : Nat) {zl zb : Nat→Nat→Prop} {g k0 : Nat} : ∀ (n : Nat) (l : List C),l.length = n→∀ (c m : Nat) {w : World} {G : Nat→C} {s : ag} {d : C},Inv w zl zb G s→(G r).sub p = some d →
  (∀ q x,l[q]? = some x→cX d i (c + q) x g (k0 + m + q))→CO w zl zb G l →
  ∃ w' G',(storeCells ⟨g,k0,none⟩ (l.map C.val) m).run P w = .ok () w'∧Inv w' zl zb G' (setCells r p i c (l.map C.er) s)∧(∀ t,(G' t).val = (G t).val)∧(∀ t b k,(G' t).fp b k→(∃ x∈l,x.fp b k)∨(G t).fp b k)∧Ext (fun b k=>b = g∧k0 + m≤k∧k < k0 + m + n) w w'
 | 0,l,hn,c,m,w,G,s,d,h,hsub,hsp,hh=>by
  have : l = []:=List.eq_nil_of_length_eq_zero hn
  subst this
  exact ⟨w,G,rfl,by simpa [setCells] using h,fun _=>rfl,fun t b k hf=>.inr hf,Ext.refl _ _⟩
 | n + 1,[],hn,c,m,w,G,s,d,h,hsub,hsp,hh=>by simp at hn
 | n + 1,y :: l,hn,c,m,w,G,s,d,h,hsub,hsp,hh=>by
  have E8:=hsp 0 y rfl
  simp only [Nat.add_zero] at E8
  obtain ⟨y1,y2,y3,y4,y5⟩:=hh.all y (List.mem_cons_self ..)
  obtain ⟨G1,i1,i2,i3,i4,i5,i6,i7,d',i8,i9⟩:=h.store r p i c d y g (k0 + m) hsub E8 y2 y1 y3 y4 y5
  obtain ⟨u,hu⟩:=i5
  have hE:=Ext.setCell w g (k0 + m) y.val
  have fm:=List.pairwise_cons.1 hh.apart
  have eE : ∀ {b k},d.fp b k→(G r).fp b k:=fun hf=>C.dW p hsub (h.ok r) hf
  have N8 : ∀ (f : C→C),(∀ x,f x = if jU r p i c s then x.aj (C.aX r (p ++ [(i,c)])) else x)→CO (w.setCell ⟨g,k0 + m,none⟩ y.val) zl zb G1 (l.map f):=by
   intro f kI
   have bp : ∀ x b k,(f x).fp b k↔x.fp b k:=fun x b k=>by
    rw [kI]; split
    ·exact C.bN _ x b k
    ·exact Iff.rfl
   refine ⟨fun x hx=>?_,?_⟩
   ·obtain ⟨x,hx0,rfl⟩:=List.mem_map.1 hx
    clear hx
    have hx : x∈l:=hx0
    obtain ⟨x1,x2,x3,x4,x5⟩:=hh.all x (List.mem_cons_of_mem _ hx)
    have hok : x.ok (w.setCell ⟨g,k0 + m,none⟩ y.val) (Zf zl zb):=C.dc hE (fun mm b k hz hs=>by
     obtain ⟨rfl,rfl⟩:=hs
     exact h.qB r mm _ _ hz (eE i4)) _ (fun b k hf hs=>by
     obtain ⟨rfl,rfl⟩:=hs
     exact x4 r _ _ hf (eE i4)) x2
    refine ⟨?_,?_,?_,fun t b k hf hf'=>?_,fun b k hf=>x5 b k ((bp x b k).1 hf)⟩
    ·rw [kI]; split
     ·exact C.xE _ _ x1
     ·exact x1
    ·rw [kI]; split
     ·exact C.iL _ _ hok
     ·exact hok
    ·have:=i7 x x3
     rw [kI]
     cases hb : jU r p i c s <;> rw [hb] at this <;> exact this
    ·rcases i3 t b k hf' with hy | hg
     ·exact fm.1 x hx b k hy ((bp x b k).1 hf)
     ·exact x4 t b k ((bp x b k).1 hf) hg
   ·refine List.pairwise_map.2 (fm.2.imp ?_)
    intro a b hab x k hf hf'
    exact hab x k ((bp a x k).1 hf) ((bp b x k).1 hf')
  have fin : ∀ (f : C→C),(∀ x,f x = if jU r p i c s then x.aj (C.aX r (p ++ [(i,c)])) else x)→setCells r p i c ((y :: l).map C.er) s = setCells r p i (c + 1) ((l.map f).map C.er) (setCell r p i c y.er s) →
    ∃ w' G',(storeCells ⟨g,k0,none⟩ ((y :: l).map C.val) m).run P w = .ok () w'∧Inv w' zl zb G' (setCells r p i c ((y :: l).map C.er) s)∧(∀ t,(G' t).val = (G t).val)∧(∀ t b k,(G' t).fp b k→(∃ x∈y :: l,x.fp b k)∨(G t).fp b k)∧Ext (fun b k=>b = g∧k0 + m≤k∧k < k0 + m + (n + 1)) w w':=by
   intro f kI rW
   have bp : ∀ x b k,(f x).fp b k↔x.fp b k:=fun x b k=>by
    rw [kI]; split
    ·exact C.bN _ x b k
    ·exact Iff.rfl
   have hval : (l.map f).map C.val = l.map C.val:=by
    rw [List.map_map]
    refine List.map_congr_left fun x _=>?_
    show (f x).val = x.val
    rw [kI]; split
    ·exact C.fy _ x
    ·rfl
   obtain ⟨w',G',j1,j2,j3,j4,j5⟩:=Gv r p i n (l.map f) (by simpa using hn) (c + 1) (m + 1) i1 i8 (fun q x hq=>by
    rw [List.getElem?_map] at hq
    cases l8 : l[q]? with
    | none=>rw [l8] at hq; cases hq
    | some x0 =>
     rw [l8] at hq
     simp only [Option.map_some,Option.some.injEq] at hq
     subst hq
     have h1:=i9 _ _ _ _ _ (hsp (q + 1) x0 (by simpa using l8))
     rw [show c + 1 + q = c + (q + 1) by omega,show k0 + (m + 1) + q = k0 + m + (q + 1) by omega]
     rw [kI]; split
     ·exact h1.hand fun hs=>by rw [C.qc _ _ hs]; exact hs
     ·exact h1) (N8 f kI)
   refine ⟨w',G',?_,by rw [rW]; exact j2,fun t=>(j3 t).trans (i2 t),fun t b k hf=>?_,?_⟩
   ·rw [List.map_cons,storeCells,Sem.run_bind,lF,Rx (Inv.lP y1) hu i6]
    simp only [Result.andThen_ok]
    rw [← hval]
    exact j1
   ·rcases j4 t b k hf with ⟨x,hx,hf'⟩ | hf'
    ·obtain ⟨x0,hx0,rfl⟩:=List.mem_map.1 hx
     exact .inl ⟨x0,List.mem_cons_of_mem _ hx0,(bp x0 b k).1 hf'⟩
    ·exact (i3 t b k hf').imp (fun hy=>⟨y,List.mem_cons_self ..,hy⟩) id
   ·refine (hE.mono (S':=fun b k=>b = g∧k0 + m≤k∧k < k0 + m + (n + 1)) (fun b k hs _=>⟨hs.1,by omega,by omega⟩)).trans j5 fun b k hs hb=>⟨hs.1,by omega,by omega⟩
  cases o6 : jU r p i c s with
  | true =>
   refine fin (fun x=>x.aj (C.aX r (p ++ [(i,c)]))) (fun x=>by rw [if_pos o6]) ?_
   simp only [List.map_cons]
   rw [setCells,o6,cond_true,PB]
  | false =>
   refine fin id (fun x=>by rw [o6]; rfl) ?_
   simp only [List.map_cons]
   rw [setCells,o6,cond_false]
   simp
end
end M
