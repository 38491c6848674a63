/- A machine of values for loaded Go functions, sound for the calculus of calls; part 1; no conditions. -/
import Derived.Calls
import Derived.Orders
import Derived.Laws.Sem
import Derived.Below
import Derived.Laws.Cells
import Derived.Laws.Strings
import Derived.Laws.StructEq
import Derived.Laws.IdiomStrings
import Derived.Laws.Entries
import Derived.Laws.OwnMore
import Derived.Great.BuildSlice
set_option linter.defProp false
set_option linter.unusedSectionVars false
set_option linter.unusedVariables false
set_option linter.unusedSimpArgs false
def kU:=@Array.ext'
def zI:=@Array.ext_getElem?
def pV:=@Array.getD_eq_getD_getElem?
def Dz:=@Array.getElem?_append_left
def zO:=@Array.getElem?_eq_getElem
def ja:=@Array.getElem?_eq_none
def gQ:=@Array.getElem?_eq_some_iff
def Jd:=@Array.getElem?_modify
def Jh:=@Array.getElem?_replicate
def DN:=@Array.getElem?_setIfInBounds_ne
def IZ:=@Array.getElem?_setIfInBounds_self_of_lt
def vK:=@Array.length_toList
def I4:=@Array.setIfInBounds_comm
def Dq:=@Array.size_append
def Ds:=@Array.toList_map
def au:=@Bool.and_eq_true
def Dv:=@Bool.and_true
def gx:=@Bool.false_eq_true
def pT:=@Bool.not_eq_true'
def Dw:=@Bool.not_false
def pU:=@Bool.or_eq_true
def Dx:=@Bool.true_and
def vM:=@Classical.choose_spec
def Dy:=@Function.comp_def
def gM:=@Iff.rfl
def I6:=@Int.tmod_eq_emod_of_nonneg
def zJ:=@List.Pairwise.imp_of_mem
def kV:=@List.all_eq_true
def nV:=@List.append_assoc
def I7:=@List.append_eq_nil_iff
def nW:=@List.append_nil
def zK:=@List.cons.inj
def sn:=@List.cons.injEq
def gN:=@List.cons_append
def pW:=@List.dropWhile_cons
def I8:=@List.dropWhile_sublist
def su:=@List.drop_eq_getElem_cons
def I9:=@List.drop_eq_nil_of_le
def zL:=@List.eq_nil_of_length_eq_zero
def gy:=@List.ext_getElem?
def zM:=@List.filter_cons
def DA:=@List.flatMap_append
def gO:=@List.flatMap_cons
def DB:=@List.flatMap_nil
def sw:=@List.flatten_append
def DC:=@List.flatten_cons
def zN:=@List.foldl_cons
def gP:=@List.getD_eq_getElem?_getD
def mc:=@List.getElem?_append_left
def jy:=@List.getElem?_append_right
def DE:=@List.getElem?_cons_succ
def sx:=@List.getElem?_cons_zero
def sy:=@List.getElem?_drop
def bH:=@List.getElem?_eq_getElem
def iz:=@List.getElem?_eq_none
def br:=@List.getElem?_eq_some_iff
def cg:=@List.getElem?_map
def Ja:=@List.getElem?_mapIdx
def vN:=@List.getElem?_modify
def nX:=@List.getElem?_range
def DF:=@List.getElem?_replicate
def Jb:=@List.getElem?_replicate_of_lt
def zP:=@List.getElem?_set
def DH:=@List.getElem?_take_of_lt
def sA:=@List.getElem?_toArray
def zQ:=@List.getElem_map
def dy:=@List.getElem_mem
def zR:=@List.getElem_of_mem
def DI:=@List.getElem_range
def fT:=@List.length_append
def cw:=@List.length_cons
def DJ:=@List.length_drop
def Jc:=@List.length_eq_zero_iff
def DK:=@List.length_filter_le
def cM:=@List.length_map
def iA:=@List.length_nil
def pX:=@List.length_range
def DL:=@List.length_reverse
def jb:=@List.map_append
def bn:=@List.map_congr_left
def aS:=@List.map_cons
def jz:=@List.map_drop
def bT:=@List.map_map
def jA:=@List.map_nil
def Je:=@List.map_set
def kW:=@List.map_take
def dz:=@List.mem_append
def Jf:=@List.mem_append_left
def Jg:=@List.mem_append_right
def bA:=@List.mem_cons
def bU:=@List.mem_cons_of_mem
def bE:=@List.mem_cons_self
def zS:=@List.mem_flatMap
def zT:=@List.mem_flatten
def aL:=@List.mem_map
def gR:=@List.mem_map_of_mem
def me:=@List.mem_of_getElem?
def DM:=@List.mem_of_mem_take
def zU:=@List.mem_or_eq_of_mem_set
def nY:=@List.mem_range
def ew:=@List.mem_singleton
def pP:=@List.nil_append
def IX:=@List.nodup_iff_pairwise_ne
def vH:=@List.pairwise_append
def ey:=@List.pairwise_cons
def lY:=@List.pairwise_iff_getElem
def Dj:=@List.pairwise_lt_range
def vI:=@List.pairwise_map
def vJ:=@List.range_succ_eq_map
def IY:=@List.reverse_append
def Dk:=@List.reverse_reverse
def Dl:=@List.set_append_right
def Dm:=@List.set_cons_zero
def pQ:=@List.size_toArray
def Dn:=@List.sum_append
def nR:=@List.sum_cons
def zz:=@List.sum_nil
def I0:=@List.takeWhile_cons
def I1:=@List.take_append_drop
def r7:=@List.take_length
def pR:=@List.take_range
def I2:=@List.take_succ_cons
def r8:=@List.take_succ_eq_append_getElem
def zA:=@List.zip_cons_cons
def nS:=@Nat.add_assoc
def nT:=@Nat.add_comm
def dx:=@Nat.add_mul
def lZ:=@Nat.add_zero
def vL:=@Nat.div_add_mod
def I3:=@Nat.div_lt_of_lt_mul
def Dp:=@Nat.eq_zero_or_pos
def ez:=@Nat.le_refl
def gv:=@Nat.le_trans
def iy:=@Nat.lt_of_lt_of_le
def fA:=@Nat.lt_or_ge
def jZ:=@Nat.min_eq_left
def r9:=@Nat.mod_lt
def l9:=@Nat.mul_comm
def j0:=@Nat.mul_le_mul_right
def zB:=@Nat.one_mul
def I5:=@Nat.pow_le_pow_right
def zC:=@Nat.pow_succ
def j6:=@Nat.zero_add
def pS:=@Nat.zero_le
def iX:=@Option.bind_eq_some_iff
def jx:=@Option.bind_some
def zE:=@Option.getD_some
def sg:=@Option.isSome_iff_exists
def nU:=@Option.map_eq_some_iff
def Dr:=@Option.map_none
def bM:=@Option.map_some
def e8:=@Option.some.inj
def cE:=@Option.some.injEq
def zF:=@Prod.mk.inj
def gw:=@Prod.mk.injEq
def zG:=@UInt8.toNat_ofNat'
def zH:=@and_congr_right
def cT:=@beq_iff_eq
def mb:=@cond_false
def iY:=@cond_true
def cK:=@congrArg
def Dt:=@decide_eq_false_iff_not
def aP:=@decide_eq_true_eq
def si:=@dif_neg
def j7:=@dif_pos
def Du:=@exists_congr
def iZ:=@if_false
def aC:=@if_neg
def aA:=@if_pos
def cU:=@if_true
def sj:=@of_decide_eq_true
namespace M
open Go
inductive Md where|own|sl|ah
 deriving DecidableEq,Repr
abbrev Path:=List (Nat×Nat)
inductive X where
 |dead
 |int (k:IntKind) (n:Int)
 |bool (b:Bool)
 |str (s:ByteArray)
 |row (m:Md) (sz:Nat) (xs:List (List X))
 |ptr (m:Md) (cs:List X)
 |agg (cs:List X)
 |aq (cs:List X)
 |fn (f:FuncId) (caps:List X)
 |ref (s:Nat) (p:Path)
 |av (s:Nat) (p:Path) (i c:Nat)
 |cut (s:Nat) (p:Path) (lo hi:Nat)
namespace X
def step:X->Nat×Nat->Option X
 |.row _ _ xs,q=>(xs[q.1]?).bind (·[q.2]?)
 |.ptr _ cs,q=>bif q.1==0 then cs[q.2]? else none
 |.agg cs,q=>bif q.1==0 then cs[q.2]? else none
 |.aq cs,q=>bif q.1==0 then cs[q.2]? else none
 |_,_=>none
def sub(x:X):Path->Option X
 |[]=>some x
 |q::p=>(x.step q).bind (·.sub p)
def aK:X->Nat×Nat->X->X
 |.row m sz xs,q,y=>.row m sz (xs.modify q.1 (·.set q.2 y))
 |.ptr m cs,q,y=>.ptr m (cs.set q.2 y)
 |.agg cs,q,y=>.agg (cs.set q.2 y)
 |.aq cs,q,y=>.aq (cs.set q.2 y)
 |x,_,_=>x
def putAt:Path->X->X->X
 |[],_,y=>y
 |q::p,x,y=>match x.step q with
  |some z=>x.aK q (putAt p z y)
  |none=>x
mutual
def md(m:Md):X->X
 |.row _ sz xs=>.row m sz (bq m xs)
 |.ptr _ cs=>.ptr m (cN m cs)
 |.agg cs=>.agg (cN m cs)
 |.aq cs=>.aq (cN m cs)
 |.fn f cs=>.fn f (cN m cs)
 |.ref _ _=>.dead
 |.av _ _ _ _=>.dead
 |.cut _ _ _ _=>.dead
 |.dead=>.dead
 |.int k n=>.int k n
 |.bool b=>.bool b
 |.str s=>.str s
def cN(m:Md):List X->List X
 |[]=>[]
 |x::l=>x.md m::cN m l
def bq(m:Md):List (List X)->List (List X)
 |[]=>[]
 |x::l=>cN m x::bq m l
end
def fo:X->Bool
 |.row _ _ _=>true
 |.ptr _ _=>true
 |.agg _=>true
 |.aq _=>true
 |_=>false
def pfx:Path->Path->Bool
 |[],_=>true
 |_::_,[]=>false
 |q::p,r::t=>q.1==r.1 && q.2==r.2 && pfx p t
mutual
def kill(r:Nat)(p:Path):X->X
 |.ref s q=>bif s==r && pfx p q then .dead else .ref s q
 |.av s q i c=>bif s==r && pfx p q then .dead else .av s q i c
 |.cut s q i c=>bif s==r && pfx p q then .dead else .cut s q i c
 |.ptr m cs=>.ptr m (ek r p cs)
 |.agg cs=>.agg (ek r p cs)
 |.aq cs=>.aq (ek r p cs)
 |.fn f cs=>.fn f (ek r p cs)
 |.dead=>.dead
 |.int k n=>.int k n
 |.bool b=>.bool b
 |.str s=>.str s
 |.row m sz xs=>.row m sz xs
def ek(r:Nat)(p:Path):List X->List X
 |[]=>[]
 |x::l=>x.kill r p::ek r p l
end
def BW(r:Nat)(p:Path):∀l:List X,(ek r p l).length=l.length
 |[]=>rfl
 |x::l=>by simp only[ek,cw,BW r p l]
mutual
def only(ks:List Nat):X->X
 |.ref s q=>bif ks.contains s then .ref s q else .dead
 |.av s q i c=>bif ks.contains s then .av s q i c else .dead
 |.cut s q i c=>bif ks.contains s then .cut s q i c else .dead
 |.ptr m cs=>.ptr m (kI ks cs)
 |.agg cs=>.agg (kI ks cs)
 |.aq cs=>.aq (kI ks cs)
 |.fn f cs=>.fn f (kI ks cs)
 |.dead=>.dead
 |.int k n=>.int k n
 |.bool b=>.bool b
 |.str s=>.str s
 |.row m sz xs=>.row m sz xs
def kI(ks:List Nat):List X->List X
 |[]=>[]
 |x::l=>x.only ks::kI ks l
end
end X
abbrev af:=List (Nat×X)
def get:af->Nat->X
 |[],_=>.dead
 |(k',v)::s,k=>bif k'==k then v else get s k
def nr(r:Nat)(p:Path):af->af
 |[]=>[]
 |(k,v)::s=>(k,v.kill r p)::nr r p s
def put(d:Nat)(v:X)(s:af):af:=bif (get s d).fo then (d,v.kill d [])::nr d [] s else (d,v)::s
def dN:Option Nat->X->af->af
 |some d,v,s=>put d v s
 |none,_,s=>s
inductive AV where
 |t (n:Nat)
 |k (x:X)
def X.clean:X->Bool
 |.ref _ _=>false
 |.av _ _ _ _=>false
 |.cut _ _ _ _=>false
 |.row m _ xs=>(match m with|.ah=>false|_=>true) && aR xs
 |.ptr m cs=>(match m with|.ah=>false|_=>true) && bC cs
 |.agg cs=>bC cs
 |.aq cs=>bC cs
 |.fn _ cs=>bC cs
 |_=>true
where
 bC:List X->Bool
 |[]=>true
 |x::l=>X.clean x && bC l
 aR:List (List X)->Bool
 |[]=>true
 |x::l=>bC x && aR l
def fC(n:Nat)(p:Path):X->X
 |.row .own _ _=>.ref n p
 |.ptr .own _=>.av n p 0 0
 |x=>x
def oa(n:Nat)(p:Path)(i:Nat):Nat->List X->List X
 |_,[]=>[]
 |c,x::l=>fC n (p++[(i,c)]) x::oa n p i (c+1) l
def eE(n:Nat)(p:Path):X->X
 |.agg cs=>.agg (oa n p 0 0 cs)
 |x=>fC n p x
def sL(n:Nat)(p:Path):Nat->List X->List X
 |_,[]=>[]
 |j,x::l=>eE n (p++[(0,j)]) x::sL n p (j+1) l
def alias(n:Nat)(p:Path):X->X
 |.aq cs=>.aq (sL n p 0 cs)
 |x=>eE n p x
def aj(s:af):AV->X
 |.t n=>alias n [] (get s n)
 |.k x=>x
def look(s:af)(r:Nat)(p:Path):Option X:=(get s r).sub p
def fu(r:Nat)(p:Path)(y:X)(s:af):af:=(r,X.putAt p (get (nr r p s) r) (y.kill r p))::nr r p s
def HM(r:Nat)(p:Path)(y:X)(s:af):af:=(r,X.putAt p (get s r) y)::s
inductive Tk where|mv|al|aZ
def move(r:Nat)(p:Path)(s:af):X×af:=match look s r p with
 |some y=>(y.kill r p,fu r p .dead s)
 |none=>(.dead,s)
def uo(r:Nat)(p:Path)(lo hi:Nat)(s:af):X×af:=match look s r p with
 |some (.row .own z xs)=>(.row .own z ((xs.take hi).drop lo),fu r p .dead s)
 |_=>(.cut r p lo hi,s)
def um(r:Nat)(p:Path)(i c:Nat)(s:af):X×af:=match look s r p with
 |some (.ptr .own cs)=>bif i==0 && c==0 then (.ptr .own (X.ek r p cs),fu r p .dead s) else (.av r p i c,s)
 |_=>(.av r p i c,s)
def H9(h:Tk):X->af->X×af
 |.ref r p,s=>match h with
  |.al=>(.ref r p,s)
  |.aZ=>match p with
   |[]=>move r [] s
   |q::t=>(.ref r (q::t),s)
  |.mv=>move r p s
 |.cut r p lo hi,s=>match h with
  |.al=>(.cut r p lo hi,s)
  |.aZ=>match p with
   |[]=>uo r [] lo hi s
   |q::t=>(.cut r (q::t) lo hi,s)
  |.mv=>uo r p lo hi s
 |.av r p i c,s=>match h with
  |.al=>(.av r p i c,s)
  |.aZ=>(.av r p i c,s)
  |.mv=>um r p i c s
 |x,s=>(x,s)
def aY:List X->af->List X×af
 |[],s=>([],s)
 |x::l,s=>match x with
  |.ref r p=>((move r p s).1::(aY l (move r p s).2).1,(aY l (move r p s).2).2)
  |.av _ _ _ _=>(.dead::(aY l s).1,(aY l s).2)
  |.cut _ _ _ _=>(.dead::(aY l s).1,(aY l s).2)
  |.fn _ _=>(.dead::(aY l s).1,(aY l s).2)
  |.ptr _ _=>(.dead::(aY l s).1,(aY l s).2)
  |.agg _=>(.dead::(aY l s).1,(aY l s).2)
  |.aq _=>(.dead::(aY l s).1,(aY l s).2)
  |y=>(y::(aY l s).1,(aY l s).2)
def take(h:Tk):X->af->X×af
 |.agg cs,s=>match h with
  |.mv=>(.agg (aY cs s).1,(aY cs s).2)
  |_=>(.agg cs,s)
 |x,s=>H9 h x s
def wV(s:af)(r:Nat)(p:Path):Bool:=match look s r p with
 |some .dead=>(match p.getLast? with
  |some _=>(match look s r p.dropLast with
   |some (.row .own _ _)=>true
   |some (.ptr .own _)=>true
   |some (.agg _)=>true
   |some (.aq _)=>true
   |_=>false)
  |none=>false)
 |_=>false
def oU(r:Nat)(p:Path):List X->Bool
 |[]=>true
 |.ref r' p'::l=> !(r'==r && X.pfx p p') && oU r p l
 |_::l=>oU r p l
def jD:List X->List X->af->Option af
 |[],_,s=>some s
 |x::l,ys,s=>match x,ys with
  |.ref r p,y::ys=>bif wV s r p && oU r p l then jD l ys ((r,X.putAt p (get s r) y)::s) else none
  |_,_::ys=>jD l ys s
  |_,[]=>none
def cellsOf:X->List X
 |.agg cs=>cs
 |.aq _=>[]
 |.dead=>[]
 |x=>[x]
inductive PM where|ah|iE (n:Nat)|mv|mut (n:Nat)
def scalar:X->Bool
 |.int _ _=>true
 |.bool _=>true
 |.str _=>true
 |_=>false
def dZ(s:af):X->Option (List X)
 |.ptr _ cs=>some cs
 |.av r p i c=>match look s r p with
  |some (.row _ _ xs)=>(xs[i]?).map λe=>oa r p i c (e.drop c)
  |some (.ptr _ cs)=>some (oa r p i c (cs.drop c))
  |_=>none
 |_=>none
def rowAt(s:af):X->Option (Nat×List (List X))
 |.row _ z xs=>some (z,xs)
 |.ref r p=>match look s r p with
  |some (.row _ z xs)=>some (z,xs)
  |_=>none
 |.cut r p lo hi=>match look s r p with
  |some (.row _ z xs)=>some (z,(xs.take hi).drop lo)
  |_=>none
 |_=>none
def iU(s:af):X->X
 |.ref r p=>match look s r p with
  |some y=>y.md .ah
  |none=>.dead
 |.cut r p lo hi=>match look s r p with
  |some (.row _ sz xs)=>X.md .ah (.row .ah sz ((xs.take hi).drop lo))
  |_=>.dead
 |x=>x.md .ah
def kL(s:af):List X->List X
 |[]=>[]
 |x::l=>iU s x::kL s l
def rq(n:Nat)(s:af)(x:X):X:=match dZ s x with
 |some (c::cs)=>.ptr .ah (kL s ((c::cs).take n))
 |_=>.dead
def jT(s:af):X->X
 |.av r p i c=>(match dZ s (.av r p i c) with|some (c::cs)=>X.ptr .ah (kL s (c::cs))|_=>.dead)
 |x=>iU s x
def rj(s:af):List X->List X
 |[]=>[]
 |x::l=>jT s x::rj s l
def iq(s:af):List X->List X
 |[]=>[]
 |x::l=>(match x with
  |.av r p i c=>(match dZ s (.av r p i c) with|some (c::cs)=>X.ptr .ah (rj s (c::cs))|_=>.dead)
  |x=>iU s x)::iq s l
def res(s:af):X->X
 |.agg cs=>.agg (kL s cs)
 |.fn f cs=>.fn f (iq s cs)
 |x=>iU s x
def kH(r:Nat)(p:Path)(i c:Nat)(s:af):Bool:=match look s r (p++[(i,c)]) with
 |some z=>z.fo
 |none=>true
def setCell(r:Nat)(p:Path)(i c:Nat)(y:X)(s:af):af:=
 bif kH r p i c s then fu r (p++[(i,c)]) y s else HM r (p++[(i,c)]) y s
def setCells(r:Nat)(p:Path)(i:Nat):Nat->List X->af->af
 |_,[],s=>s
 |c,y::l,s=>bif kH r p i c s then setCells r p i (c+1) (X.ek r (p++[(i,c)]) l) (setCell r p i c y s) else setCells r p i (c+1) l (setCell r p i c y s)
termination_by _ l=>l.length
decreasing_by all_goals simp[X.BW]
def wR(d:Nat)(cs:List X)(k:List X->X)(s:af):Option af:=
 bif X.clean.bC (aY cs s).1 then (jD cs (X.cN .sl (aY cs s).1) (aY cs s).2).map (put d (k (X.cN .sl (aY cs s).1))) else none
def ghost(fz:Bool)(d:Nat)(s:af):Option af:=
 bif fz then (match aj s (.t d) with
  |.agg cs=>wR d cs .agg s
  |.ref r p=>wR d [.ref r p] (·.headD .dead) s
  |_=>some s)
 else some (put d (take .mv (aj s (.t d)) s).1 (take .mv (aj s (.t d)) s).2)
inductive Ex where|normal|exit (id:Nat)|ret
inductive bt where
 |mv (d:Nat) (x:AV)
 |bk (d:Nat) (h:Tk) (x:AV)
 |pick (d:Nat) (c a b:AV)
 |un (d:Nat) (op:UnOp) (x:AV)
 |bin (d:Nat) (op:BinOp) (x y:AV)
 |beq (d:Nat) (neg:Bool) (x y:AV)
 |k6 (d:Nat) (neg:Bool) (ks:List Nat) (x y:AV)
 |nx (d:Nat) (neg:Bool) (x:AV)
 |conv (d:Nat) (k:IntKind) (x:AV)
 |bytes (d:Nat) (x:AV)
 |text (d:Nat) (x:AV)
 |box (d:Nat) (h:Tk) (x:AV)
 |new (d:Nat) (zero:List X)
 |build (d:Nat) (h:Tk) (zero:List X) (parts:List ((Nat×Nat)×AV))
 |lit (d:Nat) (h:Tk) (sz:Nat) (parts:List AV)
 |make (d:Nat) (sz bytes:Nat) (zero:List X) (n:AV)
 |load (d:Nat) (sz:Nat) (agg:Bool) (a:AV)
 |store (sz:Nat) (h:Tk) (a x:AV)
 |dr (d:Nat) (x:AV)
 |lq (d:Nat) (x:AV) (off:Nat)
 |lu (d:Nat) (x:AV) (off sz:Nat) (agg:Bool)
 |nj (d:Nat) (sz:Nat) (x i:AV)
 |cR (d:Nat) (x i:AV)
 |mB (d:Nat) (n sz:Nat) (agg:Bool) (x i:AV)
 |ext (d:Nat) (x:AV) (i:Nat)
 |jw (d:Nat) (x:AV) (lo hi:Option AV)
 |oX (d:Nat) (sz:Nat) (x:AV) (lo hi:Option AV)
 |nw (d:Nat) (f:FuncId) (caps:List AV)
 |len (d:Nat) (x:AV)
 |nP (d:Nat) (x:AV)
 |app (d:Nat) (h:Tk) (sz bytes:Nat) (x y:AV)
 |mn (d:Nat) (xs:List AV)
 |mx (d:Nat) (xs:List AV)
 |mF (d:Option Nat) (f:FuncId) (x:AV) (as:List (AV×PM))
 |qk (sz:Nat) (z:List X) (x:AV)
 |oP (d:Nat) (fz:Bool) (sz:Nat) (agg:Bool) (a:AV)
 |call (d:Option Nat) (f:FuncId) (as:List (AV×PM))
 |lf (d:Option Nat) (f:AV) (as:List (AV×PM))
structure G where
 g:Option (Nat×Bool):=none
 o:bt
inductive DT where
 |nil (ks:List Nat)
 |step (i:Nat) (g:G) (t:DT)
 |alt (a b:DT)
 |kp (ks:List Nat) (t:DT)
inductive A where
 |skip|ret
 |ops (l:List G)
 |draw (t:DT)
 |seq (a b:A)
 |cond (c:AV) (a b:A)
 |block (id:Nat) (b:A)
 |loop (b:A)
 |exit (id:Nat)
 |pk (ks:List Nat) (b:A)
end M
namespace M
open Go Go.RowKit
abbrev Ad:=Nat×Nat×Option Nat
def fV(n:Nat)(q:Ad):Ad:=if n=0 then q else (q.1,q.2.1+n,none)
def kZ(n g o:Nat):fV n (g,o,none)=(g,o+n,none):=by
 unfold fV;split;·rename_i h;subst h;rfl
 ·rfl
def JZ(n:Nat)(q:Ad):(⟨(fV n q).1,(fV n q).2.1,(fV n q).2.2⟩:Addr)=(⟨q.1,q.2.1,q.2.2⟩:Addr).add n:=by unfold fV Addr.add;split<;>rfl
inductive C where
 |dead (v:Value)
 |int (k:IntKind) (n:Int)
 |bool (b:Bool)
 |str (s:ByteArray)
 |row (m:Md) (sz:Nat) (A:Option Ad) (len cap:Nat) (e:Nat->Nat->C)
 |ptr (m:Md) (g o n:Nat) (c:Nat->C)
 |agg (n:Nat) (c:Nat->C)
 |aq (n:Nat) (c:Nat->C)
 |fn (f:FuncId) (n:Nat) (c:Nat->C)
 |ref (v:Value) (s:Nat) (p:Path)
 |av (v:Value) (s:Nat) (p:Path) (i c:Nat)
 |cut (v:Value) (s:Nat) (p:Path) (lo hi:Nat)
namespace C
def val:C->Value
 |.dead v=>v
 |.int k n=>.int k n
 |.bool b=>.bool b
 |.str s=>.string s
 |.row _ _ A len cap _=>.slice (A.map λq=>⟨q.1,q.2.1,q.2.2⟩) len cap
 |.ptr _ g o _ _=>.pointer (some ⟨g,o,none⟩)
 |.agg n c=>.agg ((List.range n).map λj=>(c j).val).toArray
 |.aq n c=>.tuple ((List.range n).map λj=>(c j).val).toArray
 |.fn f n c=>.func (.func f) #[] ((List.range n).map λj=>(c j).val).toArray
 |.ref v _ _=>v
 |.av v _ _ _ _=>v
 |.cut v _ _ _ _=>v
def er:C->X
 |.dead _=>.dead
 |.int k n=>.int k n
 |.bool b=>.bool b
 |.str s=>.str s
 |.row m sz _ len _ e=>.row m sz ((List.range len).map λi=>(List.range sz).map λj=>(e i j).er)
 |.ptr m _ _ n c=>.ptr m ((List.range n).map λj=>(c j).er)
 |.agg n c=>.agg ((List.range n).map λj=>(c j).er)
 |.aq n c=>.aq ((List.range n).map λj=>(c j).er)
 |.fn f n c=>.fn f ((List.range n).map λj=>(c j).er)
 |.ref _ s p=>.ref s p
 |.av _ s p i c=>.av s p i c
 |.cut _ s p lo hi=>.cut s p lo hi
def fp:C->Nat->Nat->Prop
 |.row m sz A len _ e=>λb k=>m=.own/\((∃o,A=some (b,o,none))\/∃i j,i<len/\j<sz/\(e i j).fp b k)
 |.ptr m g o n c=>λb k=>m=.own/\((b=g/\o<=k/\k<o+n)\/∃j,j<n/\(c j).fp b k)
 |.agg n c=>λb k=>∃j,j<n/\(c j).fp b k
 |.aq n c=>λb k=>∃j,j<n/\(c j).fp b k
 |_=>λ_ _=>False
def cell:C->Prop
 |.agg _ _=>False
 |.aq _ _=>False
 |.dead v=>v.oneCell'=true
 |.ref v _ _=>v.oneCell'=true
 |.av v _ _ _ _=>v.oneCell'=true
 |.cut v _ _ _ _=>v.oneCell'=true
 |_=>True
def dV:C->Prop
 |.aq _ _=>False
 |_=>True
def bX:C->Prop
 |.agg _ _=>False
 |.aq _ _=>False
 |.ref _ _ _=>False
 |.av _ _ _ _ _=>False
 |.cut _ _ _ _ _=>False
 |.fn _ _ _=>False
 |.ptr _ _ _ _ _=>False
 |_=>True
def fits(m:Md):C->Prop
 |.row m' _ _ _ _ _=>m=.own\/m'=m\/(m=.ah/\m'=.sl)
 |.ptr m' _ _ _ _=>m=.own\/m'=m\/(m=.ah/\m'=.sl)
 |_=>True
end C
def Zf(zl zb:Nat->Nat->Prop):Md->Nat->Nat->Prop
 |.own=>λ_ _=>False
 |.sl=>zl
 |.ah=>λb k=>zl b k\/zb b k
namespace C
def ok(w:World)(Z:Md->Nat->Nat->Prop):C->Prop
 |.row m sz A len cap e=>
  len<=cap/\
  (∀i j,i<len->j<sz->∃g o,A=some (g,o,none)/\w.cell? ⟨g,o+i*sz+j,none⟩=some (e i j).val/\(m≠.own->Z m g (o+i*sz+j)))/\
  (∀i j,i<len->j<sz->(e i j).cell/\(e i j).bX/\(e i j).fits m/\(e i j).ok w Z)/\
  (m=.own->(A=none/\cap=0)\/∃g o arr t fz,A=some (g,o,none)/\w.heap[g]?=some (.cells arr t fz)/\o+cap*sz<=arr.size/\∀k,o<=k->k<o+cap*sz->w.frozen? ⟨g,k,none⟩=false)/\
  (∀i j,i<len->j<sz->∀b k,(e i j).fp b k->(m=.own->∀o,A≠some (b,o,none))/\∀i' j',i'<len->j'<sz->(i,j)≠(i',j')->¬(e i' j').fp b k)
 |.ptr m g o n c=>
  (∀j,j<n->w.cell? ⟨g,o+j,none⟩=some (c j).val/\(m≠.own->Z m g (o+j))/\(m=.own->w.frozen? ⟨g,o+j,none⟩=false))/\
  g<w.heap.size/\
  (∀j,j<n->(c j).cell/\(c j).fits m/\(c j).ok w Z)/\
  (∀j,j<n->∀b k,(c j).fp b k->(m=.own->¬(b=g/\o<=k/\k<o+n))/\∀j',j'<n->j≠j'->¬(c j').fp b k)
 |.agg n c=>(∀j,j<n->(c j).cell/\(c j).ok w Z)/\(∀j,j<n->∀b k,(c j).fp b k->∀j',j'<n->j≠j'->¬(c j').fp b k)
 |.aq n c=>(∀j,j<n->(c j).dV/\(c j).ok w Z)/\(∀j,j<n->∀b k,(c j).fp b k->∀j',j'<n->j≠j'->¬(c j').fp b k)
 |.fn _ n c=>∀j,j<n->(c j).ok w Z/\∀b k,¬(c j).fp b k
 |.str s=>s.size<=9223372036854775807
 |_=>True
end C
class Bs where
 W0:World
def vS[B:Bs](w:World)(zl zb:Nat->Nat->Prop):Prop:=∀b,b<B.W0.heap.size->w.heap[b]?=B.W0.heap[b]?/\∀k,zl b k\/zb b k
structure Ext (S:Nat->Nat->Prop) (w w':World):Prop where
 os:w'.os=w.os
 tape:w'.tape=w.tape
 output:w'.output=w.output
 size:w.heap.size<=w'.heap.size
 block:∀b,b<w.heap.size->w'.heap[b]?=w.heap[b]?\/∃arr dP t fz,w.heap[b]?=some (.cells arr t fz)/\w'.heap[b]?=some (.cells dP t fz)/\dP.size=arr.size/\∀k,¬S b k->dP[k]?=arr[k]?
namespace Ext
variable {S S':Nat->Nat->Prop}{w w1 w2:World}
def refl(S:Nat->Nat->Prop)(w:World):Ext S w w:=⟨rfl,rfl,rfl,ez _,λ_ _=>.inl rfl⟩
def trans(h:Ext S w w1)(h':Ext S' w1 w2)(hs:∀b k,S' b k->b<w.heap.size->S b k):Ext S w w2:=by
 refine⟨h'.os.trans h.os,h'.tape.trans h.tape,h'.output.trans h.output,gv h.size h'.size,λb hb=>?_⟩;rcases h.block b hb with e|⟨arr,dP,t,fz,e1,e2,e3,e4⟩
 ·rcases h'.block b (iy hb h.size) with e'|⟨a1,a2,t',ji,f1,f2,f3,f4⟩;·exact .inl (e'.trans e)
  ·exact .inr ⟨a1,a2,t',ji,e▸f1,f2,f3,λk hk=>f4 k λhS=>hk (hs b k hS hb)⟩
 ·rcases h'.block b (iy hb h.size) with e'|⟨a1,a2,t',ji,f1,f2,f3,f4⟩;·exact .inr ⟨arr,dP,t,fz,e1,e'.trans e2,e3,e4⟩
  ·rw[e2] at f1;injection f1 with f1
   injection f1 with g1 g2 g3
   subst g1;subst g2;subst g3;exact .inr ⟨arr,a2,t,fz,e1,f2,f3.trans e3,λk hk=>(f4 k λhS=>hk (hs b k hS hb)).trans (e4 k hk)⟩
def mono(h:Ext S w w1)(hs:∀b k,S b k->b<w.heap.size->S' b k):Ext S' w w1:=by
 refine⟨h.os,h.tape,h.output,h.size,λb hb=>?_⟩;rcases h.block b hb with e|⟨arr,dP,t,fz,e1,e2,e3,e4⟩;·exact .inl e
 ·exact .inr ⟨arr,dP,t,fz,e1,e2,e3,λk hk=>e4 k λhS=>hk (hs b k hS hb)⟩
def cell(h:Ext S w w1){b k:Nat}(hS:¬S b k){v:Value}(hc:w.cell? ⟨b,k,none⟩=some v):w1.cell? ⟨b,k,none⟩=some v:=by
 have hb:b<w.heap.size:=by
  rcases fA b w.heap.size with h|h;·exact h
  ·simp[World.cell?,ja h] at hc
 rcases h.block b hb with e|⟨arr,dP,t,fz,e1,e2,e3,e4⟩;·simpa [World.cell?,e] using hc
 ·simp only[World.cell?,e1,e2] at hc⊢;simpa [e4 k hS] using hc
def frozen(h:Ext S w w1){b k:Nat}(hb:b<w.heap.size):w1.frozen? ⟨b,k,none⟩=w.frozen? ⟨b,k,none⟩:=by
 rcases h.block b hb with e|⟨arr,dP,t,fz,e1,e2,e3,e4⟩;·simp[World.frozen?,e]
 ·simp[World.frozen?,e1,e2]
def below(h:Ext (λ_ _=>False) w w1):Below w.heap.size w w1:=by
 refine⟨h.os,h.tape,h.output,h.size,λb hb=>?_⟩;rcases h.block b hb with e|⟨arr,dP,t,fz,e1,e2,e3,e4⟩;·exact e
 ·have:dP=arr:=by apply zI;intro i;exact e4 i (by simp)
  rw[e1,e2,this]
def drew(w:World)(S:Nat->Nat->Prop):Ext S w w.drew:=⟨rfl,rfl,rfl,ez _,λ_ _=>.inl rfl⟩
def alloc(w:World)(S:Nat->Nat->Prop)(o:Obj):Ext S w (w.alloc o):=by exact⟨rfl,rfl,rfl,by show w.heap.size<=(w.heap.push o).size;simp,λb hb=>.inl (Below.heap_alloc w o b hb)⟩
end Ext
end M
namespace M
open Go
namespace C
def bare:C->Prop
 |.ref _ _ _=>False
 |.av _ _ _ _ _=>False
 |.cut _ _ _ _ _=>False
 |.ptr _ _ _ n c=>∀j,j<n->(c j).bare
 |.agg n c=>∀j,j<n->(c j).bare
 |.aq n c=>∀j,j<n->(c j).bare
 |.fn _ n c=>∀j,j<n->(c j).bare
 |_=>True
end C
structure mg (w:World) (zl zb:Nat->Nat->Prop) (cs:List C):Prop where
 ok:∀x∈cs,x.ok w (Zf zl zb)
 bare:∀x∈cs,x.bare
 fz:∀x∈cs,∀b k,x.fp b k->¬zl b k/\¬zb b k
 bF:∀b k,zl b k\/zb b k->b<w.heap.size
 apart:cs.Pairwise λa b=>∀x k,a.fp x k->¬b.fp x k
structure DU (w:World) (zl:Nat->Nat->Prop) (cs:List C) (e:Ending) (w':World) (r:C) (ps:List C) (ay:Nat->Nat->Prop):Prop where
 ends:e=.returned r.val
 vals:ps.map C.val=cs.map C.val
 ext:Ext (λb k=>∃x∈cs,x.fp b k) w w'
 all:mg w' ay (λ_ _=>False) (r::ps)
 dom:∀x∈r::ps,∀b k,x.fp b k->(∃y∈cs,y.fp b k)\/w.heap.size<=b
 nZ:∀b k,zl b k->ay b k
 n7:∀b k,ay b k->zl b k\/(∃y∈cs,y.fp b k)\/w.heap.size<=b
def AC[Bs](P:Program)(f:FuncId)(xs:List X)(Q:X->List X->Prop):Prop:=
 ∀w zl zb cs,cs.map C.er=xs->mg w zl zb cs->vS w zl zb->Calls P f (cs.map C.val).toArray w λe w'=>∃r ps ay,DU w zl cs e w' r ps ay/\Q r.er (ps.map C.er)
def gF:List Nat->List X->List X->Option Bool
 |[],[],[]=>some true
 |0::ks,.int k a::l,.int k' b::r=>if k=k' then (gF ks l r).map λt=>(a==b) && t else none
 |1::ks,.bool a::l,.bool b::r=>(gF ks l r).map λt=>(a==b) && t
 |2::ks,.str a::l,.str b::r=>(gF ks l r).map λt=>decide (a=b) && t
 |_,_,_=>none
def qa(op:BinOp):X->X->Prop
 |.int k a,.int k' b=>match op with
  |.shl=>0<=b
  |.shr=>0<=b
  |.quo=>k=k'/\b≠0
  |.rem=>k=k'/\b≠0
  |.andNot=>False
  |_=>k=k'
 |.str a,.str b=>match op with
  |.add=>a.size+b.size<=9223372036854775807
  |.eql=>True
  |.neq=>True
  |_=>False
 |_,_=>False
def Aj(op:BinOp):X->X->X
 |.int k a,.int _ b=>match op with
  |.add=>.int k (k.wrap (a+b))
  |.sub=>.int k (k.wrap (a - b))
  |.mul=>.int k (k.wrap (a*b))
  |.quo=>.int k (k.wrap (a.tdiv b))
  |.rem=>.int k (a.tmod b)
  |.shl=>.int k (k.wrap (a*2^(min b.toNat k.bits)))
  |.shr=>.int k (a.fdiv (2^(min b.toNat k.bits)))
  |.and=>.int k (k.wrap (BitVec.ofInt k.bits a &&& BitVec.ofInt k.bits b).toNat)
  |.or=>.int k (k.wrap (BitVec.ofInt k.bits a|||BitVec.ofInt k.bits b).toNat)
  |.xor=>.int k (k.wrap (BitVec.ofInt k.bits a^^^BitVec.ofInt k.bits b).toNat)
  |.eql=>.bool (decide (a=b))
  |.neq=>.bool (!decide (a=b))
  |.lss=>.bool (decide (a<b))
  |.leq=>.bool (decide (a<=b))
  |.gtr=>.bool (decide (b<a))
  |.geq=>.bool (decide (b<=a))
  |_=>.dead
 |.str a,.str b=>match op with
  |.add=>.str (a++b)
  |.eql=>.bool (decide (a=b))
  |.neq=>.bool (!decide (a=b))
  |_=>.dead
 |_,_=>.dead
def rZ(op:UnOp):X->Prop
 |.int _ _=>match op with
  |.neg=>True
  |_=>False
 |.bool _=>match op with
  |.not=>True
  |_=>False
 |_=>False
def C9(op:UnOp):X->X
 |.int k n=>.int k (k.wrap (0 - n))
 |.bool b=>.bool (!b)
 |_=>.dead
def uE(t:Bool):X->X->X
 |.bool a,.bool b=>.bool (bif t then a else b)
 |x,y=>bif t then x else y
def bX:X->Bool
 |.dead=>true
 |.int _ _=>true
 |.bool _=>true
 |.str _=>true
 |.row _ _ _=>true
 |_=>false
def eN:List X->Bool
 |[]=>true
 |x::l=>bX x && eN l
def takes(h:Tk):List AV->af->List X×af
 |[],s=>([],s)
 |a::l,s=>((take h (aj s a) s).1::(takes h l (take h (aj s a) s).2).1,(takes h l (take h (aj s a) s).2).2)
def gU{α:Type}:List α->Nat->List α->List α
 |cs,_,[]=>cs
 |cs,o,y::l=>gU (cs.set o y) (o+1) l
def qv:List X->List Nat->List X->List X
 |cs,o::os,y::ys=>qv (gU cs o (cellsOf y)) os ys
 |cs,_,_=>cs
def rS:List Nat->List X->Prop
 |[],[]=>True
 |n::ns,y::ys=>(cellsOf y).length=n/\rS ns ys
 |_,_=>False
def storable(s:af)(r:Nat)(p:Path)(i c:Nat)(l:List X):Prop:=match look s r p with
 |some (.row .own _ xs)=>(match xs[i]? with
  |some e=>c+l.length<=e.length/\eN l=true
  |none=>False)
 |some (.ptr .own cs)=>c+l.length<=cs.length
 |_=>False
def y8:Tk->List X->Prop
 |.al,_=>True
 |_,l=>∀x∈l,eN (cellsOf x)=true
def asNat(s:af):Option AV->Nat->Int
 |none,n=>n
 |some a,_=>match aj s a with
  |.int _ i=>i
  |_=>-1
def scalars:List (List X)->Prop:=λxs=>∀e∈xs,∀c∈e,scalar c=true
def aX:List (AV×PM)->af->List X×af
 |[],s=>([],s)
 |(x,.mv)::l,s=>((take .mv (aj s x) s).1::(aX l (take .mv (aj s x) s).2).1,(aX l (take .mv (aj s x) s).2).2)
 |(_,.ah)::l,s=>(.dead::(aX l s).1,(aX l s).2)
 |(_,.iE _)::l,s=>(.dead::(aX l s).1,(aX l s).2)
 |(_,.mut _)::l,s=>(.dead::(aX l s).1,(aX l s).2)
def dY(s1:af)(y:X):List (AV×PM)->List X->List X
 |(x,.ah)::l,_::ms=>res s1 (aj s1 x)::dY s1 y l ms
 |(x,.iE n)::l,_::ms=>rq n s1 (aj s1 x)::dY s1 y l ms
 |(_,.mv)::l,m::ms=>m::dY s1 y l ms
 |(_,.mut _)::l,_::ms=>y::dY s1 y l ms
 |_,_=>[]
def cH:List (AV×PM)->Option (AV×Nat)
 |[]=>none
 |(x,.mut n)::_=>some (x,n)
 |(_,.mv)::l=>cH l
 |(_,.ah)::l=>cH l
 |(_,.iE _)::l=>cH l
def ig:List (AV×PM)->List X->X
 |(_,.mut _)::_,y::_=>y
 |(_,.mv)::l,_::r=>ig l r
 |(_,.ah)::l,_::r=>ig l r
 |(_,.iE _)::l,_::r=>ig l r
 |_,_=>.dead
def k9(p q:Path):Bool:=X.pfx p q && decide (p.length<q.length)
mutual
def X.de(r:Nat)(p:Path):X->X
 |.ref s q=>bif s==r && k9 p q then .dead else .ref s q
 |.av s q i c=>bif s==r && k9 p q then .dead else .av s q i c
 |.cut s q i c=>bif s==r && k9 p q then .dead else .cut s q i c
 |.ptr m cs=>.ptr m (X.lM r p cs)
 |.agg cs=>.agg (X.lM r p cs)
 |.aq cs=>.aq (X.lM r p cs)
 |.fn f cs=>.fn f (X.lM r p cs)
 |.dead=>.dead
 |.int k n=>.int k n
 |.bool b=>.bool b
 |.str s=>.str s
 |.row m sz xs=>.row m sz xs
def X.lM(r:Nat)(p:Path):List X->List X
 |[]=>[]
 |x::l=>x.de r p::X.lM r p l
end
def nq(r:Nat)(p:Path):af->af
 |[]=>[]
 |(k,v)::s=>(k,v.de r p)::nq r p s
def eX(r:Nat)(p:Path)(y:X)(s:af):af:=(r,X.putAt p (get (nq r p s) r) (y.de r p))::nq r p s
def qX(r:Nat)(p:Path)(s:af)(n:Nat)(x:X)(go:X->(X->(af->Prop)->Prop)->Prop):Prop:=
 match x with
 |.ref _ _=>(match look s r p with
  |some (.row .own z xs)=>go (.row .own z xs) λy K=>match y with
   |.row .own z' ys=>z'=z/\K (eX r p (.row .own z ys) s)
   |_=>False
  |_=>False)
 |.av _ _ i c=>(match look s r p with
  |some (.ptr .own cs)=>c+n<=cs.length/\go (.ptr .own ((cs.drop c).take n)) λy K=>match y with
   |.ptr .own ys=>ys.length=n/\K (eX r p (.ptr .own (cs.take c++ys++cs.drop (c+n))) s)
   |_=>False
  |some (.row .own z xs)=>(match xs[i]? with
   |some e=>c+n<=e.length/\go (.ptr .own ((e.drop c).take n)) λy K=>match y with
    |.ptr .own ys=>ys.length=n/\eN ys=true/\K (eX r p (.row .own z (xs.set i (e.take c++ys++e.drop (c+n)))) s)
    |_=>False
   |none=>False)
  |_=>False)
 |_=>False
def placeOf:X->Nat×Path
 |.ref r p=>(r,p)
 |.av r p _ _=>(r,p)
 |_=>(0,[])
def X.bare:X->Bool
 |.ref _ _=>false
 |.av _ _ _ _=>false
 |.cut _ _ _ _=>false
 |.ptr _ cs=>fD cs
 |.agg cs=>fD cs
 |.aq cs=>fD cs
 |.fn _ cs=>fD cs
 |_=>true
where
 fD:List X->Bool
 |[]=>true
 |x::l=>X.bare x && fD l
def kf(s1:af):Option AV->List X
 |none=>[]
 |some x=>match aj s1 x with
  |.fn _ cs=>iq s1 cs
  |_=>[]
def mH(s1:af)(fv:Option AV)(f:FuncId):Prop:=match fv with
 |none=>True
 |some x=>match aj s1 x with
  |.fn g _=>g=f
  |_=>False
def oh[Bs](P:Program)(f:FuncId)(d:Option Nat)(as:List (AV×PM))(fv:Option AV)(s:af)(K:af->Prop):Prop:=
 X.bare.fD (aX as s).1=true/\
 match cH as with
 |none=>mH (aX as s).2 fv f/\AC P f (dY (aX as s).2 .dead as (aX as s).1++kf (aX as s).2 fv) λr _=>K (dN d r (aX as s).2)
 |some (x,n)=>qX (placeOf (aj (aX as s).2 x)).1 (placeOf (aj (aX as s).2 x)).2 (aX as s).2 n (aj (aX as s).2 x) λy back=>X.bare y=true/\mH (fu (placeOf (aj (aX as s).2 x)).1 (placeOf (aj (aX as s).2 x)).2 .dead (aX as s).2) fv f/\
   AC P f (dY (fu (placeOf (aj (aX as s).2 x)).1 (placeOf (aj (aX as s).2 x)).2 .dead (aX as s).2) y as (aX as s).1++kf (fu (placeOf (aj (aX as s).2 x)).1 (placeOf (aj (aX as s).2 x)).2 .dead (aX as s).2) fv)
    λq ps=>back (ig as ps) λs'=>K (dN d q s')
def wB(lo hi:Nat)(xs:List (List X)):List (List X):=xs.mapIdx λi e=>if lo<=i/\i<hi then e.map (λ_=>.dead) else e
def wN(lo hi:Nat)(z:List X)(xs:List (List X)):List (List X):=xs.mapIdx λi e=>if lo<=i/\i<hi then z else e
def cl(x:X)(s:af):X×af:=match x with
 |.cut r p lo hi=>(match look s r p with
  |some (.row .own z xs)=>(.row .own z ((xs.take hi).drop lo),eX r p (.row .own z (wB lo hi xs)) s)
  |_=>(.dead,s))
 |x=>take .mv x s
def aF(P:Program)(f:FuncId):Bool:=match P.funcs[f]? with
 |some fn=> !(fn.name== "runtime.NumGoroutine") && !fn.body.isNone
 |none=>false
def lT:List (List X)->Bool
 |(_::_)::_=>true
 |_=>false
def aI[Bs](P:Program)(o:bt)(s:af)(K:af->Prop):Prop:=
 match o with
 |.mv d x=>K (put d (aj s x) s)
 |.bk d h x=>K (put d (take h (aj s x) s).1 (take h (aj s x) s).2)
 |.pick d c a b=>match aj s c with
  |.bool t=>K (put d (uE t (aj s a) (aj s b)) s)
  |_=>False
 |.un d op x=>rZ op (aj s x)/\K (put d (C9 op (aj s x)) s)
 |.bin d op x y=>qa op (aj s x) (aj s y)/\K (put d (Aj op (aj s x) (aj s y)) s)
 |.beq d neg x y=>match aj s x,aj s y with
  |.bool p,.bool q=>K (put d (.bool (xor neg (p==q))) s)
  |_,_=>False
 |.nx d neg x=>match aj s x with
  |.row _ _ xs=>∀b:Bool,(lT xs=true->b=false)->K (put d (.bool (xor neg b)) s)
  |_=>False
 |.k6 d neg ks x y=>match aj s x,aj s y with
  |.agg p,.agg q=>∃t,gF ks p q=some t/\K (put d (.bool (xor neg t)) s)
  |_,_=>False
 |.conv d k x=>match aj s x with
  |.int _ n=>K (put d (.int k (k.wrap n)) s)
  |_=>False
 |.bytes d x=>match aj s x with
  |.str t=>K (put d (.row .own 1 (t.data.toList.map λb=>[.int .u8 b.toNat])) s)
  |_=>False
 |.text d x=>∃xs,rowAt s (aj s x)=some (1,xs)/\xs.length<=9223372036854775807/\∃l:List UInt8,xs=l.map (λb=>[.int .u8 b.toNat])/\K (put d (.str ⟨l.toArray⟩) s)
 |.box d h x=>0<(cellsOf (take h (aj s x) s).1).length/\K (put d (.ptr .own (cellsOf (take h (aj s x) s).1)) (take h (aj s x) s).2)
 |.new d z=>K (put d (.ptr .own z) s)
 |.build d h z ps=>y8 h (takes h (ps.map (·.2)) s).1/\rS (ps.map (·.1.2)) (takes h (ps.map (·.2)) s).1/\K (put d (.agg (qv z (ps.map (·.1.1)) (takes h (ps.map (·.2)) s).1)) (takes h (ps.map (·.2)) s).2)
 |.lit d h sz ps=>(∀x∈(takes h ps s).1,(cellsOf x).length=sz/\eN (cellsOf x)=true)/\K (put d (.row .own sz ((takes h ps s).1.map cellsOf)) (takes h ps s).2)
 |.make d sz bytes z n=>match aj s n with
  |.int _ i=>0<=i/\i*bytes<=140737488355328/\K (put d (.row .own sz (List.replicate i.toNat z)) s)
  |_=>False
 |.load d sz agg a=>∃cs,dZ s (aj s a)=some cs/\sz<=cs.length/\K (put d (bif agg then .agg (cs.take sz) else cs.headD .dead) s)
 |.store sz h a x=>(cellsOf (take h (aj s x) s).1).length=sz/\(match aj (take h (aj s x) s).2 a with
  |.av r p i c=>storable (take h (aj s x) s).2 r p i c (cellsOf (take h (aj s x) s).1)/\K (setCells r p i c (cellsOf (take h (aj s x) s).1) (take h (aj s x) s).2)
  |_=>False)
 |.dr d x=>match aj s x with
  |.av r p i c=>K (put d (.av r p i c) s)
  |.ptr m cs=>K (put d (.ptr m cs) s)
  |.fn f cs=>K (put d (.fn f cs) s)
  |_=>False
 |.lq d x off=>match aj s x with
  |.av r p i c=>K (put d (.av r p i (c+off)) s)
  |.ptr m cs=>K (put d (.ptr m (cs.drop off)) s)
  |_=>False
 |.lu d x off sz agg=>match aj s x with
  |.agg cs=>off+sz<=cs.length/\K (put d (bif agg then .agg ((cs.drop off).take sz) else (cs.drop off).headD .dead) s)
  |_=>False
 |.nj d sz x i=>match aj s i with
  |.int _ n=>0<=n/\(match aj s x with
   |.row m z xs=>z=sz/\∃e,xs[n.toNat]?=some e/\K (put d (.ptr m e) s)
   |.ref r p=>(match look s r p with
    |some (.row _ z xs)=>z=sz/\n.toNat<xs.length/\K (put d (.av r p n.toNat 0) s)
    |_=>False)
   |.cut r p lo hi=>(match look s r p with
    |some (.row _ z _)=>z=sz/\lo+n.toNat<hi/\K (put d (.av r p (lo+n.toNat) 0) s)
    |_=>False)
   |_=>False)
  |_=>False
 |.cR d x i=>match aj s x,aj s i with
  |.str t,.int _ n=>0<=n/\∃b,t.data[n.toNat]?=some b/\K (put d (.int .u8 b.toNat) s)
  |_,_=>False
 |.mB d n sz agg x i=>match aj s x,aj s i with
  |.agg cs,.int _ j=>0<=j/\j<n/\cs.length=n*sz/\K (put d (bif agg then .agg ((cs.drop (j.toNat*sz)).take sz) else (cs.drop (j.toNat*sz)).headD .dead) s)
  |_,_=>False
 |.ext d x i=>match aj s x with
  |.aq cs=>i<cs.length/\K (put d (cs.getD i .dead) s)
  |_=>False
 |.jw d x lo hi=>match aj s x with
  |.str t=>0<=asNat s lo 0/\asNat s lo 0<=asNat s hi t.size/\asNat s hi t.size<=t.size/\K (put d (.str (t.extract (asNat s lo 0).toNat (asNat s hi t.size).toNat)) s)
  |_=>False
 |.oX d sz x lo hi=>∃xs,rowAt s (aj s x)=some (sz,xs)/\0<=asNat s lo 0/\asNat s lo 0<=asNat s hi xs.length/\asNat s hi xs.length<=xs.length/\(match aj s x with
  |.row m z _=>K (put d (.row m z ((xs.take (asNat s hi xs.length).toNat).drop (asNat s lo 0).toNat)) s)
  |.ref r p=>K (put d (.cut r p (asNat s lo 0).toNat (asNat s hi xs.length).toNat) s)
  |_=>False)
 |.oP d fz sz agg a=>∃cs,dZ s (aj s a)=some cs/\sz<=cs.length/\∃s',ghost fz d (put d (bif agg then .agg (cs.take sz) else cs.headD .dead) s)=some s'/\K s'
 |.qk sz z x=>match aj s x with
  |.cut r p lo hi=>(match look s r p with
   |some (.row .own z' xs)=>z'=sz/\K (eX r p (.row .own z' (wN lo hi z xs)) s)
   |_=>False)
  |_=>False
 |.mF d f x as=>match aj s x with
  |.agg cs=>X.bare.fD (aY cs s).1=true/\AC P f (.agg (aY cs s).1::dY (aY cs s).2 .dead as (as.map λ_=>.dead)) λr ps=>match ps with
   |.agg ys::_=>eN ys=true/\∃s',jD cs ys (aY cs s).2=some s'/\K (dN d r s')
   |_=>False
  |_=>False
 |.nw d f cs=>K (put d (.fn f (cs.map (aj s))) s)
 |.len d x=>∃z xs,rowAt s (aj s x)=some (z,xs)/\K (put d (.int .i64 xs.length) s)
 |.nP d x=>match aj s x with
  |.str t=>K (put d (.int .i64 t.size) s)
  |_=>False
 |.app d h sz bytes x y=>match (take .mv (aj s x) s).1 with
  |.row .own z xs=>z=sz/\(match h with
   |.mv=>(match (cl (aj (take .mv (aj s x) s).2 y) (take .mv (aj s x) s).2).1 with
    |.row .own z' ys=>z'=sz/\(xs.length+ys.length)*bytes<=140737488355328/\K (put d (.row .own z (xs++ys)) (cl (aj (take .mv (aj s x) s).2 y) (take .mv (aj s x) s).2).2)
    |_=>False)
   |_=>∃ys,rowAt (take .mv (aj s x) s).2 (aj (take .mv (aj s x) s).2 y)=some (sz,ys)/\(xs.length+ys.length)*bytes<=140737488355328/\scalars ys/\K (put d (.row .own z (xs++ys)) (take .mv (aj s x) s).2))
  |_=>False
 |.mn d xs=>match xs.map (aj s) with
  |[.int k a,.int k' b]=>k=k'/\K (put d (.int k (if b<a then b else a)) s)
  |_=>False
 |.mx d xs=>match xs.map (aj s) with
  |[.int k a,.int k' b]=>k=k'/\K (put d (.int k (if b>a then b else a)) s)
  |_=>False
 |.call d f as=>oh P f d as none s K
 |.lf d x as=>match aj s x with
  |.fn f _=>aF P f=true/\oh P f d as (some x) s K
  |_=>False
def bt.dst:bt->Option Nat
 |.mv d _|.bk d _ _|.pick d _ _ _|.un d _ _|.bin d _ _ _|.beq d _ _ _|.k6 d _ _ _ _|.nx d _ _|.conv d _ _|.bytes d _|.text d _|.box d _ _|.new d _|.build d _ _ _|.lit d _ _ _
 |.make d _ _ _ _|.load d _ _ _|.dr d _|.lq d _ _|.lu d _ _ _ _|.nj d _ _ _|.cR d _ _|.mB d _ _ _ _ _|.ext d _ _|.jw d _ _ _
 |.oX d _ _ _ _|.nw d _ _|.len d _|.nP d _|.app d _ _ _ _ _|.mn d _|.mx d _|.oP d _ _ _ _=>some d
 |.call d _ _=>d
 |.lf d _ _=>d
 |.mF d _ _ _=>d
 |.store _ _ _ _=>none
 |.qk _ _ _=>none
def k8[Bs](P:Program)(g:G)(s:af)(K:af->Prop):Prop:=match g with
 |⟨none,o⟩=>aI P o s K
 |⟨some (t,b),o⟩=>match get s t with
  |.bool v=>(v=b->aI P o ((t,.bool b)::s) K)/\(v= !b->K (dN o.dst (.aq []) ((t,.bool (!b))::s)))
  |.aq []=>K (dN o.dst (.aq []) s)
  |_=>False
def gS[Bs](P:Program):List G->af->(Ex->af->Prop)->Prop
 |[],s,Q=>Q .normal s
 |g::l,s,Q=>k8 P g s λs'=>gS P l s' Q
def keep(ks:List Nat)(s:af):af:=ks.map λk=>(k,(get s k).only ks)
def eR[Bs](P:Program):DT->af->(Ex->af->Prop)->Prop
 |.nil ks,s,Q=>Q .normal (keep ks s)
 |.step _ g t,s,Q=>k8 P g s λs'=>eR P t s' Q
 |.alt a b,s,Q=>eR P a s Q/\eR P b s Q
 |.kp ks t,s,Q=>eR P t (keep ks s) Q
def cX[Bs](P:Program):A->af->(Ex->af->Prop)->Prop
 |.skip,s,Q=>Q .normal s
 |.ret,s,Q=>Q .ret s
 |.exit id,s,Q=>Q (.exit id) s
 |.ops l,s,Q=>gS P l s Q
 |.draw t,s,Q=>eR P t s Q
 |.seq a b,s,Q=>cX P a s λe s'=>match e with
  |.normal=>cX P b s' Q
  |e=>Q e s'
 |.cond c a b,s,Q=>match aj s c with
  |.bool t=>(t=true->cX P a s Q)/\(t=false->cX P b s Q)
  |_=>False
 |.block id b,s,Q=>cX P b s λe s'=>match e with
  |.exit i=>bif i==id then Q .normal s' else Q (.exit i) s'
  |e=>Q e s'
 |.loop b,s,Q=>∃I:Nat->af->Prop,(∃n,I n s)/\∀n s',I n s'->cX P b s' λe s''=>match e with
  |.normal=>∃m,m<n/\I m s''
  |e=>Q e s''
 |.pk ks b,s,Q=>cX P b s λe s'=>match e with
  |.normal=>Q .normal (keep ks s')
  |e=>Q e s'
def sD[Bs](P:Program)(t:DT)(Q:Ex->af->Prop):af->Prop:=λs=>eR P t s Q
def zX[Bs](P:Program)(l:List G)(Q:Ex->af->Prop):af->Prop:=λs=>gS P l s Q
def vU[Bs](P:Program)(b:A)(Q:Ex->af->Prop):Ex->af->Prop:=λe s'=>match e with
  |.normal=>cX P b s' Q
  |e=>Q e s'
def vQ(id:Nat)(Q:Ex->af->Prop):Ex->af->Prop:=λe s'=>match e with
  |.exit i=>bif i==id then Q .normal s' else Q (.exit i) s'
  |e=>Q e s'
end M
namespace M
open Go
variable [Bs]{P:Program}
@[simp] def Ur(s:af)(Q:Ex->af->Prop):cX P .skip s Q=Q .normal s:=rfl
@[simp] def Up(s:af)(Q:Ex->af->Prop):cX P .ret s Q=Q .ret s:=rfl
@[simp] def Un(i:Nat)(s:af)(Q:Ex->af->Prop):cX P (.exit i) s Q=Q (.exit i) s:=rfl
@[simp] def Uo(l:List G)(s:af)(Q:Ex->af->Prop):cX P (.ops l) s Q=gS P l s Q:=rfl
@[simp] def Um(t:DT)(s:af)(Q:Ex->af->Prop):cX P (.draw t) s Q=eR P t s Q:=rfl
@[simp] def Vo(ks:List Nat)(s:af)(Q:Ex->af->Prop):eR P (.nil ks) s Q=Q .normal (keep ks s):=rfl
@[simp] def Vp(i:Nat)(o:bt)(t:DT)(s:af)(Q:Ex->af->Prop):eR P (.step i ⟨none,o⟩ t) s Q=aI P o s (sD P t Q):=rfl
@[simp] def Vm(i t:Nat)(b:Bool)(o:bt)(l:DT)(s:af)(Q:Ex->af->Prop):eR P (.step i ⟨some (t,b),o⟩ l) s Q=(match get s t with
  |.bool v=>(v=b->aI P o ((t,.bool b)::s) (sD P l Q))/\(v= !b->sD P l Q (dN o.dst (.aq []) ((t,.bool (!b))::s)))
  |.aq []=>sD P l Q (dN o.dst (.aq []) s)
  |_=>False):=rfl
@[simp] def Vl(a b:DT)(s:af)(Q:Ex->af->Prop):eR P (.alt a b) s Q=(eR P a s Q/\eR P b s Q):=rfl
@[simp] def Vn(ks:List Nat)(t:DT)(s:af)(Q:Ex->af->Prop):eR P (.kp ks t) s Q=eR P t (keep ks s) Q:=rfl
@[simp] def Vk(t:DT)(Q:Ex->af->Prop)(s:af):sD P t Q s=eR P t s Q:=rfl
@[simp] def Uq(a b:A)(s:af)(Q:Ex->af->Prop):cX P (.seq a b) s Q=cX P a s (vU P b Q):=rfl
@[simp] def Uk(i:Nat)(b:A)(s:af)(Q:Ex->af->Prop):cX P (.block i b) s Q=cX P b s (vQ i Q):=rfl
@[simp] def Ul(c:AV)(a b:A)(s:af)(Q:Ex->af->Prop):cX P (.cond c a b) s Q=(match aj s c with|.bool t=>(t=true->cX P a s Q)/\(t=false->cX P b s Q)|_=>False):=rfl
@[simp] def XB(b:A)(Q:Ex->af->Prop)(s:af):vU P b Q .normal s=cX P b s Q:=rfl
@[simp] def XA(b:A)(Q:Ex->af->Prop)(s:af)(i:Nat):vU P b Q (.exit i) s=Q (.exit i) s:=rfl
@[simp] def XC(b:A)(Q:Ex->af->Prop)(s:af):vU P b Q .ret s=Q .ret s:=rfl
@[simp] def UB(i:Nat)(Q:Ex->af->Prop)(s:af):vQ i Q .normal s=Q .normal s:=rfl
@[simp] def UC(i:Nat)(Q:Ex->af->Prop)(s:af):vQ i Q .ret s=Q .ret s:=rfl
@[simp] def UA(i j:Nat)(Q:Ex->af->Prop)(s:af):vQ i Q (.exit j) s=(bif j==i then Q .normal s else Q (.exit j) s):=rfl
@[simp] def Xj(s:af)(Q:Ex->af->Prop):gS P [] s Q=Q .normal s:=rfl
@[simp] def Xh(o:bt)(l:List G)(s:af)(Q:Ex->af->Prop):gS P (⟨none,o⟩::l) s Q=aI P o s (zX P l Q):=rfl
@[simp] def Xi(t:Nat)(b:Bool)(o:bt)(l:List G)(s:af)(Q:Ex->af->Prop):gS P (⟨some (t,b),o⟩::l) s Q=(match get s t with
  |.bool v=>(v=b->aI P o ((t,.bool b)::s) (zX P l Q))/\(v= !b->gS P l (dN o.dst (.aq []) ((t,.bool (!b))::s)) Q)
  |.aq []=>gS P l (dN o.dst (.aq []) s) Q
  |_=>False):=rfl
@[simp] def Xg(l:List G)(Q:Ex->af->Prop)(s:af):zX P l Q s=gS P l s Q:=rfl
attribute [simp] aI get put dN nr X.fo aj alias fC eE sL oa look X.sub X.step X.putAt X.aK fu HM move take H9 aY cellsOf dZ rowAt res iU kL rq iq kH setCell setCells
 gF qa Aj rZ C9 uE bX eN takes gU qv y8 rS storable asNat aX dY cH ig k9 X.de X.lM nq eX qX placeOf X.bare X.bare.fD kf mH oh X.md X.cN X.bq X.kill X.ek X.pfx bt.dst scalar X.only X.kI keep
end M
namespace M
open Go Go.RowKit
namespace C
variable {w w':World}{Z Z':Md->Nat->Nat->Prop}{S:Nat->Nat->Prop}
def dD:∀(c:C),c.ok w Z->∀b k,c.fp b k->b<w.heap.size
 |.row m sz A len cap e,h,b,k,hf=>by
  obtain⟨h1,h2,h3,h4,h5⟩:=h;rcases hf with ⟨hm,⟨o,hA⟩|⟨i,j,hi,hj,hf⟩⟩
  ·rcases h4 hm with ⟨hn,_⟩|⟨g,o',arr,t,fz,gV,hh,_⟩;·rw[hn] at hA;cases hA
   ·rw[gV] at hA;injection hA with hA
    injection hA with e1 e2
    subst e1;exact(gQ.1 hh).1
  ·exact dD (e i j) (h3 i j hi hj).2.2.2 b k hf
 |.ptr m g o n c,h,b,k,hf=>by
  obtain⟨h1,h2,h3,h4⟩:=h;rcases hf with ⟨_,⟨rfl,_⟩|⟨j,hj,hf⟩⟩;·exact h2
  ·exact dD (c j) (h3 j hj).2.2 b k hf
 |.agg n c,h,b,k,hf=>by obtain⟨j,hj,hf⟩:=hf;exact dD (c j) (h.1 j hj).2 b k hf
 |.aq n c,h,b,k,hf=>by obtain⟨j,hj,hf⟩:=hf;exact dD (c j) (h.1 j hj).2 b k hf
 |.fn _ _ _,_,_,_,hf=>hf.elim
 |.dead _,_,_,_,hf=>hf.elim
 |.int _ _,_,_,_,hf=>hf.elim
 |.bool _,_,_,_,hf=>hf.elim
 |.str _,_,_,_,hf=>hf.elim
 |.ref _ _ _,_,_,_,hf=>hf.elim
 |.av _ _ _ _ _,_,_,_,hf=>hf.elim
 |.cut _ _ _ _ _,_,_,_,hf=>hf.elim
def Fz{c:C}{m:Md}(hc:c.cell)(hf:c.fits m){b k:Nat}(h:c.fp b k):m=.own:=by
 cases c with
 |row m' sz A len cap e=>
  obtain⟨hm,_⟩:=h;subst hm;rcases hf with h|h|⟨_,h⟩;·exact h
  ·exact h.symm
  ·cases h
 |ptr m' g o n c=>
  obtain⟨hm,_⟩:=h;subst hm;rcases hf with h|h|⟨_,h⟩;·exact h
  ·exact h.symm
  ·cases h
 |agg n c=>exact hc.elim
 |aq n c=>exact hc.elim
 |_=>exact h.elim
def gJ{m:Md}{sz:Nat}{A:Option Ad}{len cap:Nat}{e:Nat->Nat->C}{i j:Nat}(h0:(e i j).cell)(h1:(e i j).fits m)(hi:i<len)(hj:j<sz){b k:Nat}(hf:(e i j).fp b k):(C.row m sz A len cap e).fp b k:=
 ⟨Fz h0 h1 hf,.inr ⟨i,j,hi,hj,hf⟩⟩
def ia{m:Md}{g o n:Nat}{c:Nat->C}{j:Nat}(h0:(c j).cell)(h1:(c j).fits m)(hj:j<n){b k:Nat}(hf:(c j).fp b k):(C.ptr m g o n c).fp b k:=
 ⟨Fz h0 h1 hf,.inr ⟨j,hj,hf⟩⟩
def dF(hE:Ext S w w')(hZ:∀m b k,Z m b k->¬S b k):∀(c:C),(∀b k,c.fp b k->¬S b k)->c.ok w Z->c.ok w' Z
 |.row m sz A len cap e,hS,h=>by
  obtain⟨h1,h2,h3,h4,h5⟩:=h;refine⟨h1,λi j hi hj=>?_,λi j hi hj=>?_,λhm=>?_,h5⟩
  ·obtain⟨g,o,hA,hc,hz⟩:=h2 i j hi hj;refine⟨g,o,hA,hE.cell ?_ hc,hz⟩;by_cases hm:m=.own;·exact hS _ _ ⟨hm,.inl ⟨o,hA⟩⟩
   ·exact hZ _ _ _ (hz hm)
  ·obtain⟨a1,a2,a3,a4⟩:=h3 i j hi hj;exact⟨a1,a2,a3,dF hE hZ (e i j) (λb k hf=>hS b k (gJ a1 a3 hi hj hf)) a4⟩
  ·rcases h4 hm with h|⟨g,o,arr,t,fz,hA,hh,hsz,hfr⟩;·exact .inl h
   ·have hg:g<w.heap.size:=(gQ.1 hh).1;rcases hE.block g hg with e'|⟨a1,a2,t',ji,e1,e2,e3,e4⟩;·exact .inr ⟨g,o,arr,t,fz,hA,e'.trans hh,hsz,λk hk hk'=>(hE.frozen hg).trans (hfr k hk hk')⟩
    ·rw[hh] at e1;injection e1 with e1
     injection e1 with q1 q2 q3
     subst q1;exact .inr ⟨g,o,a2,t',ji,hA,e2,by omega,λk hk hk'=>(hE.frozen hg).trans (hfr k hk hk')⟩
 |.ptr m g o n c,hS,h=>by
  obtain⟨h1,h2,h3,h4⟩:=h;refine⟨λj hj=>?_,iy h2 hE.size,λj hj=>?_,h4⟩
  ·obtain⟨a1,a2,a3⟩:=h1 j hj;refine⟨hE.cell ?_ a1,a2,λhm=>(hE.frozen h2).trans (a3 hm)⟩;by_cases hm:m=.own;·exact hS _ _ ⟨hm,.inl ⟨rfl,by omega,by omega⟩⟩
   ·exact hZ _ _ _ (a2 hm)
  ·obtain⟨a1,a3,a4⟩:=h3 j hj;exact⟨a1,a3,dF hE hZ (c j) (λb k hf=>hS b k (ia a1 a3 hj hf)) a4⟩
 |.agg n c,hS,h=>⟨λj hj=>⟨(h.1 j hj).1,dF hE hZ (c j) (λb k hf=>hS b k ⟨j,hj,hf⟩) (h.1 j hj).2⟩,h.2⟩
 |.aq n c,hS,h=>⟨λj hj=>⟨(h.1 j hj).1,dF hE hZ (c j) (λb k hf=>hS b k ⟨j,hj,hf⟩) (h.1 j hj).2⟩,h.2⟩
 |.fn f n c,hS,h=>λj hj=>⟨dF hE hZ (c j) (λb k hf=>((h j hj).2 b k hf).elim) (h j hj).1,(h j hj).2⟩
 |.dead _,_,h=>h
 |.int _ _,_,h=>h
 |.bool _,_,h=>h
 |.str _,_,h=>h
 |.ref _ _ _,_,h=>h
 |.av _ _ _ _ _,_,h=>h
 |.cut _ _ _ _ _,_,h=>h
def eo(hZ:∀m b k,Z m b k->Z' m b k):∀(c:C),c.ok w Z->c.ok w Z'
 |.row m sz A len cap e,h=>by
  obtain⟨h1,h2,h3,h4,h5⟩:=h;refine⟨h1,λi j hi hj=>?_,λi j hi hj=>?_,h4,h5⟩;·obtain⟨g,o,hA,hc,hz⟩:=h2 i j hi hj;exact⟨g,o,hA,hc,λhm=>hZ _ _ _ (hz hm)⟩
  ·obtain⟨a1,a2,a3,a4⟩:=h3 i j hi hj;exact⟨a1,a2,a3,eo hZ (e i j) a4⟩
 |.ptr m g o n c,h=>by
  obtain⟨h1,h2,h3,h4⟩:=h;refine⟨λj hj=>?_,h2,λj hj=>?_,h4⟩;·obtain⟨a1,a2,a3⟩:=h1 j hj;exact⟨a1,λhm=>hZ _ _ _ (a2 hm),a3⟩
  ·obtain⟨a1,a3,a4⟩:=h3 j hj;exact⟨a1,a3,eo hZ (c j) a4⟩
 |.agg n c,h=>⟨λj hj=>⟨(h.1 j hj).1,eo hZ (c j) (h.1 j hj).2⟩,h.2⟩
 |.aq n c,h=>⟨λj hj=>⟨(h.1 j hj).1,eo hZ (c j) (h.1 j hj).2⟩,h.2⟩
 |.fn f n c,h=>λj hj=>⟨eo hZ (c j) (h j hj).1,(h j hj).2⟩
 |.dead _,h=>h
 |.int _ _,h=>h
 |.bool _,h=>h
 |.str _,h=>h
 |.ref _ _ _,h=>h
 |.av _ _ _ _ _,h=>h
 |.cut _ _ _ _ _,h=>h
def step:C->Nat×Nat->Option C
 |.row _ sz _ len _ e,q=>if q.1<len/\q.2<sz then some (e q.1 q.2) else none
 |.ptr _ _ _ n c,q=>if q.1=0/\q.2<n then some (c q.2) else none
 |.agg n c,q=>if q.1=0/\q.2<n then some (c q.2) else none
 |.aq n c,q=>if q.1=0/\q.2<n then some (c q.2) else none
 |_,_=>none
def sub(c:C):Path->Option C
 |[]=>some c
 |q::p=>(c.step q).bind (·.sub p)
def bg(f:Nat->C)(j:Nat)(y:C):Nat->C:=λi=>if i=j then y else f i
def aK:C->Nat×Nat->C->C
 |.row m sz A len cap e,q,y=>.row m sz A len cap (λi j=>if i=q.1/\j=q.2 then y else e i j)
 |.ptr m g o n c,q,y=>.ptr m g o n (bg c q.2 y)
 |.agg n c,q,y=>.agg n (bg c q.2 y)
 |.aq n c,q,y=>.aq n (bg c q.2 y)
 |c,_,_=>c
def putAt:Path->C->C->C
 |[],_,y=>y
 |q::p,c,y=>match c.step q with
  |some z=>c.aK q (putAt p z y)
  |none=>c
def b8{α:Type}(f:Nat->α)(n i:Nat):((List.range n).map f)[i]?=if i<n then some (f i) else none:=by
 rw[cg];by_cases h:i<n;·rw[nX h,aA h];rfl
 ·rw[iz (by simpa using h),aC h];rfl
def HX(c:C)(q:Nat×Nat):c.er.step q=(c.step q).map er:=by
 cases c with
 |row m sz A len cap e=>
  simp only[er,X.step,step,b8];by_cases h1:q.1<len
  ·by_cases h2:q.2<sz;·simp[h1,h2,b8]
   ·simp[h1,h2,b8]
  ·simp[h1]
 |ptr m g o n c=>simp only[er,X.step,step,b8];cases h0:q.1==0<;>by_cases h1:q.2<n<;>simp_all
 |agg n c=>simp only[er,X.step,step,b8];cases h0:q.1==0<;>by_cases h1:q.2<n<;>simp_all
 |aq n c=>simp only[er,X.step,step,b8];cases h0:q.1==0<;>by_cases h1:q.2<n<;>simp_all
 |_=>rfl
def ep:∀(p:Path) (c:C),c.er.sub p=(c.sub p).map er
 |[],c=>rfl
 |q::p,c=>by
  simp only[X.sub,sub,HX];cases h:c.step q with
  |none=>rfl
  |some d=>simpa using ep p d
def uf{α:Type}(f g:Nat->α)(n j:Nat)(y:α)(h:∀i,i<n->g i=if i=j then y else f i):((List.range n).map f).set j y=(List.range n).map g:=by
 apply gy;intro i;rw[zP,b8,b8];simp only[cM,pX];by_cases hi:i<n
 ·by_cases hj:j=i;·subst hj;simp[hi,h j hi]
  ·have:i≠j:=λe=>hj e.symm;simp[hi,hj,h i hi,this]
 ·by_cases hj:j=i;·subst hj;simp[hi]
  ·simp[hi,hj]
def Q2(c:C)(q:Nat×Nat)(y:C):(c.aK q y).er=c.er.aK q y.er:=by
 cases c with
 |row m sz A len cap e=>
  simp only[aK,er,X.aK];congr 1;apply gy;intro i;rw[vN,b8,b8];by_cases hi:i<len
  ·rw[aA hi,aA hi];show some _=some _;congr 1;by_cases hq:q.1=i;·subst hq;simp only[cU];symm;apply uf;intro j hj;by_cases hj':j=q.2<;>simp[hj']
   ·have kz:i≠q.1:=λe=>hq e.symm;simp[hq,kz]
  ·simp[hi]
 |ptr m g o n c=>simp only[aK,er,X.aK];congr 1;symm;apply uf;intro i hi;unfold bg;split<;>rfl
 |agg n c=>simp only[aK,er,X.aK];congr 1;symm;apply uf;intro i hi;unfold bg;split<;>rfl
 |aq n c=>simp only[aK,er,X.aK];congr 1;symm;apply uf;intro i hi;unfold bg;split<;>rfl
 |_=>rfl
def Cn:∀(p:Path) (c y:C),(putAt p c y).er=X.putAt p c.er y.er
 |[],c,y=>rfl
 |q::p,c,y=>by
  simp only[putAt,X.putAt,HX];cases h:c.step q with
  |none=>rfl
  |some d=>simp only[bM,Q2,Cn p d y]
end C
end M
namespace M
open Go Go.RowKit
namespace C
variable {w w':World}{Z Z':Md->Nat->Nat->Prop}{S:Nat->Nat->Prop}
def CU{c z:C}{q:Nat×Nat}(h:c.step q=some z)(ho:c.ok w Z){b k:Nat}(hf:z.fp b k):c.fp b k:=by
 cases c with
 |row m sz A len cap e=>
  simp only[step] at h;split at h
  ·rename_i hq;injection h with h
   subst h;obtain⟨a1,a2,a3,a4⟩:=ho.2.2.1 _ _ hq.1 hq.2;exact gJ a1 a3 hq.1 hq.2 hf
  ·cases h
 |ptr m g o n c=>
  simp only[step] at h;split at h
  ·rename_i hq;injection h with h
   subst h;obtain⟨a1,a3,a4⟩:=ho.2.2.1 _ hq.2;exact ia a1 a3 hq.2 hf
  ·cases h
 |agg n c=>
  simp only[step] at h;split at h
  ·rename_i hq;injection h with h
   subst h;exact⟨q.2,hq.2,hf⟩
  ·cases h
 |aq n c=>
  simp only[step] at h;split at h
  ·rename_i hq;injection h with h
   subst h;exact⟨q.2,hq.2,hf⟩
  ·cases h
 |_=>simp[step] at h
def pK{c z:C}{q:Nat×Nat}(h:c.step q=some z)(ho:c.ok w Z):z.ok w Z:=by
 cases c with
 |row m sz A len cap e=>
  simp only[step] at h;split at h
  ·rename_i hq;injection h with h
   subst h;exact(ho.2.2.1 _ _ hq.1 hq.2).2.2.2
  ·cases h
 |ptr m g o n c=>
  simp only[step] at h;split at h
  ·rename_i hq;injection h with h
   subst h;exact(ho.2.2.1 _ hq.2).2.2
  ·cases h
 |agg n c=>
  simp only[step] at h;split at h
  ·rename_i hq;injection h with h
   subst h;exact(ho.1 _ hq.2).2
  ·cases h
 |aq n c=>
  simp only[step] at h;split at h
  ·rename_i hq;injection h with h
   subst h;exact(ho.1 _ hq.2).2
  ·cases h
 |_=>simp[step] at h
def eO:∀(p:Path) {c d:C},c.sub p=some d->c.ok w Z->d.ok w Z
 |[],c,d,h,ho=>by simp only[sub] at h;injection h with h;subst h;exact ho
 |q::p,c,d,h,ho=>by
  simp only[sub] at h;cases hs:c.step q with
  |none=>rw[hs] at h;cases h
  |some z=>rw[hs] at h;exact eO p h (pK hs ho)
def eu:∀(p:Path) {c d:C},c.sub p=some d->c.ok w Z->∀{b k:Nat},d.fp b k->c.fp b k
 |[],c,d,h,_,b,k,hf=>by simp only[sub] at h;injection h with h;subst h;exact hf
 |q::p,c,d,h,ho,b,k,hf=>by
  simp only[sub] at h;cases hs:c.step q with
  |none=>rw[hs] at h;cases h
  |some z=>rw[hs] at h;exact CU hs ho (eu p h (pK hs ho) hf)
structure eP (c c':C):Prop where
 val:c'.val=c.val
 cell:c.cell->c'.cell
 dV:c.dV->c'.dV
 bX:c.bX->c'.bX
 fits:∀m,c.fits m->c'.fits m
def eP.aK(c:C)(q:Nat×Nat)(z z':C)(hs:c.step q=some z)(hv:z'.val=z.val):eP c (c.aK q z'):=by
 have list:∀(n:Nat) (f:Nat->C),f q.2=z->((List.range n).map λj=>(bg f q.2 z' j).val)=((List.range n).map λj=>(f j).val):=by
  intro n f hf;apply bn;intro j _;unfold bg;split;·rename_i e;subst e;rw[hv,hf]
  ·rfl
 cases c with
 |row m sz A len cap e=>exact⟨rfl,λh=>h,λh=>h,λh=>h,λm h=>h⟩
 |ptr m g o n c=>exact⟨rfl,λh=>h,λh=>h,λh=>h,λm h=>h⟩
 |agg n c=>
  simp only[step] at hs;split at hs
  ·injection hs with hs
   exact⟨by simp only[C.aK,C.val];rw[list n c hs],λh=>h,λh=>h,λh=>h,λm h=>h⟩
  ·cases hs
 |aq n c=>
  simp only[step] at hs;split at hs
  ·injection hs with hs
   exact⟨by simp only[C.aK,C.val];rw[list n c hs],λh=>h,λh=>h,λh=>h,λm h=>h⟩
  ·cases hs
 |_=>simp[step] at hs
def uA(hM:∀m b k,Z m b k->Z' m b k)(hE:Ext S w w')(hZ:∀m b k,Z m b k->¬S b k):∀(p:Path) (c d d':C),c.ok w Z->c.sub p=some d->d'.ok w' Z'->eP d d'->
  (∀b k,S b k->d.fp b k\/¬c.fp b k)->(∀b k,d'.fp b k->d.fp b k\/¬c.fp b k)->
  (putAt p c d').ok w' Z'/\(∀b k,(putAt p c d').fp b k->d'.fp b k\/(c.fp b k/\¬d.fp b k))/\eP c (putAt p c d')
 |[],c,d,d',hc,hs,hd,hl,hS,hF=>by
  simp only[sub] at hs;injection hs with hs
  subst hs;exact⟨hd,λb k h=>.inl h,hl⟩
 |q::p,c,d,d',hc,hs,hd,hl,hS,hF=>by
  simp only[sub] at hs;cases hst:c.step q with
  |none=>rw[hst] at hs;cases hs
  |some z=>
   rw[hst] at hs;have hs':z.sub p=some d:=hs;obtain⟨i1,i2,i3⟩:=uA hM hE hZ p z d d' (pK hst hc) hs' hd hl (λb k h=>(hS b k h).imp id (λhn hz=>hn (CU hst hc hz))) (λb k h=>(hF b k h).imp id (λhn hz=>hn (CU hst hc hz)));simp only[putAt,hst];generalize dR:putAt p z d'=z' at i1 i2 i3;have mX:=eP.aK c q z z' hst i3.val;have iK:∀{b k},d.fp b k->z.fp b k:=λh=>eu p hs' (pK hst hc) h
   have w8:∀(y:C),(∀b k,y.fp b k->c.fp b k)->(∀b k,y.fp b k->¬z.fp b k)->∀b k,y.fp b k->¬S b k:=λy hy hyz b k Gv tf=>by
    rcases hS b k tf with h|h;·exact hyz b k Gv (iK h)
    ·exact h (hy b k Gv)
   cases c with
   |row m sz A len cap e=>
    simp only[step] at hst;split at hst
    ·rename_i hq;injection hst with hst
     obtain⟨h1,h2,h3,h4,h5⟩:=hc;have dL:∀b k,z.fp b k->(m=.own->∀o,A≠some (b,o,none))/\∀i' j',i'<len->j'<sz->(q.1,q.2)≠(i',j')->¬(e i' j').fp b k:=λb k h=>h5 q.1 q.2 hq.1 hq.2 b k (by rw[hst];exact h)
     have hval:∀i j,(if i=q.1/\j=q.2 then z' else e i j).val=(e i j).val:=by
      intro i j;split;·rename_i h;obtain⟨rfl,rfl⟩:=h;rw[hst];exact i3.val
      ·rfl
     have iP:∀b k,z'.fp b k->(m=.own->∀o,A≠some (b,o,none))/\∀i' j',i'<len->j'<sz->(q.1,q.2)≠(i',j')->¬(e i' j').fp b k:=by
      intro b k h;rcases i2 b k h with h|⟨h,_⟩
      ·rcases hF b k h with h|h;·exact dL b k (iK h)
       ·exact⟨λhm o hA=>h ⟨hm,.inl ⟨o,hA⟩⟩,λi' j' hi hj _ hf=>h (gJ (h3 i' j' hi hj).1 (h3 i' j' hi hj).2.2.1 hi hj hf)⟩
      ·exact dL b k h
     refine⟨⟨h1,λi j hi hj=>?_,λi j hi hj=>?_,λhm=>?_,λi j hi hj b k hf=>?_⟩,λb k hf=>?_,mX⟩
     ·obtain⟨g,o,hA,hcell,hz⟩:=h2 i j hi hj;refine⟨g,o,hA,?_,λhm=>hM _ _ _ (hz hm)⟩;rw[hval];refine hE.cell ?_ hcell;by_cases hm:m=.own
      ·intro tf;rcases hS _ _ tf with h|h;·exact(dL _ _ (iK h)).1 hm o hA
       ·exact h ⟨hm,.inl ⟨o,hA⟩⟩
      ·exact hZ _ _ _ (hz hm)
     ·obtain⟨a1,a2,a3,a4⟩:=h3 i j hi hj;by_cases hij:i=q.1/\j=q.2;·obtain⟨rfl,rfl⟩:=hij;simp only[and_self,cU];rw[hst] at a1 a2 a3;exact⟨i3.cell a1,i3.bX a2,i3.fits _ a3,i1⟩
      ·simp only[aC hij];refine⟨a1,a2,a3,eo hM _ (dF hE hZ _ (w8 _ (λb k hf=>gJ a1 a3 hi hj hf) λb k hf gb=>?_) a4)⟩;exact(dL b k gb).2 i j hi hj (λe=>hij (by simpa using (gw _ _ _ _▸e.symm:i=q.1/\j=q.2))) hf
     ·rcases h4 hm with h|⟨g,o,arr,t,fz,hA,hh,hsz,hfr⟩;·exact .inl h
      ·have hg:g<w.heap.size:=(gQ.1 hh).1;rcases hE.block g hg with e'|⟨a1,a2,t',ji,e1,e2,e3,e4⟩;·exact .inr ⟨g,o,arr,t,fz,hA,e'.trans hh,hsz,λk hk hk'=>(hE.frozen hg).trans (hfr k hk hk')⟩
       ·rw[hh] at e1;injection e1 with e1
        injection e1 with q1 q2 q3
        subst q1;exact .inr ⟨g,o,a2,t',ji,hA,e2,by omega,λk hk hk'=>(hE.frozen hg).trans (hfr k hk hk')⟩
     ·by_cases hij:i=q.1/\j=q.2;·obtain⟨rfl,rfl⟩:=hij;simp only[and_self,cU] at hf;refine⟨(iP b k hf).1,λi' j' hi' hj' hne=>?_⟩;show ¬(if i'=q.1/\j'=q.2 then z' else e i' j').fp b k;rw[aC (λh=>hne (by rw[h.1,h.2]))];exact(iP b k hf).2 i' j' hi' hj' hne
      ·simp only[aC hij] at hf;refine⟨(h5 i j hi hj b k hf).1,λi' j' hi' hj' hne=>?_⟩;show ¬(if i'=q.1/\j'=q.2 then z' else e i' j').fp b k;by_cases hij':i'=q.1/\j'=q.2;·obtain⟨rfl,rfl⟩:=hij';simp only[and_self,cU];intro hf';exact(iP b k hf').2 i j hi hj (λe=>hij (by simpa using (gw _ _ _ _▸e.symm:i=q.1/\j=q.2))) hf
       ·rw[aC hij'];exact(h5 i j hi hj b k hf).2 i' j' hi' hj' hne
     ·rcases hf with ⟨hm,h|⟨i,j,hi,hj,hf⟩⟩;·refine .inr ⟨⟨hm,.inl h⟩,λhd=>?_⟩;obtain⟨o,hA⟩:=h;exact(dL b k (iK hd)).1 hm o hA
      ·by_cases hij:i=q.1/\j=q.2
       ·obtain⟨rfl,rfl⟩:=hij;simp only[and_self,cU] at hf;rcases i2 b k hf with h|⟨h,hn⟩;·exact .inl h
        ·exact .inr ⟨⟨hm,.inr ⟨_,_,hi,hj,by rw[hst];exact h⟩⟩,hn⟩
       ·simp only[aC hij] at hf;exact .inr ⟨⟨hm,.inr ⟨i,j,hi,hj,hf⟩⟩,λhd=>(dL b k (iK hd)).2 i j hi hj (λe=>hij (by simpa using (gw _ _ _ _▸e.symm:i=q.1/\j=q.2))) hf⟩
    ·cases hst
   |ptr m g o n c=>
    simp only[step] at hst;split at hst
    ·rename_i hq;injection hst with hst
     obtain⟨h1,h2,h3,h4⟩:=hc;have dL:∀b k,z.fp b k->(m=.own->¬(b=g/\o<=k/\k<o+n))/\∀j',j'<n->q.2≠j'->¬(c j').fp b k:=λb k h=>h4 q.2 hq.2 b k (by rw[hst];exact h)
     have hval:∀j,(bg c q.2 z' j).val=(c j).val:=by
      intro j;unfold bg;split;·rename_i h;subst h;rw[hst];exact i3.val
      ·rfl
     have iP:∀b k,z'.fp b k->(m=.own->¬(b=g/\o<=k/\k<o+n))/\∀j',j'<n->q.2≠j'->¬(c j').fp b k:=by
      intro b k h;rcases i2 b k h with h|⟨h,_⟩
      ·rcases hF b k h with h|h;·exact dL b k (iK h)
       ·exact⟨λhm hA=>h ⟨hm,.inl hA⟩,λj' hj _ hf=>h (ia (h3 j' hj).1 (h3 j' hj).2.1 hj hf)⟩
      ·exact dL b k h
     refine⟨⟨λj hj=>?_,iy h2 hE.size,λj hj=>?_,λj hj b k hf=>?_⟩,λb k hf=>?_,mX⟩
     ·obtain⟨a1,a2,a3⟩:=h1 j hj;refine⟨?_,λhm=>hM _ _ _ (a2 hm),λhm=>(hE.frozen h2).trans (a3 hm)⟩;rw[hval];refine hE.cell ?_ a1;by_cases hm:m=.own
      ·intro tf;rcases hS _ _ tf with h|h;·exact(dL _ _ (iK h)).1 hm ⟨rfl,by omega,by omega⟩
       ·exact h ⟨hm,.inl ⟨rfl,by omega,by omega⟩⟩
      ·exact hZ _ _ _ (a2 hm)
     ·obtain⟨a1,a3,a4⟩:=h3 j hj;unfold bg;by_cases hij:j=q.2;·subst hij;simp only[cU];rw[hst] at a1 a3;exact⟨i3.cell a1,i3.fits _ a3,i1⟩
      ·simp only[aC hij];refine⟨a1,a3,eo hM _ (dF hE hZ _ (w8 _ (λb k hf=>ia a1 a3 hj hf) λb k hf gb=>?_) a4)⟩;exact(dL b k gb).2 j hj (λe=>hij e.symm) hf
     ·unfold bg at hf⊢;by_cases hij:j=q.2;·subst hij;simp only[cU] at hf;refine⟨(iP b k hf).1,λj' hj' hne=>?_⟩;rw[aC (λh=>hne h.symm)];exact(iP b k hf).2 j' hj' hne
      ·simp only[aC hij] at hf;refine⟨(h4 j hj b k hf).1,λj' hj' hne=>?_⟩;by_cases hij':j'=q.2;·subst hij';simp only[cU];intro hf';exact(iP b k hf').2 j hj (λe=>hij e.symm) hf
       ·rw[aC hij'];exact(h4 j hj b k hf).2 j' hj' hne
     ·rcases hf with ⟨hm,h|⟨j,hj,hf⟩⟩;·refine .inr ⟨⟨hm,.inl h⟩,λhd=>?_⟩;exact(dL b k (iK hd)).1 hm h
      ·unfold bg at hf;by_cases hij:j=q.2
       ·subst hij;simp only[cU] at hf;rcases i2 b k hf with h|⟨h,hn⟩;·exact .inl h
        ·exact .inr ⟨⟨hm,.inr ⟨_,hj,by rw[hst];exact h⟩⟩,hn⟩
       ·simp only[aC hij] at hf;exact .inr ⟨⟨hm,.inr ⟨j,hj,hf⟩⟩,λhd=>(dL b k (iK hd)).2 j hj (λe=>hij e.symm) hf⟩
    ·cases hst
   |agg n c=>
    simp only[step] at hst;split at hst
    ·rename_i hq;injection hst with hst
     obtain⟨h3,h4⟩:=hc;have dL:∀b k,z.fp b k->∀j',j'<n->q.2≠j'->¬(c j').fp b k:=λb k h=>h4 q.2 hq.2 b k (by rw[hst];exact h)
     have iP:∀b k,z'.fp b k->∀j',j'<n->q.2≠j'->¬(c j').fp b k:=by
      intro b k h;rcases i2 b k h with h|⟨h,_⟩
      ·rcases hF b k h with h|h;·exact dL b k (iK h)
       ·exact λj' hj _ hf=>h ⟨j',hj,hf⟩
      ·exact dL b k h
     refine⟨⟨λj hj=>?_,λj hj b k hf=>?_⟩,λb k hf=>?_,mX⟩
     ·obtain⟨a1,a4⟩:=h3 j hj;unfold bg;by_cases hij:j=q.2;·subst hij;simp only[cU];rw[hst] at a1;exact⟨i3.cell a1,i1⟩
      ·simp only[aC hij];refine⟨a1,eo hM _ (dF hE hZ _ (w8 _ (λb k hf=>⟨j,hj,hf⟩) λb k hf gb=>?_) a4)⟩;exact dL b k gb j hj (λe=>hij e.symm) hf
     ·unfold bg at hf⊢;by_cases hij:j=q.2;·subst hij;simp only[cU] at hf;intro j' hj' hne;rw[aC (λh=>hne h.symm)];exact iP b k hf j' hj' hne
      ·simp only[aC hij] at hf;intro j' hj' hne;by_cases hij':j'=q.2;·subst hij';simp only[cU];intro hf';exact iP b k hf' j hj (λe=>hij e.symm) hf
       ·rw[aC hij'];exact h4 j hj b k hf j' hj' hne
     ·obtain⟨j,hj,hf⟩:=hf;unfold bg at hf;by_cases hij:j=q.2
      ·subst hij;simp only[cU] at hf;rcases i2 b k hf with h|⟨h,hn⟩;·exact .inl h
       ·exact .inr ⟨⟨_,hj,by rw[hst];exact h⟩,hn⟩
      ·simp only[aC hij] at hf;exact .inr ⟨⟨j,hj,hf⟩,λhd=>dL b k (iK hd) j hj (λe=>hij e.symm) hf⟩
    ·cases hst
   |aq n c=>
    simp only[step] at hst;split at hst
    ·rename_i hq;injection hst with hst
     obtain⟨h3,h4⟩:=hc;have dL:∀b k,z.fp b k->∀j',j'<n->q.2≠j'->¬(c j').fp b k:=λb k h=>h4 q.2 hq.2 b k (by rw[hst];exact h)
     have iP:∀b k,z'.fp b k->∀j',j'<n->q.2≠j'->¬(c j').fp b k:=by
      intro b k h;rcases i2 b k h with h|⟨h,_⟩
      ·rcases hF b k h with h|h;·exact dL b k (iK h)
       ·exact λj' hj _ hf=>h ⟨j',hj,hf⟩
      ·exact dL b k h
     refine⟨⟨λj hj=>?_,λj hj b k hf=>?_⟩,λb k hf=>?_,mX⟩
     ·obtain⟨a1,a4⟩:=h3 j hj;unfold bg;by_cases hij:j=q.2;·subst hij;simp only[cU];rw[hst] at a1;exact⟨i3.dV a1,i1⟩
      ·simp only[aC hij];refine⟨a1,eo hM _ (dF hE hZ _ (w8 _ (λb k hf=>⟨j,hj,hf⟩) λb k hf gb=>?_) a4)⟩;exact dL b k gb j hj (λe=>hij e.symm) hf
     ·unfold bg at hf⊢;by_cases hij:j=q.2;·subst hij;simp only[cU] at hf;intro j' hj' hne;rw[aC (λh=>hne h.symm)];exact iP b k hf j' hj' hne
      ·simp only[aC hij] at hf;intro j' hj' hne;by_cases hij':j'=q.2;·subst hij';simp only[cU];intro hf';exact iP b k hf' j hj (λe=>hij e.symm) hf
       ·rw[aC hij'];exact h4 j hj b k hf j' hj' hne
     ·obtain⟨j,hj,hf⟩:=hf;unfold bg at hf;by_cases hij:j=q.2
      ·subst hij;simp only[cU] at hf;rcases i2 b k hf with h|⟨h,hn⟩;·exact .inl h
       ·exact .inr ⟨⟨_,hj,by rw[hst];exact h⟩,hn⟩
      ·simp only[aC hij] at hf;exact .inr ⟨⟨j,hj,hf⟩,λhd=>dL b k (iK hd) j hj (λe=>hij e.symm) hf⟩
    ·cases hst
   |_=>simp[step] at hst
end C
end M
namespace M
open Go Go.RowKit
namespace X
def qR(r:Nat)(p:Path){α:Type}(f:α->X):∀l:List α,ek r p (l.map f)=l.map λa=>(f a).kill r p
 |[]=>rfl
 |a::l=>by simp only[aS,ek,qR r p f l]
def uB(ks:List Nat){α:Type}(f:α->X):∀l:List α,kI ks (l.map f)=l.map λa=>(f a).only ks
 |[]=>rfl
 |a::l=>by simp only[aS,kI,uB ks f l]
end X
namespace C
variable {w w':World}{Z Z':Md->Nat->Nat->Prop}{S:Nat->Nat->Prop}
def ak(t:Nat->Path->Bool):C->C
 |.ref v s q=>bif t s q then .dead v else .ref v s q
 |.av v s q i c=>bif t s q then .dead v else .av v s q i c
 |.cut v s q lo hi=>bif t s q then .dead v else .cut v s q lo hi
 |.ptr m g o n c=>.ptr m g o n λj=>(c j).ak t
 |.agg n c=>.agg n λj=>(c j).ak t
 |.aq n c=>.aq n λj=>(c j).ak t
 |.fn f n c=>.fn f n λj=>(c j).ak t
 |c=>c
def aV(r:Nat)(p:Path):Nat->Path->Bool:=λs q=>s==r && X.pfx p q
def others(ks:List Nat):Nat->Path->Bool:=λs _=> !ks.contains s
def kB(r:Nat)(p:Path):∀c:C,(c.ak (aV r p)).er=c.er.kill r p
 |.ref v s q=>by simp only[ak,er,X.kill,aV];cases s==r && X.pfx p q<;>rfl
 |.av v s q i c=>by simp only[ak,er,X.kill,aV];cases s==r && X.pfx p q<;>rfl
 |.cut v s q i c=>by simp only[ak,er,X.kill,aV];cases s==r && X.pfx p q<;>rfl
 |.ptr m g o n c=>by simp only[ak,er,X.kill,X.qR];congr 1;exact bn λj _=>kB r p (c j)
 |.agg n c=>by simp only[ak,er,X.kill,X.qR];congr 1;exact bn λj _=>kB r p (c j)
 |.aq n c=>by simp only[ak,er,X.kill,X.qR];congr 1;exact bn λj _=>kB r p (c j)
 |.fn f n c=>by simp only[ak,er,X.kill,X.qR];congr 1;exact bn λj _=>kB r p (c j)
 |.dead _=>by simp only[ak,er,X.kill]
 |.int _ _=>by simp only[ak,er,X.kill]
 |.bool _=>by simp only[ak,er,X.kill]
 |.str _=>by simp only[ak,er,X.kill]
 |.row _ _ _ _ _ _=>by simp only[ak,er,X.kill]
def uC(ks:List Nat):∀c:C,(c.ak (others ks)).er=c.er.only ks
 |.ref v s q=>by simp only[ak,er,X.only,others];cases ks.contains s<;>rfl
 |.av v s q i c=>by simp only[ak,er,X.only,others];cases ks.contains s<;>rfl
 |.cut v s q i c=>by simp only[ak,er,X.only,others];cases ks.contains s<;>rfl
 |.ptr m g o n c=>by simp only[ak,er,X.only,X.uB];congr 1;exact bn λj _=>uC ks (c j)
 |.agg n c=>by simp only[ak,er,X.only,X.uB];congr 1;exact bn λj _=>uC ks (c j)
 |.aq n c=>by simp only[ak,er,X.only,X.uB];congr 1;exact bn λj _=>uC ks (c j)
 |.fn f n c=>by simp only[ak,er,X.only,X.uB];congr 1;exact bn λj _=>uC ks (c j)
 |.dead _=>by simp only[ak,er,X.only]
 |.int _ _=>by simp only[ak,er,X.only]
 |.bool _=>by simp only[ak,er,X.only]
 |.str _=>by simp only[ak,er,X.only]
 |.row _ _ _ _ _ _=>by simp only[ak,er,X.only]
section
variable (t:Nat->Path->Bool)
def fL:∀c:C,(c.ak t).val=c.val
 |.ref v s q=>by simp only[ak];cases t s q<;>rfl
 |.av v s q i c=>by simp only[ak];cases t s q<;>rfl
 |.cut v s q i c=>by simp only[ak];cases t s q<;>rfl
 |.ptr m g o n c=>rfl
 |.agg n c=>by simp only[ak,val];congr 2;exact bn λj _=>fL (c j)
 |.aq n c=>by simp only[ak,val];congr 2;exact bn λj _=>fL (c j)
 |.fn f n c=>by simp only[ak,val];congr 2;exact bn λj _=>fL (c j)
 |.dead _=>rfl
 |.int _ _=>rfl
 |.bool _=>rfl
 |.str _=>rfl
 |.row _ _ _ _ _ _=>rfl
def bK:∀(c:C) (b k:Nat),(c.ak t).fp b k↔c.fp b k
 |.ref v s q,b,k=>by simp only[ak];cases t s q<;>exact gM
 |.av v s q i c,b,k=>by simp only[ak];cases t s q<;>exact gM
 |.cut v s q i c,b,k=>by simp only[ak];cases t s q<;>exact gM
 |.ptr m g o n c,b,k=>zH λ_=>or_congr_right (Du λj=>zH λ_=>bK (c j) b k)
 |.agg n c,b,k=>Du λj=>zH λ_=>bK (c j) b k
 |.aq n c,b,k=>Du λj=>zH λ_=>bK (c j) b k
 |.fn f n c,b,k=>gM
 |.dead _,_,_=>gM
 |.int _ _,_,_=>gM
 |.bool _,_,_=>gM
 |.str _,_,_=>gM
 |.row _ _ _ _ _ _,_,_=>gM
def yb(c:C)(h:c.cell):(c.ak t).cell:=by
 cases c with
 |ref v s q=>simp only[ak];cases t s q<;>exact h
 |av v s q i c=>simp only[ak];cases t s q<;>exact h
 |cut v s q i c=>simp only[ak];cases t s q<;>exact h
 |agg=>exact h.elim
 |aq=>exact h.elim
 |_=>exact h
def P4(c:C)(h:c.dV):(c.ak t).dV:=by
 cases c with
 |ref v s q=>simp only[ak];cases t s q<;>exact h
 |av v s q i c=>simp only[ak];cases t s q<;>exact h
 |cut v s q i c=>simp only[ak];cases t s q<;>exact h
 |aq=>exact h.elim
 |_=>exact h
def P3(m:Md)(c:C)(h:c.fits m):(c.ak t).fits m:=by
 cases c with
 |ref v s q=>simp only[ak];cases t s q<;>trivial
 |av v s q i c=>simp only[ak];cases t s q<;>trivial
 |cut v s q i c=>simp only[ak];cases t s q<;>trivial
 |_=>exact h
def q5(c:C)(h:c.bX):c.ak t=c:=by
 cases c with
 |ref v s q=>exact h.elim
 |av v s q i c=>exact h.elim
 |cut v s q i c=>exact h.elim
 |ptr=>exact h.elim
 |agg=>exact h.elim
 |aq=>exact h.elim
 |fn=>exact h.elim
 |_=>rfl
def jo:∀c:C,c.ok w Z->(c.ak t).ok w Z
 |.ref v s q,h=>by simp only[ak];cases t s q<;>trivial
 |.av v s q i c,h=>by simp only[ak];cases t s q<;>trivial
 |.cut v s q i c,h=>by simp only[ak];cases t s q<;>trivial
 |.ptr m g o n c,h=>by
  obtain⟨h1,h2,h3,h4⟩:=h;refine⟨λj hj=>?_,h2,λj hj=>⟨yb t _ (h3 j hj).1,P3 t _ _ (h3 j hj).2.1,jo (c j) (h3 j hj).2.2⟩,λj hj b k hf=>?_⟩;·rw[fL];exact h1 j hj
  ·rw[bK] at hf;exact⟨(h4 j hj b k hf).1,λj' hj' hne=>by rw[bK];exact(h4 j hj b k hf).2 j' hj' hne⟩
 |.agg n c,h=>⟨λj hj=>⟨yb t _ (h.1 j hj).1,jo (c j) (h.1 j hj).2⟩,λj hj b k hf j' hj' hne=>by rw[bK] at hf⊢;exact h.2 j hj b k hf j' hj' hne⟩
 |.aq n c,h=>⟨λj hj=>⟨P4 t _ (h.1 j hj).1,jo (c j) (h.1 j hj).2⟩,λj hj b k hf j' hj' hne=>by rw[bK] at hf⊢;exact h.2 j hj b k hf j' hj' hne⟩
 |.fn f n c,h=>λj hj=>⟨jo (c j) (h j hj).1,λb k hf=>by rw[bK] at hf;exact(h j hj).2 b k hf⟩
 |.dead _,h=>h
 |.int _ _,h=>h
 |.bool _,h=>h
 |.str _,h=>h
 |.row _ _ _ _ _ _,h=>h
def fK:∀(q:Path) (c y:C),c.ok w Z->c.sub q=some y->(c.ak t).sub q=some (y.ak t)
 |[],c,y,ho,h=>by simp only[sub] at h⊢;injection h with h;rw[h]
 |q::p,c,y,ho,h=>by
  simp only[sub] at h⊢;cases hs:c.step q with
  |none=>rw[hs] at h;cases h
  |some z=>
   rw[hs] at h;have hz:(z.ak t).sub p=some (y.ak t):=fK p z y (pK hs ho) h;suffices hst:(c.ak t).step q=some (z.ak t) by rw[hst];exact hz
   cases c with
   |row m sz A len cap e=>
    simp only[step] at hs;split at hs
    ·rename_i hq;injection hs with hs
     have:=q5 t z (by rw[<-hs];exact(ho.2.2.1 _ _ hq.1 hq.2).2.1);simp only[ak,step,aA hq,hs,this]
    ·cases hs
   |ptr m g o n c=>
    simp only[step] at hs;split at hs
    ·rename_i hq;injection hs with hs
     simp only[ak,step,aA hq,hs]
    ·cases hs
   |agg n c=>
    simp only[step] at hs;split at hs
    ·rename_i hq;injection hs with hs
     simp only[ak,step,aA hq,hs]
    ·cases hs
   |aq n c=>
    simp only[step] at hs;split at hs
    ·rename_i hq;injection hs with hs
     simp only[ak,step,aA hq,hs]
    ·cases hs
   |_=>simp[step] at hs
end
inductive dX:C->C->Prop where
 |row (m m':Md) (sz:Nat) (A:Option Ad) (len cap:Nat) (e e':Nat->Nat->C):dX (.row m sz A len cap e) (.row m' sz A len cap e')
 |ptr (m m':Md) (g o n:Nat) (c c':Nat->C):dX (.ptr m g o n c) (.ptr m' g o n c')
def dX.off(t:Nat->Path->Bool){y z:C}(h:dX y z):dX y (z.ak t):=by
 cases h with
 |row=>exact .row ..
 |ptr=>exact .ptr ..
def dX.trans{x y z:C}(h:dX x y)(h':dX y z):dX x z:=by cases h<;>cases h'<;>constructor
def free(t:Nat->Path->Bool):C->Prop
 |.ref _ s q=>t s q=false
 |.av _ s q _ _=>t s q=false
 |.cut _ s q _ _=>t s q=false
 |.ptr _ _ _ n c=>∀j,j<n->(c j).free t
 |.agg n c=>∀j,j<n->(c j).free t
 |.aq n c=>∀j,j<n->(c j).free t
 |.fn _ n c=>∀j,j<n->(c j).free t
 |_=>True
def en(t:Nat->Path->Bool):∀c:C,(c.ak t).free t
 |.ref v s q=>by simp only[ak];cases h:t s q<;>simp[free,h]
 |.av v s q i c=>by simp only[ak];cases h:t s q<;>simp[free,h]
 |.cut v s q i c=>by simp only[ak];cases h:t s q<;>simp[free,h]
 |.ptr m g o n c=>λj _=>en t (c j)
 |.agg n c=>λj _=>en t (c j)
 |.aq n c=>λj _=>en t (c j)
 |.fn f n c=>λj _=>en t (c j)
 |.dead _=>trivial
 |.int _ _=>trivial
 |.bool _=>trivial
 |.str _=>trivial
 |.row _ _ _ _ _ _=>trivial
def rf(G:Nat->C):C->Prop
 |.ref v s p=>∃y z,(G s).sub p=some y/\dX z y/\y.val=v/\∃m sz A len cap e,z=.row m sz A len cap e
 |.av v s p i c=>∃y,(G s).sub p=some y/\((∃m sz g o len cap e,y=.row m sz (some (g,o,none)) len cap e/\v=.pointer (some ⟨g,o+i*sz+c,none⟩))\/∃m g o n cc,y=.ptr m g o n cc/\i=0/\v=.pointer (some ⟨g,o+c,none⟩))
 |.cut v s p lo hi=>∃m sz A len cap e A' cap',(G s).sub p=some (.row m sz A len cap e)/\v=.slice (Option.map (λq:Ad=>⟨q.1,q.2.1,q.2.2⟩) A') (hi - lo) cap'/\lo<=hi/\hi<=len/\hi - lo<=cap'/\(lo<hi->A'=A.map λq=>fV (lo*sz) q)/\lo+cap'=cap/\((A'=A/\cap'=0)\/A'=A.map λq=>fV (lo*sz) q)
 |.ptr _ _ _ n c=>∀j,j<n->(c j).rf G
 |.agg n c=>∀j,j<n->(c j).rf G
 |.aq n c=>∀j,j<n->(c j).rf G
 |.fn _ n c=>∀j,j<n->(c j).rf G
 |_=>True
def iV{G G':Nat->C}(t:Nat->Path->Bool)(h:∀s q y,t s q=false->(G s).sub q=some y->(∃z,dX y z/\(G' s).sub q=some z)\/∀z,¬dX z y):∀c:C,c.free t->c.rf G->c.rf G'
 |.ref v s p,hf,hr=>by
  obtain⟨y,z,hs,hF,hv,m,sz,A,len,cap,e,rfl⟩:=hr;rcases h s p y hf hs with ⟨z',dR,hs'⟩|hno;·refine⟨z',_,hs',hF.trans dR,?_,m,sz,A,len,cap,e,rfl⟩;cases hF;cases dR;exact hv
  ·exact(hno _ hF).elim
 |.av v s p i c,hf,hr=>by
  obtain⟨y,hs,hy⟩:=hr;rcases h s p y hf hs with ⟨z',dR,hs'⟩|hno
  ·refine⟨z',hs',?_⟩;rcases hy with ⟨m,sz,g,o,len,cap,e,rfl,hv⟩|⟨m,g,o,n,cc,rfl,hv⟩;·cases dR;exact .inl ⟨_,_,_,_,_,_,_,rfl,hv⟩
   ·cases dR;exact .inr ⟨_,_,_,_,_,rfl,hv⟩
  ·rcases hy with ⟨m,sz,g,o,len,cap,e,rfl,hv⟩|⟨m,g,o,n,cc,rfl,hv⟩;·exact(hno _ (.row m m sz (some (g,o,none)) len cap e e)).elim
   ·exact(hno _ (.ptr m m g o n cc cc)).elim
 |.cut v s p lo hi,hf,hr=>by
  obtain⟨m,sz,A,len,cap,e,A',cap',hs,hv⟩:=hr;rcases h s p _ hf hs with ⟨z',dR,hs'⟩|hno;·cases dR;exact⟨_,_,_,_,_,_,A',cap',hs',hv⟩
  ·exact(hno _ (.row m m sz A len cap e e)).elim
 |.ptr m g o n c,hf,hr=>λj hj=>iV t h (c j) (hf j hj) (hr j hj)
 |.agg n c,hf,hr=>λj hj=>iV t h (c j) (hf j hj) (hr j hj)
 |.aq n c,hf,hr=>λj hj=>iV t h (c j) (hf j hj) (hr j hj)
 |.fn f n c,hf,hr=>λj hj=>iV t h (c j) (hf j hj) (hr j hj)
 |.dead _,_,_=>trivial
 |.int _ _,_,_=>trivial
 |.bool _,_,_=>trivial
 |.str _,_,_=>trivial
 |.row _ _ _ _ _ _,_,_=>trivial
def jS{G:Nat->C}(t:Nat->Path->Bool):∀c:C,c.rf G->(c.ak t).rf G
 |.ref v s q,h=>by simp only[ak];cases t s q<;>first|exact h|trivial
 |.av v s q i c,h=>by simp only[ak];cases t s q<;>first|exact h|trivial
 |.cut v s q i c,h=>by simp only[ak];cases t s q<;>first|exact h|trivial
 |.ptr m g o n c,h=>λj hj=>jS t (c j) (h j hj)
 |.agg n c,h=>λj hj=>jS t (c j) (h j hj)
 |.aq n c,h=>λj hj=>jS t (c j) (h j hj)
 |.fn f n c,h=>λj hj=>jS t (c j) (h j hj)
 |.dead _,_=>trivial
 |.int _ _,_=>trivial
 |.bool _,_=>trivial
 |.str _,_=>trivial
 |.row _ _ _ _ _ _,_=>trivial
def self(y z:C)(t:Path)(h:z.sub t=some y):(∃z',dX y z'/\z.sub t=some z')\/∀z,¬dX z y:=by
 cases y with
 |row m sz A len cap e=>exact .inl ⟨_,.row m m sz A len cap e e,h⟩
 |ptr m g o n c=>exact .inl ⟨_,.ptr m m g o n c c,h⟩
 |_=>exact .inr λz hz=>by cases hz
def ze:∀(p q:Path) (c d' y:C),X.pfx p q=false->c.sub q=some y->(∃z,dX y z/\(putAt p c d').sub q=some z)\/∀z,¬dX z y
 |[],q,c,d',y,h,hs=>by simp[X.pfx] at h
 |r::p,[],c,d',y,h,hs=>by
  simp only[sub] at hs;injection hs with hs
  subst hs;simp only[putAt,sub];cases hst:c.step r with
  |none=>
   cases c with
   |row m sz A len cap e=>exact .inl ⟨_,.row m m sz A len cap e _,rfl⟩
   |ptr m g o n c=>exact .inl ⟨_,.ptr m m g o n c _,rfl⟩
   |_=>exact .inr λz hz=>by cases hz
  |some z=>
   cases c with
   |row m sz A len cap e=>exact .inl ⟨_,.row m m sz A len cap e _,rfl⟩
   |ptr m g o n c=>exact .inl ⟨_,.ptr m m g o n c _,rfl⟩
   |_=>exact .inr λz hz=>by cases hz
 |r::p,q::t,c,d',y,h,hs=>by
  simp only[sub] at hs⊢;cases bD:c.step q with
  |none=>rw[bD] at hs;cases hs
  |some z=>
   rw[bD] at hs;have hs':z.sub t=some y:=hs;simp only[putAt];cases iM:c.step r with
   |none=>simp only[bD];exact self y z t hs'
   |some z0=>
    simp only;by_cases xo:r.1=q.1/\r.2=q.2
    ·have OG:r=q:=by cases r;cases q;simp only at xo;rw[xo.1,xo.2]
     subst OG;rw[bD] at iM;injection iM with iM
     subst iM;have hp:X.pfx p t=false:=by simpa [X.pfx] using h
     have:(c.aK r (putAt p z d')).step r=some (putAt p z d'):=by
      cases c with
      |row m sz A len cap e=>
       simp only[step] at bD;split at bD;·rename_i hq;simp[aK,step,hq]
       ·cases bD
      |ptr m g o n c=>
       simp only[step] at bD;split at bD;·rename_i hq;simp[aK,step,hq,bg]
       ·cases bD
      |agg n c=>
       simp only[step] at bD;split at bD;·rename_i hq;simp[aK,step,hq,bg]
       ·cases bD
      |aq n c=>
       simp only[step] at bD;split at bD;·rename_i hq;simp[aK,step,hq,bg]
       ·cases bD
      |_=>simp[step] at bD
     rw[this];exact ze p t z d' y hp hs'
    ·by_cases h2:r.2=q.2
     ·have h1:r.1≠q.1:=λe=>xo ⟨e,h2⟩;cases c with
      |row m sz A len cap e=>
       simp only[step] at bD;split at bD
       ·rename_i hq;have:((C.row m sz A len cap e).aK r (putAt p z0 d')).step q=some z:=by simp only[aK,step,aA hq];rw[aC (λe=>h1 e.1.symm)];exact bD
        rw[this];exact self y z t hs'
       ·cases bD
      |ptr m g o n c=>
       simp only[step] at bD iM;split at bD
       ·split at iM;·rename_i hq hr;exact(h1 (hr.1.trans hq.1.symm)).elim
        ·cases iM
       ·cases bD
      |agg n c=>
       simp only[step] at bD iM;split at bD
       ·split at iM;·rename_i hq hr;exact(h1 (hr.1.trans hq.1.symm)).elim
        ·cases iM
       ·cases bD
      |aq n c=>
       simp only[step] at bD iM;split at bD
       ·split at iM;·rename_i hq hr;exact(h1 (hr.1.trans hq.1.symm)).elim
        ·cases iM
       ·cases bD
      |_=>simp[step] at bD
     ·have:(c.aK r (putAt p z0 d')).step q=some z:=by
       cases c with
       |row m sz A len cap e=>
        simp only[step] at bD;split at bD;·rename_i hq;simp only[aK,step,aA hq];rw[aC (λe=>h2 e.2.symm)];exact bD
        ·cases bD
       |ptr m g o n c=>
        simp only[step] at bD;split at bD;·rename_i hq;simp only[aK,step,aA hq,bg];rw[aC (λe=>h2 e.symm)];exact bD
        ·cases bD
       |agg n c=>
        simp only[step] at bD;split at bD;·rename_i hq;simp only[aK,step,aA hq,bg];rw[aC (λe=>h2 e.symm)];exact bD
        ·cases bD
       |aq n c=>
        simp only[step] at bD;split at bD;·rename_i hq;simp only[aK,step,aA hq,bg];rw[aC (λe=>h2 e.symm)];exact bD
        ·cases bD
       |_=>simp[step] at bD
      rw[this];exact self y z t hs'
end C
end M
namespace M
open Go Go.RowKit
def FQ(r:Nat)(p:Path)(t:Nat):∀s:af,get (nr r p s) t=(get s t).kill r p
 |[]=>rfl
 |(k,v)::s=>by
  simp only[nr,get];cases k==t with
  |true=>rfl
  |false=>exact FQ r p t s
def qx(k:Nat)(v:X)(s:af)(t:Nat):get ((k,v)::s) t=if t=k then v else get s t:=by
 simp only[get];by_cases h:t=k;·subst h;simp
 ·have:(k==t)=false:=by simpa using λe=>h e.symm
  rw[this,aC h];rfl
structure Inv (w:World) (zl zb:Nat->Nat->Prop) (G:Nat->C) (s:af):Prop where
 er:∀t,(G t).er=get s t
 ok:∀t,(G t).ok w (Zf zl zb)
 sep:∀t u,t≠u->∀b k,(G t).fp b k->¬(G u).fp b k
 fz:∀t b k,(G t).fp b k->¬zl b k/\¬zb b k
 rf:∀t,(G t).rf G
 bF:∀b k,zl b k\/zb b k->b<w.heap.size
def zZ{zl zb:Nat->Nat->Prop}{n:Nat}(h:∀b k,zl b k\/zb b k->b<n):∀m b k,Zf zl zb m b k->b<n
 |.own,b,k,hz=>hz.elim
 |.sl,b,k,hz=>h b k (.inl hz)
 |.ah,b,k,hz=>h b k hz
namespace Inv
variable {w w':World}{zl zb:Nat->Nat->Prop}{G:Nat->C}{s:af}
def sB(h:Inv w zl zb G s)(t:Nat):∀m b k,Zf zl zb m b k->¬(G t).fp b k
 |.own,b,k,hz=>hz.elim
 |.sl,b,k,hz=>λhf=>(h.fz t b k hf).1 hz
 |.ah,b,k,hz=>λhf=>by
  rcases hz with hz|hz;·exact(h.fz t b k hf).1 hz
  ·exact(h.fz t b k hf).2 hz
def off(h:Inv w zl zb G s)(f:Nat->Path->Bool){s':af}(hs:∀t,((G t).ak f).er=get s' t):Inv w zl zb (λt=>(G t).ak f) s' where
 er:=hs
 ok:=λt=>C.jo f _ (h.ok t)
 sep:=λt u hne b k hf=>by rw[C.bK] at hf⊢;exact h.sep t u hne b k hf
 fz:=λt b k hf=>by rw[C.bK] at hf;exact h.fz t b k hf
 rf:=λt=>C.iV f (λs' q y hf hs=>by
   rcases C.self y _ q hs with ⟨z,hz,tF⟩|hno;·exact .inl ⟨_,hz.off f,C.fK f q _ _ (h.ok s') tF⟩
   ·exact .inr hno) _ (C.en f _) (C.jS f _ (h.rf t))
 bF:=h.bF
def kill(h:Inv w zl zb G s)(r:Nat)(p:Path):Inv w zl zb (λt=>(G t).ak (C.aV r p)) (nr r p s):=
 h.off _ λt=>by rw[C.kB,FQ,h.er]
def world(h:Inv w zl zb G s){S:Nat->Nat->Prop}(hE:Ext S w w')(hS:∀b k,S b k->w.heap.size<=b):Inv w' zl zb G s where
 er:=h.er
 ok:=λt=>C.dF hE (λm b k hz hs=>by have:=zZ h.bF m b k hz;have:=hS b k hs;omega) _ (λb k hf hs=>by have:=C.dD _ (h.ok t) b k hf;have:=hS b k hs;omega) (h.ok t)
 sep:=h.sep
 fz:=h.fz
 rf:=h.rf
 bF:=λb k hz=>iy (h.bF b k hz) hE.size
def r6(h:Inv w zl zb G s){d:Nat}(hd:(get s d).fo=false):∀c:C,c.rf G->c.free (C.aV d [])
 |.ref v r p,hr=>by
  obtain⟨y,z,hs,hF,_⟩:=hr;simp only[C.free,C.aV,X.pfx,Dv];by_cases e:r=d;·subst e;exact(no h hd hs (by cases hF<;>rfl)).elim
  ·simpa using e
 |.av v r p i c,hr=>by
  obtain⟨y,hs,hy⟩:=hr;simp only[C.free,C.aV,X.pfx,Dv];by_cases e:r=d;·subst e;refine(no h hd hs ?_).elim;rcases hy with ⟨m,sz,g,o,len,cap,e,rfl,hv⟩|⟨m,g,o,n,cc,rfl,hv⟩<;>rfl
  ·simpa using e
 |.cut v r p lo hi,hr=>by
  obtain⟨m,sz,A,len,cap,e,A',cap',hs,_⟩:=hr;simp only[C.free,C.aV,X.pfx,Dv];by_cases e:r=d;·subst e;exact(no h hd hs rfl).elim
  ·simpa using e
 |.ptr m g o n c,hr=>λj hj=>r6 h hd (c j) (hr j hj)
 |.agg n c,hr=>λj hj=>r6 h hd (c j) (hr j hj)
 |.aq n c,hr=>λj hj=>r6 h hd (c j) (hr j hj)
 |.fn f n c,hr=>λj hj=>r6 h hd (c j) (hr j hj)
 |.dead _,_=>trivial
 |.int _ _,_=>trivial
 |.bool _,_=>trivial
 |.str _,_=>trivial
 |.row _ _ _ _ _ _,_=>trivial
where
 no {r:Nat} {p:Path} {y:C} (h:Inv w zl zb G s) (hd:(get s r).fo=false) (hs:(G r).sub p=some y) (hy:y.er.fo=true):False:=by
  rw[<-h.er] at hd
  cases p with
  |nil=>
   simp only[C.sub] at hs
   injection hs with hs
   rw[hs,hy] at hd
   cases hd
  |cons q p=>
   simp only[C.sub] at hs
   cases hc:G r with
   |row=>rw[hc] at hd;simp[C.er,X.fo] at hd
   |ptr=>rw[hc] at hd;simp[C.er,X.fo] at hd
   |agg=>rw[hc] at hd;simp[C.er,X.fo] at hd
   |aq=>rw[hc] at hd;simp[C.er,X.fo] at hd
   |_=>rw[hc] at hs;simp[C.step] at hs
end Inv
def dI(G:Nat->C)(d:Nat)(c:C):Nat->C:=λt=>if t=d then c else G t
def cu(G:Nat->C)(d:Nat)(c:C):dI G d c d=c:=by simp[dI]
def cm(G:Nat->C){d t:Nat}(c:C)(h:t≠d):dI G d c t=G t:=by simp[dI,h]
namespace Inv
variable {w w':World}{zl zb:Nat->Nat->Prop}{G:Nat->C}{s:af}
def Hs(h:Inv w zl zb G s)(d:Nat)(c:C)(hfree:∀t,t≠d->(G t).free (C.aV d []))(hok:c.ok w (Zf zl zb))(hsep:∀t,t≠d->∀b k,c.fp b k->¬(G t).fp b k)
  (hfz:∀b k,c.fp b k->¬zl b k/\¬zb b k)(hrf:c.rf G)(fG:c.free (C.aV d [])):Inv w zl zb (dI G d c) ((d,c.er)::s) where
 er:=λt=>by
  rw[qx];by_cases e:t=d;·subst e;rw[cu,aA rfl]
  ·rw[cm _ _ e,aC e];exact h.er t
 ok:=λt=>by
  by_cases e:t=d;·subst e;rw[cu];exact hok
  ·rw[cm _ _ e];exact h.ok t
 sep:=λt u hne b k hf=>by
  by_cases e:t=d;·subst e;rw[cu] at hf;rw[cm _ _ (λe=>hne e.symm)];exact hsep u (λe=>hne e.symm) b k hf
  ·rw[cm _ _ e] at hf;by_cases e':u=d;·subst e';rw[cu];exact λhc=>hsep t e b k hc hf
   ·rw[cm _ _ e'];exact h.sep t u hne b k hf
 fz:=λt b k hf=>by
  by_cases e:t=d;·subst e;rw[cu] at hf;exact hfz b k hf
  ·rw[cm _ _ e] at hf;exact h.fz t b k hf
 rf:=λt=>by
  have key:∀c':C,c'.free (C.aV d [])->c'.rf G->c'.rf (dI G d c):=λc' hf hr=>C.iV (C.aV d []) (λs' q y hk hs=>by
   have hne:s'≠d:=by intro e;subst e;simp[C.aV,X.pfx] at hk
   rw[cm _ _ hne];exact C.self y _ q hs) c' hf hr
  by_cases e:t=d;·subst e;rw[cu];exact key c fG hrf
  ·rw[cm _ _ e];exact key _ (hfree t e) (h.rf t)
 bF:=h.bF
def put(h:Inv w zl zb G s)(d:Nat)(c:C)(hok:c.ok w (Zf zl zb))(hsep:∀t,t≠d->∀b k,c.fp b k->¬(G t).fp b k)
  (hfz:∀b k,c.fp b k->¬zl b k/\¬zb b k)(hrf:c.rf G):
  ∃G',Inv w zl zb G' (M.put d c.er s)/\(G' d).val=c.val/\(∀t,t≠d->(G' t).val=(G t).val)/\(∀b k,(G' d).fp b k->c.fp b k)/\∀t,t≠d->∀b k,(G' t).fp b k->(G t).fp b k:=by
 unfold M.put;cases hr:(get s d).fo with
 |false=>refine⟨dI G d c,h.Hs d c (λt _=>h.r6 hr _ (h.rf t)) hok hsep hfz hrf (h.r6 hr _ hrf),by rw[cu],λt e=>by rw[cm _ _ e],λb k hf=>by rwa [cu] at hf,λt e b k hf=>by rwa [cm _ _ e] at hf⟩
 |true=>
  have h1:=h.kill d []
  have hc:(c.ak (C.aV d [])).rf λt=>(G t).ak (C.aV d []):=C.iV (C.aV d []) (λs' q y hf hs=>by
   rcases C.self y _ q hs with ⟨z,hz,tF⟩|hno;·exact .inl ⟨_,hz.off _,C.fK _ q _ _ (h.ok s') tF⟩
   ·exact .inr hno) _ (C.en _ _) (C.jS _ _ hrf)
  have h2:=h1.Hs d (c.ak (C.aV d [])) (λt _=>C.en _ _) (C.jo _ _ hok) (λt e b k hf=>by rw[C.bK] at hf⊢;exact hsep t e b k hf) (λb k hf=>by rw[C.bK] at hf;exact hfz b k hf) hc (C.en _ _);rw[C.kB] at h2;refine⟨_,h2,by rw[cu,C.fL],λt e=>by rw[cm _ _ e,C.fL],λb k hf=>by rw[cu,C.bK] at hf;exact hf,λt e b k hf=>by rw[cm _ _ e,C.bK] at hf;exact hf⟩
def yZ(h:Inv w zl zb G s)(r:Nat)(p q:Path)(d d' y:C){S:Nat->Nat->Prop}(hq:C.putAt q (G r) y=C.putAt p (G r) d')(hfree:∀t,(G t).free (C.aV r q))(hE:Ext S w w')(hsub:(G r).sub p=some d)
  (hS:∀b k,S b k->d.fp b k\/w.heap.size<=b)(hok:d'.ok w' (Zf zl zb))(hl:C.eP d d')(hrf:y.rf G)(hdf:y.free (C.aV r q))
  (bu:∀b k,d'.fp b k->d.fp b k\/((∀t,¬(G t).fp b k)/\¬zl b k/\¬zb b k)):
  (Inv w' zl zb (dI G r (C.putAt p (G r) d')) ((r,X.putAt q (get s r) y.er)::s)/\(∀t,(dI G r (C.putAt p (G r) d') t).val=(G t).val)/\
   ∀t b k,(dI G r (C.putAt p (G r) d') t).fp b k->(t=r/\d'.fp b k)\/(G t).fp b k)/\∀c':C,c'.free (C.aV r q)->c'.rf G->c'.rf (dI G r (C.putAt p (G r) d')):=by
 have dc:∀{b k},d.fp b k->(G r).fp b k:=λhf=>C.eu p hsub (h.ok r) hf
 have hZ:∀m b k,Zf zl zb m b k->¬S b k:=λm b k hz hs=>by
  rcases hS b k hs with hs|hs;·exact h.sB r m b k hz (dc hs)
  ·have:=zZ h.bF m b k hz;omega
 obtain⟨i1,i2,i3⟩:=C.uA (λ_ _ _ h=>h) hE hZ p (G r) d d' (h.ok r) hsub hok hl (λb k hs=>(hS b k hs).imp id λhb hf=>by have:=C.dD _ (h.ok r) b k hf;omega) (λb k hf=>(bu b k hf).imp id λhn=>hn.1 r);have Bm:∀b k,(C.putAt p (G r) d').fp b k->d'.fp b k\/(G r).fp b k:=λb k hf=>(i2 b k hf).imp id λhh=>hh.1
 have hr':∀t,t≠r->∀b k,(C.putAt p (G r) d').fp b k->¬(G t).fp b k:=λt e b k hf=>by
  rcases Bm b k hf with hf|hf
  ·rcases bu b k hf with hf|hf;·exact h.sep r t (λe'=>e e'.symm) b k (dc hf)
   ·exact hf.1 t
  ·exact h.sep r t (λe'=>e e'.symm) b k hf
 have key:∀c':C,c'.free (C.aV r q)->c'.rf G->c'.rf (dI G r (C.putAt p (G r) d')):=λc' hf hr=>C.iV (C.aV r q) (λs' q' y' hk hs=>by
  by_cases e:s'=r;·subst e;rw[cu,<-hq];exact C.ze q q' (G s') y y' (by simpa [C.aV] using hk) hs
  ·rw[cm _ _ e];exact C.self y' _ q' hs) c' hf hr
 refine⟨⟨⟨λt=>?_,λt=>?_,λt u hne b k hf=>?_,λt b k hf=>?_,λt=>?_,λb k hz=>iy (h.bF b k hz) hE.size⟩,λt=>?_,λt b k hf=>?_⟩,key⟩
 ·rw[qx];by_cases e:t=r;·subst e;rw[cu,aA rfl,<-hq,C.Cn,h.er]
  ·rw[cm _ _ e,aC e];exact h.er t
 ·by_cases e:t=r;·subst e;rw[cu];exact i1
  ·rw[cm _ _ e];refine C.dF hE hZ _ (λb k hf hs=>?_) (h.ok t);rcases hS b k hs with hs|hs;·exact h.sep t r e b k hf (dc hs)
   ·have:=C.dD _ (h.ok t) b k hf;omega
 ·by_cases e:t=r;·subst e;rw[cu] at hf;rw[cm _ _ (λe=>hne e.symm)];exact hr' u (λe=>hne e.symm) b k hf
  ·rw[cm _ _ e] at hf;by_cases e':u=r;·subst e';rw[cu];exact λhc=>hr' t e b k hc hf
   ·rw[cm _ _ e'];exact h.sep t u hne b k hf
 ·by_cases e:t=r
  ·subst e;rw[cu] at hf;rcases Bm b k hf with hf|hf
   ·rcases bu b k hf with hf|hf;·exact h.fz t b k (dc hf)
    ·exact hf.2
   ·exact h.fz t b k hf
  ·rw[cm _ _ e] at hf;exact h.fz t b k hf
 ·by_cases e:t=r
  ·subst e;rw[cu]
   have inner:∀(p':Path) (c':C),c'.free (C.aV t q)->c'.rf G->(C.putAt p' c' y).rf (dI G t (C.putAt p (G t) d')):=by
    intro p';induction p' with
    |nil=>intro c' _ _;exact key y hdf hrf
    |cons x p' ih=>
     intro c' fG gH;simp only[C.putAt];cases hst:c'.step x with
     |none=>exact key c' fG gH
     |some z=>
      cases c' with
      |row m sz A len cap e=>trivial
      |ptr m g o n c=>
       simp only[C.step] at hst;split at hst
       ·rename_i hq;injection hst with hst
        intro j hj;simp only[C.bg];split;·exact ih z (by rw[<-hst];exact fG _ hq.2) (by rw[<-hst];exact gH _ hq.2)
        ·exact key _ (fG j hj) (gH j hj)
       ·cases hst
      |agg n c=>
       simp only[C.step] at hst;split at hst
       ·rename_i hq;injection hst with hst
        intro j hj;simp only[C.bg];split;·exact ih z (by rw[<-hst];exact fG _ hq.2) (by rw[<-hst];exact gH _ hq.2)
        ·exact key _ (fG j hj) (gH j hj)
       ·cases hst
      |aq n c=>
       simp only[C.step] at hst;split at hst
       ·rename_i hq;injection hst with hst
        intro j hj;simp only[C.bg];split;·exact ih z (by rw[<-hst];exact fG _ hq.2) (by rw[<-hst];exact gH _ hq.2)
        ·exact key _ (fG j hj) (gH j hj)
       ·cases hst
      |_=>simp[C.step] at hst
   rw[<-hq] at*;exact inner q (G t) (hfree t) (h.rf t)
  ·rw[cm _ _ e];exact key _ (hfree t) (h.rf t)
 ·by_cases e:t=r;·subst e;rw[cu];exact i3.val
  ·rw[cm _ _ e]
 ·by_cases e:t=r;·subst e;rw[cu] at hf;exact(Bm b k hf).imp (λhh=>⟨rfl,hh⟩) id
  ·rw[cm _ _ e] at hf;exact .inr hf
def HL(h:Inv w zl zb G s)(r:Nat)(p:Path)(d d':C){S:Nat->Nat->Prop}(hfree:∀t,(G t).free (C.aV r p))(hE:Ext S w w')(hsub:(G r).sub p=some d)
  (hS:∀b k,S b k->d.fp b k\/w.heap.size<=b)(hok:d'.ok w' (Zf zl zb))(hl:C.eP d d')(hrf:d'.rf G)(hdf:d'.free (C.aV r p))
  (bu:∀b k,d'.fp b k->d.fp b k\/((∀t,¬(G t).fp b k)/\¬zl b k/\¬zb b k)):
  (Inv w' zl zb (dI G r (C.putAt p (G r) d')) ((r,X.putAt p (get s r) d'.er)::s)/\(∀t,(dI G r (C.putAt p (G r) d') t).val=(G t).val)/\
   ∀t b k,(dI G r (C.putAt p (G r) d') t).fp b k->(t=r/\d'.fp b k)\/(G t).fp b k)/\∀c':C,c'.free (C.aV r p)->c'.rf G->c'.rf (dI G r (C.putAt p (G r) d')):=
 h.yZ r p p d d' d' rfl hfree hE hsub hS hok hl hrf hdf bu
def mI{c:C}(h:c.cell):c.val.oneCell'=true:=by
 cases c with
 |agg=>exact h.elim
 |aq=>exact h.elim
 |dead=>exact h
 |ref=>exact h
 |av=>exact h
 |cut=>exact h
 |_=>rfl
def xT(d:C):C.eP d (.dead d.val) where
 val:=rfl
 cell:=λh=>mI h
 dV:=λ_=>trivial
 bX:=λ_=>trivial
 fits:=λ_ _=>trivial
def pL(h:Inv w zl zb G s)(r:Nat)(p:Path)(y:C)(hsub:(G r).sub p=some y):
  ∃(c:C) (G':Nat->C),c.er=y.er.kill r p/\c.val=y.val/\Inv w zl zb G' (fu r p .dead s)/\c.ok w (Zf zl zb)/\c.rf G'/\(c.cell↔y.cell)/\(y.bX->c=y)/\(∀t b k,c.fp b k->¬(G' t).fp b k)/\(∀b k,c.fp b k->(G r).fp b k)/\
   (∀t,(G' t).val=(G t).val)/\(∀t b k,(G' t).fp b k->(G t).fp b k)/\∀b k,c.fp b k↔y.fp b k:=by
 have h1:=h.kill r p;have hs1:((G r).ak (C.aV r p)).sub p=some (y.ak (C.aV r p)):=C.fK _ p _ _ (h.ok r) hsub;have lI:=C.eO p hsub (h.ok r);obtain⟨⟨i1,i2,i3⟩,_⟩:=h1.HL r p (y.ak (C.aV r p)) (.dead (y.ak (C.aV r p)).val) (S:=λ_ _=>False) (λt=>C.en _ _) (Ext.refl _ _) hs1 (λ_ _ hf=>hf.elim) trivial (xT _) trivial trivial (λ_ _ hf=>hf.elim);have OB:y.rf G:=vo p (h.ok r) hsub (h.rf r);refine⟨y.ak (C.aV r p),_,C.kB r p y,C.fL _ y,i1,C.jo _ _ lI,?_,?_,λhs=>C.q5 _ _ hs,?_,?_,λt=>(i2 t).trans (C.fL _ _),λt b k hf=>?_,λb k=>C.bK _ y b k⟩
 ·refine C.iV (C.aV r p) (λs' q z hk hs=>?_) _ (C.en _ _) (C.jS _ _ OB);by_cases e:s'=r
  ·subst e;rw[cu];rcases C.self z _ q hs with ⟨z',dR,hs'⟩|hno
   ·have hs2:=C.fK (C.aV s' p) q _ _ (h.ok s') hs';rcases C.ze p q _ (.dead (y.ak (C.aV s' p)).val) _ (by simpa [C.aV] using hk) hs2 with ⟨T8,OM,tF⟩|hno;·exact .inl ⟨T8,(dR.off _).trans OM,tF⟩
    ·exact(hno _ ((dR.off _))).elim
   ·exact .inr hno
  ·rw[cm _ _ e];rcases C.self z _ q hs with ⟨z',dR,hs'⟩|hno;·exact .inl ⟨_,dR.off _,C.fK _ q _ _ (h.ok s') hs'⟩
   ·exact .inr hno
 ·cases y with
  |ref v s q=>simp only[C.ak];cases C.aV r p s q<;>exact gM
  |av v s q i c=>simp only[C.ak];cases C.aV r p s q<;>exact gM
  |cut v s q i c=>simp only[C.ak];cases C.aV r p s q<;>exact gM
  |_=>exact gM
 ·intro t b k hf hf';rw[C.bK] at hf;have BI:=C.eu p hsub (h.ok r) hf;have V9:Inv w zl zb (dI (λt=>(G t).ak (C.aV r p)) r (C.putAt p ((G r).ak (C.aV r p)) (.dead (y.ak (C.aV r p)).val))) (fu r p .dead s):=i1;by_cases e:t=r
  ·subst e;rw[cu] at hf';obtain⟨_,j2,_⟩:=C.uA (λ_ _ _ h=>h) (Ext.refl (λ_ _=>False) w) (λm b k _ hs=>hs) p ((G t).ak (C.aV t p)) _ (.dead (y.ak (C.aV t p)).val) (h1.ok t) hs1 trivial (xT _) (λ_ _ hs=>hs.elim) (λ_ _ hs=>hs.elim);rcases j2 b k hf' with hh|⟨_,hn⟩;·exact hh
   ·exact hn (by rw[C.bK];exact hf)
  ·rw[cm _ _ e,C.bK] at hf';exact h.sep r t (λe'=>e e'.symm) b k BI hf'
 ·intro b k hf;rw[C.bK] at hf;exact C.eu p hsub (h.ok r) hf
 ·rcases i3 t b k hf with ⟨_,hh⟩|hh;·exact hh.elim
  ·rwa [C.bK] at hh
where
 vo:∀(p:Path) {c d:C},c.ok w (Zf zl zb)->c.sub p=some d->c.rf G->d.rf G
  |[],c,d,_,h,hr=>by simp only[C.sub] at h;injection h with h;subst h;exact hr
  |q::p,c,d,ho,h,hr=>by
   simp only[C.sub] at h
   cases hs:c.step q with
   |none=>rw[hs] at h;cases h
   |some z=>
    rw[hs] at h
    refine vo p (C.pK hs ho) h ?_
    cases c with
    |row m sz A len cap e=>
     simp only[C.step] at hs
     split at hs
     ·rename_i hq
      injection hs with hs
      have:=(ho.2.2.1 _ _ hq.1 hq.2).2.1
      rw[hs] at this
      cases z with
      |ref=>exact this.elim
      |av=>exact this.elim
      |cut=>exact this.elim
      |ptr=>exact this.elim
      |agg=>exact this.elim
      |aq=>exact this.elim
      |fn=>exact this.elim
      |_=>trivial
     ·cases hs
    |ptr m g o n c=>
     simp only[C.step] at hs
     split at hs
     ·rename_i hq
      injection hs with hs
      rw[<-hs]
      exact hr _ hq.2
     ·cases hs
    |agg n c=>
     simp only[C.step] at hs
     split at hs
     ·rename_i hq
      injection hs with hs
      rw[<-hs]
      exact hr _ hq.2
     ·cases hs
    |aq n c=>
     simp only[C.step] at hs
     split at hs
     ·rename_i hq
      injection hs with hs
      rw[<-hs]
      exact hr _ hq.2
     ·cases hs
    |_=>simp[C.step] at hs
end Inv
end M
namespace M
open Go Go.RowKit
def Ext.setCell(w:World)(g k:Nat)(v:Value):Ext (λb i=>b=g/\i=k) w (w.setCell ⟨g,k,none⟩ v):=by
 refine⟨rfl,rfl,rfl,by simp[World.setCell],λb hb=>?_⟩;simp only[World.setCell,Jd];by_cases e:g=b
 ·subst e;rw[aA rfl];cases hh:w.heap[g]? with
  |none=>exact .inl rfl
  |some o=>
   cases o with
   |cells arr t fz=>
    refine .inr ⟨arr,arr.setIfInBounds k v,t,fz,rfl,?_,by simp,λi hi=>?_⟩;·simp
    ·rw[DN];intro e;exact hi ⟨rfl,e.symm⟩
   |_=>exact .inl (by simp)
 ·rw[aC e];exact .inl rfl
def EO(w:World)(g k:Nat)(v u:Value)(h:w.cell? ⟨g,k,none⟩=some u):(w.setCell ⟨g,k,none⟩ v).cell? ⟨g,k,none⟩=some v:=by
 simp only[World.cell?] at h⊢;simp only[World.setCell,Jd,aA];cases hh:w.heap[g]? with
 |none=>simp[hh] at h
 |some o=>
  cases o with
  |cells arr t fz=>
   simp[hh] at h⊢
   have hk:k<arr.size:=by
    rcases fA k arr.size with h'|h';·exact h'
    ·simp[ja h'] at h
   simp[hk]
  |_=>simp[hh] at h
def Ck{sz i j i' j':Nat}(hj:j<sz)(hj':j'<sz)(h:i*sz+j=i'*sz+j'):i=i'/\j=j':=by
 have h1:i=i':=by
  have e1:(i*sz+j) / sz=i:=by rw[l9,Nat.mul_add_div (by omega),Nat.div_eq_of_lt hj];rfl
  have e2:(i'*sz+j') / sz=i':=by rw[l9,Nat.mul_add_div (by omega),Nat.div_eq_of_lt hj'];rfl
  rw[<-e1,<-e2,h]
 subst h1;exact⟨rfl,by omega⟩
def Cj:∀(p q:Path),X.pfx p q=true->∃t,q=p++t
 |[],q,_=>⟨q,rfl⟩
 |x::p,[],h=>by simp[X.pfx] at h
 |x::p,y::q,h=>by simp only[X.pfx,au,cT] at h;obtain⟨⟨h1,h2⟩,h3⟩:=h;obtain⟨t,rfl⟩:=Cj p q h3;exact⟨t,by rw[gN];congr 1;cases x;cases y;simp only at h1 h2;rw[h1,h2]⟩
namespace C
variable {w:World}{Z:Md->Nat->Nat->Prop}
def uH:∀(p:Path) {c d o y:C} {x:Nat×Nat},c.sub p=some d->d.step x=some o->putAt (p++[x]) c y=putAt p c (d.aK x y)
 |[],c,d,o,y,x,h,hs=>by
  simp only[sub] at h;injection h with h
  subst h;simp[putAt,hs]
 |q::p,c,d,o,y,x,h,hs=>by
  simp only[sub] at h;cases hst:c.step q with
  |none=>rw[hst] at h;cases h
  |some z=>rw[hst] at h;simp only[gN,putAt,hst,uH p h hs]
def nQ:∀(p:Path) {c d o:C} {x:Nat×Nat},c.sub p=some d->d.step x=some o->c.sub (p++[x])=some o
 |[],c,d,o,x,h,hs=>by
  simp only[sub] at h;injection h with h
  subst h;simp[sub,hs]
 |q::p,c,d,o,x,h,hs=>by
  simp only[sub] at h;cases hst:c.step q with
  |none=>rw[hst] at h;cases h
  |some z=>rw[hst] at h;simp only[gN,sub,hst,jx];exact nQ p h hs
def zc:∀(p q:Path) {c d:C},c.sub p=some d->c.sub (p++q)=d.sub q
 |[],q,c,d,h=>by simp only[sub] at h;injection h with h;subst h;rfl
 |x::p,q,c,d,h=>by
  simp only[sub] at h;cases hst:c.step x with
  |none=>rw[hst] at h;cases h
  |some z=>rw[hst] at h;simp only[gN,sub,hst,jx];exact zc p q h
def RD{c z:C}{x:Nat×Nat}(h:c.step x=some z)(y:C):(c.aK x y).step x=some y:=by
 cases c with
 |row m sz A len cap e=>
  simp only[step] at h⊢;split at h;·rename_i hq;simp[aK,step,hq]
  ·cases h
 |ptr m g o n c=>
  simp only[step] at h⊢;split at h;·rename_i hq;simp[aK,step,hq,bg]
  ·cases h
 |agg n c=>
  simp only[step] at h⊢;split at h;·rename_i hq;simp[aK,step,hq,bg]
  ·cases h
 |aq n c=>
  simp only[step] at h⊢;split at h;·rename_i hq;simp[aK,step,hq,bg]
  ·cases h
 |_=>simp[step] at h
def zf:∀(p:Path) {c d d':C},c.sub p=some d->(putAt p c d').sub p=some d'
 |[],c,d,d',h=>rfl
 |q::p,c,d,d',h=>by
  simp only[sub] at h;cases hst:c.step q with
  |none=>rw[hst] at h;cases h
  |some z=>rw[hst] at h;simp only[putAt,hst,sub,RD hst,jx];exact zf p h
def HD{sz g o len cap:Nat}{e:Nat->Nat->C}{i j:Nat}{y:C}(h:(C.row .own sz (some (g,o,none)) len cap e).ok w Z)(hi:i<len)(hj:j<sz)(hy:y.ok w Z)(hc:y.cell)(hs:y.bX)
  (hZ:∀m k,¬Z m g k)(hd:∀b k,y.fp b k->¬(C.row .own sz (some (g,o,none)) len cap e).fp b k):
  ((C.row .own sz (some (g,o,none)) len cap e).aK (i,j) y).ok (w.setCell ⟨g,o+i*sz+j,none⟩ y.val) Z/\
   ∀b k,((C.row .own sz (some (g,o,none)) len cap e).aK (i,j) y).fp b k->(C.row .own sz (some (g,o,none)) len cap e).fp b k\/y.fp b k:=by
 have hE:=Ext.setCell w g (o+i*sz+j) y.val;have tg:∀m b k,Z m b k->¬(b=g/\k=o+i*sz+j):=λm b k hz hh=>by obtain⟨rfl,_⟩:=hh;exact hZ m k hz
 have gZ:∀i' j',i'<len->j'<sz->∀b k,(e i' j').fp b k->b≠g:=λi' j' hi' hj' b k hf hb=>by subst hb;exact(h.2.2.2.2 i' j' hi' hj' b k hf).1 rfl o rfl
 have tL:∀b k,y.fp b k->b≠g:=λb k hf hb=>by subst hb;exact hd b k hf ⟨rfl,.inl ⟨o,rfl⟩⟩
 obtain⟨h1,h2,h3,h4,h5⟩:=h;refine⟨⟨h1,λi' j' hi' hj'=>?_,λi' j' hi' hj'=>?_,λ_=>?_,λi' j' hi' hj' b k hf=>?_⟩,λb k hf=>?_⟩
 ·obtain⟨g',o',hA,hcell,hz⟩:=h2 i' j' hi' hj';injection hA with hA
  injection hA with e1 e2
  injection e2 with e2
  subst e1;subst e2;refine⟨g,o,rfl,?_,hz⟩;show _=some (if i'=i/\j'=j then y else e i' j').val;by_cases hij:i'=i/\j'=j;·obtain⟨rfl,rfl⟩:=hij;rw[aA ⟨rfl,rfl⟩];exact EO w g _ _ _ hcell
  ·rw[aC hij];refine hE.cell (λhh=>hij ?_) hcell;exact Ck hj' hj (by omega)
 ·show (if i'=i/\j'=j then y else e i' j').cell/\(if i'=i/\j'=j then y else e i' j').bX/\(if i'=i/\j'=j then y else e i' j').fits .own/\(if i'=i/\j'=j then y else e i' j').ok _ Z;by_cases hij:i'=i/\j'=j;·rw[aA hij];refine⟨hc,hs,?_,dF hE tg _ (λb k hf hh=>tL b k hf hh.1) hy⟩;cases y<;>first|trivial|exact .inl rfl
  ·rw[aC hij];obtain⟨a1,a2,a3,a4⟩:=h3 i' j' hi' hj';exact⟨a1,a2,a3,dF hE tg _ (λb k hf hh=>gZ i' j' hi' hj' b k hf hh.1) a4⟩
 ·rcases h4 rfl with h|⟨g',o',arr,t,fz,hA,hh,hsz,hfr⟩;·exact .inl h
  ·injection hA with hA
   injection hA with e1 e2
   injection e2 with e2
   subst e1;subst e2;have hg:g<w.heap.size:=(gQ.1 hh).1;rcases hE.block g hg with e'|⟨a1,a2,t',ji,e1,e2,e3,e4⟩;·exact .inr ⟨g,o,arr,t,fz,rfl,e'.trans hh,hsz,λk hk hk'=>(hE.frozen hg).trans (hfr k hk hk')⟩
   ·rw[hh] at e1;injection e1 with e1
    injection e1 with q1 q2 q3
    subst q1;exact .inr ⟨g,o,a2,t',ji,rfl,e2,by omega,λk hk hk'=>(hE.frozen hg).trans (hfr k hk hk')⟩
 ·have hf':(if i'=i/\j'=j then y else e i' j').fp b k:=hf;by_cases hij:i'=i/\j'=j
  ·rw[aA hij] at hf';refine⟨λ_ o' hA=>?_,λi2 j2 hi2 hj2 hne=>?_⟩
   ·injection hA with hA
    injection hA with e1 e2
    exact tL b k hf' e1.symm
   ·show ¬(if i2=i/\j2=j then y else e i2 j2).fp b k;rw[aC (λhh=>hne (by rw[hij.1,hij.2,hh.1,hh.2]))];intro hk;exact hd b k hf' (gJ (h3 i2 j2 hi2 hj2).1 (h3 i2 j2 hi2 hj2).2.2.1 hi2 hj2 hk)
  ·rw[aC hij] at hf';refine⟨(h5 i' j' hi' hj' b k hf').1,λi2 j2 hi2 hj2 hne=>?_⟩;show ¬(if i2=i/\j2=j then y else e i2 j2).fp b k;by_cases hij2:i2=i/\j2=j;·rw[aA hij2];intro hk;exact hd b k hk (gJ (h3 i' j' hi' hj').1 (h3 i' j' hi' hj').2.2.1 hi' hj' hf')
   ·rw[aC hij2];exact(h5 i' j' hi' hj' b k hf').2 i2 j2 hi2 hj2 hne
 ·obtain⟨_,hf|⟨i',j',hi',hj',hf⟩⟩:=hf;·exact .inl ⟨rfl,.inl hf⟩
  ·have hf':(if i'=i/\j'=j then y else e i' j').fp b k:=hf;by_cases hij:i'=i/\j'=j;·rw[aA hij] at hf';exact .inr hf'
   ·rw[aC hij] at hf';exact .inl (gJ (h3 i' j' hi' hj').1 (h3 i' j' hi' hj').2.2.1 hi' hj' hf')
def Hr{g o n:Nat}{c:Nat->C}{j:Nat}{y:C}(h:(C.ptr .own g o n c).ok w Z)(hj:j<n)(hy:y.ok w Z)(hc:y.cell)
  (hZ:∀m k,o<=k->k<o+n->¬Z m g k)(hd:∀b k,y.fp b k->¬(C.ptr .own g o n c).fp b k):
  ((C.ptr .own g o n c).aK (0,j) y).ok (w.setCell ⟨g,o+j,none⟩ y.val) Z/\
   ∀b k,((C.ptr .own g o n c).aK (0,j) y).fp b k->(C.ptr .own g o n c).fp b k\/y.fp b k:=by
 have hE:=Ext.setCell w g (o+j) y.val;have tg:∀m b k,Z m b k->¬(b=g/\k=o+j):=λm b k hz hh=>by obtain⟨rfl,rfl⟩:=hh;exact hZ m _ (by omega) (by omega) hz
 have gZ:∀j',j'<n->∀b k,(c j').fp b k->¬(b=g/\k=o+j):=λj' hj' b k hf hb=>by exact(h.2.2.2 j' hj' b k hf).1 rfl ⟨hb.1,by omega,by omega⟩
 have tL:∀b k,y.fp b k->¬(b=g/\o<=k/\k<o+n):=λb k hf hb=>hd b k hf ⟨rfl,.inl hb⟩;obtain⟨h1,h2,h3,h4⟩:=h;refine⟨⟨λj' hj'=>?_,iy h2 hE.size,λj' hj'=>?_,λj' hj' b k hf=>?_⟩,λb k hf=>?_⟩
 ·obtain⟨a1,a2,a3⟩:=h1 j' hj';refine⟨?_,a2,λhm=>(hE.frozen h2).trans (a3 hm)⟩;simp only[bg];by_cases hij:j'=j;·subst hij;rw[aA rfl];exact EO w g _ _ _ a1
  ·rw[aC hij];exact hE.cell (λhh=>hij (by omega)) a1
 ·simp only[bg];by_cases hij:j'=j;·rw[aA hij];refine⟨hc,?_,dF hE tg _ (λb k hf hh=>tL b k hf ⟨hh.1,by omega,by omega⟩) hy⟩;cases y<;>first|trivial|exact .inl rfl
  ·rw[aC hij];obtain⟨a1,a3,a4⟩:=h3 j' hj';exact⟨a1,a3,dF hE tg _ (λb k hf hh=>gZ j' hj' b k hf hh) a4⟩
 ·simp only[bg] at hf⊢;by_cases hij:j'=j;·rw[aA hij] at hf;refine⟨λ_ hA=>tL b k hf hA,λj2 hj2 hne=>?_⟩;rw[aC (λhh=>hne (by rw[hij,hh]))];intro hk;exact hd b k hf (ia (h3 j2 hj2).1 (h3 j2 hj2).2.1 hj2 hk)
  ·rw[aC hij] at hf;refine⟨λ_=>(h4 j' hj' b k hf).1 rfl,λj2 hj2 hne=>?_⟩;by_cases hij2:j2=j;·rw[aA hij2];intro hk;exact hd b k hk (ia (h3 j' hj').1 (h3 j' hj').2.1 hj' hf)
   ·rw[aC hij2];exact(h4 j' hj' b k hf).2 j2 hj2 hne
 ·obtain⟨_,hf|⟨j',hj',hf⟩⟩:=hf;·exact .inl ⟨rfl,.inl hf⟩
  ·simp only[bg] at hf;by_cases hij:j'=j;·rw[aA hij] at hf;exact .inr hf
   ·rw[aC hij] at hf;exact .inl (ia (h3 j' hj').1 (h3 j' hj').2.1 hj' hf)
end C
inductive dn (d:C) (i c:Nat) (y:C):Nat->Nat->Prop where
 |row {sz g o len cap e} (h:d=.row .own sz (some (g,o,none)) len cap e) (hi:i<len) (hc:c<sz) (hs:y.bX):dn d i c y g (o+i*sz+c)
 |ptr {g o n f} (h:d=.ptr .own g o n f) (hi:i=0) (hc:c<n):dn d i c y g (o+c)
def dn.off(f:Nat->Path->Bool){d y:C}{i c g k:Nat}(h:dn d i c y g k):dn (d.ak f) i c y g k:=by
 cases h with
 |row h hi hc hs=>subst h;exact .row rfl hi hc hs
 |ptr h hi hc=>subst h;exact .ptr rfl hi hc
def dn.aK{d y y0 z:C}{i c g k i' c' g' k':Nat}(h:dn d i c y g k)(h':dn d i' c' y0 g' k'):dn (d.aK (i,c) z) i' c' y0 g' k':=by
 cases h' with
 |row h' hi' gG hs'=>subst h';exact .row rfl hi' gG hs'
 |ptr h' hi' gG=>subst h';exact .ptr rfl hi' gG
namespace Inv
variable {w w':World}{zl zb:Nat->Nat->Prop}{G:Nat->C}{s:af}
def store(h:Inv w zl zb G s)(r:Nat)(p:Path)(i c:Nat)(d y:C)(g k:Nat)(hsub:(G r).sub p=some d)(hsp:dn d i c y g k)(hy:y.ok w (Zf zl zb))(hcell:y.cell)(hrf:y.rf G)
  (hsep:∀t b k,y.fp b k->¬(G t).fp b k)(hfz:∀b k,y.fp b k->¬zl b k/\¬zb b k):
  ∃G',Inv (w.setCell ⟨g,k,none⟩ y.val) zl zb G' (setCell r p i c y.er s)/\(∀t,(G' t).val=(G t).val)/\(∀t b k,(G' t).fp b k->y.fp b k\/(G t).fp b k)/\d.fp g k/\(∃v,w.cell? ⟨g,k,none⟩=some v)/\w.frozen? ⟨g,k,none⟩=false/\
   (∀c':C,c'.rf G->(bif kH r p i c s then c'.ak (C.aV r (p++[(i,c)])) else c').rf G')/\
   ∃d',(G' r).sub p=some d'/\∀i' c' y' g' k',dn d i' c' y' g' k'->dn d' i' c' y' g' k':=by
 have qy:=C.eO p hsub (h.ok r)
 obtain⟨old,hold⟩:∃old,d.step (i,c)=some old:=by
  cases hsp with
  |row hd hi hc hs=>subst hd;exact⟨_,aA (And.intro hi hc)⟩
  |ptr hd hi hc=>subst hd;exact⟨_,aA (And.intro hi hc)⟩
 have Bq:d.fp g k:=by
  cases hsp with
  |row hd hi hc hs=>subst hd;exact⟨rfl,.inl ⟨_,rfl⟩⟩
  |ptr hd hi hc=>subst hd;exact⟨rfl,.inl ⟨rfl,by omega,by omega⟩⟩
 have dc:∀{b k},d.fp b k->(G r).fp b k:=λhf=>C.eu p hsub (h.ok r) hf;have w9:∀m b k,d.fp b k->¬Zf zl zb m b k:=λm b k hf hz=>h.sB r m b k hz (dc hf);have tJ:∀b k,y.fp b k->¬d.fp b k:=λb k hf hd=>hsep r b k hf (dc hd)
 have hnew:(d.aK (i,c) y).ok (w.setCell ⟨g,k,none⟩ y.val) (Zf zl zb)/\∀b k,(d.aK (i,c) y).fp b k->d.fp b k\/y.fp b k:=by
  cases hsp with
  |row hd hi hc hs=>subst hd;exact C.HD qy hi hc hy hcell hs (λm k hz=>w9 m _ k ⟨rfl,.inl ⟨_,rfl⟩⟩ hz) tJ
  |ptr hd hi hc=>subst hd;subst hi;exact C.Hr qy hc hy hcell (λm k h1 h2 hz=>w9 m _ k ⟨rfl,.inl ⟨rfl,h1,h2⟩⟩ hz) tJ
 have hread:(∃v,w.cell? ⟨g,k,none⟩=some v)/\w.frozen? ⟨g,k,none⟩=false:=by
  cases hsp with
  |row hd hi hc hs=>
   rename_i sz o len cap e;subst hd;obtain⟨h1,h2,h3,h4,h5⟩:=qy;obtain⟨g',o',hA,hcl,_⟩:=h2 i c hi hc;injection hA with hA
   injection hA with e1 e2
   injection e2 with e2
   subst e1;subst e2;refine⟨⟨_,hcl⟩,?_⟩;rcases h4 rfl with ⟨hn,_⟩|⟨g',o',arr,t,fz,hA,hh,hsz,hfr⟩;·cases hn
   ·injection hA with hA
    injection hA with e1 e2
    injection e2 with e2
    subst e1;subst e2;refine hfr _ (by omega) ?_;have:(i+1)*sz<=cap*sz:=j0 _ (by omega);rw[dx] at this;omega
  |ptr hd hi hc=>subst hd;obtain⟨a1,_,a3⟩:=qy.1 c hc;exact⟨⟨_,a1⟩,a3 rfl⟩
 have hE:=Ext.setCell w g k y.val;have hS:∀b i',b=g/\i'=k->d.fp b i'\/w.heap.size<=b:=λb i' hh=>.inl (by rw[hh.1,hh.2];exact Bq);have hq:=C.nQ p hsub hold;have Oj:look s r (p++[(i,c)])=some old.er:=by simp only[look];rw[<-h.er,C.ep,hq];rfl
 have like:∀(d:C) (y:C),C.eP d (d.aK (i,c) y)\/(∃n f,d=.agg n f)\/(∃n f,d=.aq n f):=by
  intro d y;cases d with
  |row=>exact .inl ⟨rfl,λh=>h,λh=>h,λh=>h,λ_ h=>h⟩
  |ptr=>exact .inl ⟨rfl,λh=>h,λh=>h,λh=>h,λ_ h=>h⟩
  |agg n f=>exact .inr (.inl ⟨n,f,rfl⟩)
  |aq n f=>exact .inr (.inr ⟨n,f,rfl⟩)
  |_=>exact .inl ⟨rfl,λh=>h,λh=>h,λh=>h,λ_ h=>h⟩
 have mX:∀y,C.eP d (d.aK (i,c) y):=by
  intro y;rcases like d y with hl|⟨n,f,hd⟩|⟨n,f,hd⟩;·exact hl
  ·cases hsp with
   |row hd'=>rw[hd] at hd';cases hd'
   |ptr hd'=>rw[hd] at hd';cases hd'
  ·cases hsp with
   |row hd'=>rw[hd] at hd';cases hd'
   |ptr hd'=>rw[hd] at hd';cases hd'
 have qB:kH r p i c s=old.er.fo:=by unfold kH;rw[Oj]
 unfold setCell;rw[qB];cases hr:old.er.fo with
 |false=>
  have hno:∀c':C,c'.rf G->c'.free (C.aV r (p++[(i,c)])):=by
   intro c'
   have none:∀(q:Path) (z:C),X.pfx (p++[(i,c)]) q=true->(G r).sub q=some z->(∀m sz A len cap e,z≠.row m sz A len cap e)/\∀m g o n f,z≠.ptr m g o n f:=by
    intro q z hp hz;obtain⟨q',rfl⟩:=Cj _ _ hp;rw[C.zc _ _ hq] at hz;cases q' with
    |nil=>
     simp only[C.sub] at hz;injection hz with hz
     subst hz;constructor;·intro m sz A len cap e e';rw[e'] at hr;simp[C.er,X.fo] at hr
     ·intro m g o n f e';rw[e'] at hr;simp[C.er,X.fo] at hr
    |cons x q'=>cases old<;>first|(simp[C.er,X.fo] at hr;done)|(simp[C.sub,C.step] at hz;done)
   induction c' with
   |ref v r' q=>
    intro hrf;obtain⟨y,z,hs,hF,hv,m,sz,A,len,cap,e,rfl⟩:=hrf;simp only[C.free,C.aV];cases hk:(r'==r && X.pfx (p++[(i,c)]) q) with
    |false=>rfl
    |true=>simp only[au,cT] at hk;obtain⟨rfl,hk⟩:=hk;cases hF;exact((none q _ hk hs).1 _ _ _ _ _ _ rfl).elim
   |av v r' q i' c'=>
    intro hrf;obtain⟨y,hs,hy⟩:=hrf;simp only[C.free,C.aV];cases hk:(r'==r && X.pfx (p++[(i,c)]) q) with
    |false=>rfl
    |true=>
     simp only[au,cT] at hk;obtain⟨rfl,hk⟩:=hk;rcases hy with ⟨m,sz,g,o,len,cap,e,rfl,hv⟩|⟨m,g,o,n,cc,rfl,hv⟩;·exact((none q _ hk hs).1 _ _ _ _ _ _ rfl).elim
     ·exact((none q _ hk hs).2 _ _ _ _ _ rfl).elim
   |cut v r' q lo hi=>
    intro hrf;obtain⟨m,sz,A,len,cap,e,A',cap',hs,_⟩:=hrf;simp only[C.free,C.aV];cases hk:(r'==r && X.pfx (p++[(i,c)]) q) with
    |false=>rfl
    |true=>simp only[au,cT] at hk;obtain⟨rfl,hk⟩:=hk;exact((none q _ hk hs).1 _ _ _ _ _ _ rfl).elim
   |ptr m g o n f ih=>exact λhrf j hj=>ih j (hrf j hj)
   |agg n f ih=>exact λhrf j hj=>ih j (hrf j hj)
   |aq n f ih=>exact λhrf j hj=>ih j (hrf j hj)
   |fn _ n f ih=>exact λhrf j hj=>ih j (hrf j hj)
   |_=>exact λ_=>trivial
  obtain⟨⟨i1,i2,i3⟩,i4⟩:=h.yZ r p (p++[(i,c)]) d (d.aK (i,c) y) y (C.uH p hsub hold) (λt=>hno _ (h.rf t)) hE hsub hS hnew.1 (mX y) hrf (hno _ hrf)
   (λb k hf=>(hnew.2 b k hf).imp id λhf=>⟨λt=>hsep t b k hf,hfz b k hf⟩)
  refine⟨_,i1,i2,λt b k hf=>?_,Bq,hread.1,hread.2,λc' hr=>i4 c' (hno c' hr) hr,_,by rw[cu];exact C.zf p hsub,λi' c' y' g' k' hs=>dn.aK hsp hs⟩;rcases i3 t b k hf with ⟨ht,hf'⟩|hf';·subst ht;exact(hnew.2 b k hf').symm.imp id dc
  ·exact .inr hf'
 |true=>
  have h1:=h.kill r (p++[(i,c)]);let f:=C.aV r (p++[(i,c)]);have BF:((G r).ak f).sub p=some (d.ak f):=C.fK f p _ _ (h.ok r) hsub;have Ot:(d.ak f).step (i,c)=some (old.ak f):=by have:=C.fK f [(i,c)] d old qy (by simp[C.sub,hold]);simpa [C.sub] using this
  have hval:∀b k,(y.ak f).fp b k↔y.fp b k:=λb k=>C.bK f y b k
  have hnew1:((d.ak f).aK (i,c) (y.ak f)).ok (w.setCell ⟨g,k,none⟩ y.val) (Zf zl zb)/\∀b k,((d.ak f).aK (i,c) (y.ak f)).fp b k->(d.ak f).fp b k\/(y.ak f).fp b k:=by
   have Gu:∀b k,(y.ak f).fp b k->¬(d.ak f).fp b k:=λb k hf hd=>tJ b k ((hval b k).1 hf) ((C.bK f d b k).1 hd);have Gf:=C.jo f d qy;have hy1:=C.jo f y hy;have hc1:=C.yb f y hcell;rw[<-C.fL f y];cases hsp with
   |row hd hi hc hs=>subst hd;have e1:C.ak f y=y:=C.q5 f y hs;exact C.HD Gf hi hc hy1 hc1 (by rw[e1];exact hs) (λm k hz=>w9 m _ k ⟨rfl,.inl ⟨_,rfl⟩⟩ hz) Gu
   |ptr hd hi hc=>subst hd;subst hi;exact C.Hr Gf hc hy1 hc1 (λm k h1 h2 hz=>w9 m _ k ⟨rfl,.inl ⟨rfl,h1,h2⟩⟩ hz) Gu
  have Oh:C.eP (d.ak f) ((d.ak f).aK (i,c) (y.ak f)):=by
   rcases like (d.ak f) (y.ak f) with hl|⟨n,f',hd⟩|⟨n,f',hd⟩;·exact hl
   ·cases hsp with
    |row hd'=>rw[hd'] at hd;cases hd
    |ptr hd'=>rw[hd'] at hd;cases hd
   ·cases hsp with
    |row hd'=>rw[hd'] at hd;cases hd
    |ptr hd'=>rw[hd'] at hd;cases hd
  have OC:(y.ak f).rf λt=>(G t).ak f:=C.iV f (λs' q z hk hs=>by
   rcases C.self z _ q hs with ⟨z',dR,hs'⟩|hno;·exact .inl ⟨_,dR.off f,C.fK f q _ _ (h.ok s') hs'⟩
   ·exact .inr hno) _ (C.en f _) (C.jS f _ hrf)
  obtain⟨⟨i1,i2,i3⟩,i4⟩:=h1.yZ r p (p++[(i,c)]) (d.ak f) _ (y.ak f) (C.uH p BF Ot) (λt=>C.en _ _) hE BF (λb k hh=>(hS b k hh).imp (λhh=>(C.bK f d b k).2 hh) id) hnew1.1 Oh OC (C.en _ _)
   (λb k hf=>(hnew1.2 b k hf).imp id λhf=>⟨λt hf'=>hsep t b k ((hval b k).1 hf) ((C.bK f _ b k).1 hf'),hfz b k ((hval b k).1 hf)⟩)
  rw[C.kB] at i1
  refine⟨_,i1,λt=>(i2 t).trans (C.fL f _),λt b k hf=>?_,Bq,hread.1,hread.2,λc' hr=>i4 _ (C.en f c') (C.iV f (λs' q z hk hs=>by
   rcases C.self z _ q hs with ⟨z',dR,hs'⟩|hno;·exact .inl ⟨_,dR.off f,C.fK f q _ _ (h.ok s') hs'⟩
   ·exact .inr hno) _ (C.en f _) (C.jS f _ hr)),_,by rw[cu];exact C.zf p BF,λi' c' y' g' k' hs=>dn.aK (dn.off f hsp) (dn.off f hs)⟩
  rcases i3 t b k hf with ⟨ht,hf'⟩|hf'
  ·subst ht;rcases hnew1.2 b k hf' with hf'|hf';·exact .inr (dc ((C.bK f d b k).1 hf'))
   ·exact .inl ((hval b k).1 hf')
  ·exact .inr ((C.bK f _ b k).1 hf')
end Inv
end M
namespace M
open Go Go.RowKit
structure Ctx where
 w0:World
 F0:Nat->Nat->Prop
 kX:Nat->Nat->Prop
 zb:Nat->Nat->Prop
 nt:Nat
 args:List Value
abbrev base:Nat:=100000
structure Tr [B:Bs] (c:Ctx) (w:World) (zl:Nat->Nat->Prop) (G:Nat->C):Prop where
 ext:Ext c.F0 c.w0 w
 dom:∀t b k,(G t).fp b k->c.F0 b k\/c.w0.heap.size<=b
 kX:∀b k,c.kX b k->zl b k
 zl:∀b k,zl b k->c.kX b k\/c.F0 b k\/c.w0.heap.size<=b
 gl:vS c.w0 c.kX c.zb
 tc:∀b k,b<B.W0.heap.size->¬c.F0 b k
structure St [Bs] (c:Ctx) (G:Nat->C) (zl:Nat->Nat->Prop) (s:af) (a:Act) (w:World):Prop where
 inv:Inv w zl c.zb G s
 val:∀t,t<base->(G t).val=a.tmps.getD t undef
 size:a.tmps.size=c.nt
 small:c.nt<=base
 defers:a.defers=[]
 tr:Tr c w zl G
 args:∀i v,c.args[i]?=some v->(G (base+i)).val=v
namespace C
def fC(n:Nat)(p:Path):C->C
 |.row .own sz A len cap e=>.ref (C.row .own sz A len cap e).val n p
 |.ptr .own g o m c=>.av (C.ptr .own g o m c).val n p 0 0
 |x=>x
def eE(n:Nat)(p:Path):C->C
 |.agg m c=>.agg m λj=>(c j).fC n (p++[(0,j)])
 |x=>x.fC n p
def alias(n:Nat)(p:Path):C->C
 |.aq m c=>.aq m λj=>(c j).eE n (p++[(0,j)])
 |x=>x.eE n p
def z8(n:Nat)(p:Path)(c:C):(c.fC n p).er=M.fC n p c.er:=by
 cases c with
 |row m=>cases m<;>rfl
 |ptr m=>cases m<;>rfl
 |_=>rfl
def p8(n:Nat)(p:Path)(i:Nat):∀(l:List Nat) (k:Nat) (f:Nat->C),l=(List.range l.length).map (· +k)->M.oa n p i k (l.map λj=>(f j).er)=l.map λj=>((f j).fC n (p++[(i,j)])).er
 |[],k,f,h=>rfl
 |x::l,k,f,h=>by
  have hx:x=k:=by simp only[cw,vJ,aS,j6] at h;exact(zK h).1
  have hl:l=(List.range l.length).map (· +(k+1)):=by simp only[cw,vJ,aS,j6,bT] at h;have:=(zK h).2;rw[this];simp only[cM,pX];apply bn;intro j _;show j+1+k=j+(k+1);omega
  simp only[aS,M.oa];rw[p8 n p i l (k+1) f hl,z8,hx]
def Hv(m:Nat):List.range m=(List.range (List.range m).length).map (· +0):=by simp
def vW(n:Nat)(p:Path)(c:C):(c.eE n p).er=M.eE n p c.er:=by
 cases c with
 |agg m c=>simp only[eE,er,M.eE];rw[p8 n p 0 (List.range m) 0 c (Hv m)]
 |row m=>exact z8 n p _
 |ptr m=>exact z8 n p _
 |_=>rfl
def DZ(n:Nat)(p:Path):∀(l:List Nat) (k:Nat) (f:Nat->C),l=(List.range l.length).map (· +k)->M.sL n p k (l.map λj=>(f j).er)=l.map λj=>((f j).eE n (p++[(0,j)])).er
 |[],k,f,h=>rfl
 |x::l,k,f,h=>by
  have hx:x=k:=by simp only[cw,vJ,aS,j6] at h;exact(zK h).1
  have hl:l=(List.range l.length).map (· +(k+1)):=by simp only[cw,vJ,aS,j6,bT] at h;have:=(zK h).2;rw[this];simp only[cM,pX];apply bn;intro j _;show j+1+k=j+(k+1);omega
  simp only[aS,M.sL];rw[DZ n p l (k+1) f hl,vW,hx]
def D6(n:Nat)(p:Path)(c:C):(c.alias n p).er=M.alias n p c.er:=by
 cases c with
 |aq m c=>simp only[alias,er,M.alias];rw[DZ n p (List.range m) 0 c (Hv m)]
 |row m sz A len cap e=>exact vW n p (.row m sz A len cap e)
 |ptr m g o k c=>exact vW n p (.ptr m g o k c)
 |agg m c=>exact vW n p (.agg m c)
 |_=>rfl
def sK(n:Nat)(p:Path)(c:C):(c.fC n p).val=c.val:=by
 cases c with
 |row m=>cases m<;>rfl
 |ptr m=>cases m<;>rfl
 |_=>rfl
def vX(n:Nat)(p:Path)(c:C):(c.eE n p).val=c.val:=by
 cases c with
 |agg m c=>simp only[eE,val];congr 2;exact bn λj _=>sK _ _ _
 |row m=>exact sK n p _
 |ptr m=>exact sK n p _
 |_=>rfl
def D7(n:Nat)(p:Path)(c:C):(c.alias n p).val=c.val:=by
 cases c with
 |aq m c=>simp only[alias,val];congr 2;exact bn λj _=>vX _ _ _
 |row m sz A len cap e=>exact vX n p (.row m sz A len cap e)
 |ptr m g o k c=>exact vX n p (.ptr m g o k c)
 |agg m c=>exact vX n p (.agg m c)
 |_=>rfl
variable {w:World}{Z:Md->Nat->Nat->Prop}{G:Nat->C}
def sH(n:Nat)(p:Path)(c:C)(hc:(∀m f,c≠.agg m f)/\∀m f,c≠.aq m f)(b k:Nat):¬(c.fC n p).fp b k:=by
 cases c with
 |row m=>cases m<;>first|exact λh=>h|exact λh=>by cases h.1
 |ptr m=>cases m<;>first|exact λh=>h|exact λh=>by cases h.1
 |agg m f=>exact(hc.1 m f rfl).elim
 |aq m f=>exact(hc.2 m f rfl).elim
 |_=>exact λh=>h
def Aw{c:C}(h:c.cell):(∀m f,c≠.agg m f)/\∀m f,c≠.aq m f:=by constructor<;>(intro m f e;subst e;exact h)
def sI(n:Nat)(p:Path)(c:C)(h:c.ok w Z):(c.fC n p).ok w Z:=by
 cases c with
 |row m=>cases m<;>first|trivial|exact h
 |ptr m=>cases m<;>first|trivial|exact h
 |_=>exact h
def z7(n:Nat)(p:Path)(c:C)(h:c.cell):(c.fC n p).cell:=by
 cases c with
 |row m=>cases m<;>first|rfl|exact h
 |ptr m=>cases m<;>first|rfl|exact h
 |_=>exact h
def sJ(n:Nat)(p:Path)(c:C)(hs:(G n).sub p=some c)(h:c.rf G):(c.fC n p).rf G:=by
 cases c with
 |row m sz A len cap e=>cases m<;>first|exact⟨_,_,hs,.row .own .own sz A len cap e e,rfl,_,_,_,_,_,_,rfl⟩|trivial
 |ptr m g o k c=>cases m<;>first|exact⟨_,hs,.inr ⟨_,_,_,_,_,rfl,rfl,by simp[val]⟩⟩|exact h
 |_=>exact h
def GW{n:Nat}{f:Nat->C}(h:∀j,j<n->∀b k,¬(f j).fp b k):∀j,j<n->∀b k,(f j).fp b k->∀j',j'<n->j≠j'->¬(f j').fp b k:=λj hj b k hf=>(h j hj b k hf).elim
def vV(n:Nat)(p:Path)(c:C)(hnt:∀m f,c≠.aq m f)(hs:(G n).sub p=some c)(ho:c.ok w Z)(hr:c.rf G):(c.eE n p).ok w Z/\(c.eE n p).rf G/\∀b k,¬(c.eE n p).fp b k:=by
 cases c with
 |agg m f=>have bu:∀j,j<m->∀b k,¬((f j).fC n (p++[(0,j)])).fp b k:=λj hj=>sH _ _ _ (Aw (ho.1 j hj).1);refine⟨⟨λj hj=>⟨z7 _ _ _ (ho.1 j hj).1,sI _ _ _ (ho.1 j hj).2⟩,GW bu⟩,λj hj=>sJ _ _ _ ?_ (hr j hj),λb k ⟨j,hj,hf⟩=>bu j hj b k hf⟩;exact nQ p hs (by simp[step,hj])
 |aq m f=>exact(hnt m f rfl).elim
 |row m sz A len cap e=>exact⟨sI n p _ ho,sJ n p _ hs hr,sH n p _ ⟨λ_ _ e=>(by cases e),λ_ _ e=>(by cases e)⟩⟩
 |ptr m g o k c=>exact⟨sI n p _ ho,sJ n p _ hs hr,sH n p _ ⟨λ_ _ e=>(by cases e),λ_ _ e=>(by cases e)⟩⟩
 |_=>exact⟨ho,hr,λb k hf=>hf⟩
def J6(n:Nat)(p:Path)(c:C)(h:c.dV):(c.eE n p).dV:=by
 cases c with
 |aq=>exact h.elim
 |row m=>cases m<;>trivial
 |ptr m=>cases m<;>trivial
 |_=>trivial
def D0(n:Nat)(c:C)(hs:G n=c)(ho:c.ok w Z)(hr:c.rf G):(c.alias n []).ok w Z/\(c.alias n []).rf G/\∀b k,¬(c.alias n []).fp b k:=by
 have hs':(G n).sub []=some c:=by rw[hs];rfl
 cases c with
 |aq m f=>
  have key:∀j,j<m->((f j).eE n ([]++[(0,j)])).ok w Z/\((f j).eE n ([]++[(0,j)])).rf G/\∀b k,¬((f j).eE n ([]++[(0,j)])).fp b k:=λj hj=>
   vV n _ (f j) (λm' f' e=>by have:=(ho.1 j hj).1;rw[e] at this;exact this) (nQ [] hs' (by simp[step,hj])) (ho.1 j hj).2 (hr j hj)
  refine⟨⟨λj hj=>⟨?_,(key j hj).1⟩,GW λj hj=>(key j hj).2.2⟩,λj hj=>(key j hj).2.1,λb k ⟨j,hj,hf⟩=>(key j hj).2.2 b k hf⟩;exact J6 _ _ _ (ho.1 j hj).1
 |row m sz A len cap e=>exact vV n [] _ (λ_ _ e=>(by cases e)) hs' ho hr
 |ptr m g o k c=>exact vV n [] _ (λ_ _ e=>(by cases e)) hs' ho hr
 |agg m c=>exact vV n [] _ (λ_ _ e=>(by cases e)) hs' ho hr
 |_=>exact⟨ho,hr,λb k hf=>hf⟩
end C
end M
namespace M
open Go Go.RowKit
variable [Bs]
namespace C
def plain:C->Prop
 |.dead v=>v.oneCell'=true
 |.int _ _=>True
 |.bool _=>True
 |.str _=>True
 |.row _ _ _ _ _ _=>True
 |_=>False
def iT{c:C}(h:c.plain):c.cell:=by cases c<;>first|exact h|exact h.elim
def uF{c:C}(h:c.plain):c.bX:=by cases c<;>first|exact h|exact h.elim|trivial
def kJ{c:C}(h:c.plain)(G:Nat->C):c.rf G:=by cases c<;>first|exact h.elim|trivial
def Cm{c:C}(h:c.plain)(t:Nat->Path->Bool):c.ak t=c:=q5 t c (uF h)
def P5(t:Nat->Path->Bool)(v:Value)(s:Nat)(q:Path)(x:Nat×Nat):(C.ak t (.ref v s q)).step x=none:=by simp only[ak];cases t s q<;>rfl
def PZ(t:Nat->Path->Bool)(v:Value)(s:Nat)(q:Path)(i c:Nat)(x:Nat×Nat):(C.ak t (.av v s q i c)).step x=none:=by simp only[ak];cases t s q<;>rfl
def P0(t:Nat->Path->Bool)(v:Value)(s:Nat)(q:Path)(i c:Nat)(x:Nat×Nat):(C.ak t (.cut v s q i c)).step x=none:=by simp only[ak];cases t s q<;>rfl
def HY{c z:C}{x:Nat×Nat}(h:c.step x=some z)(y:C):(c.aK x y).step x=some y:=by
 cases c with
 |row m sz A len cap e=>
  simp only[step] at h⊢;split at h;·rename_i hq;simp[aK,step,hq]
  ·cases h
 |ptr m g o n c=>
  simp only[step] at h⊢;split at h;·rename_i hq;simp[aK,step,hq,bg]
  ·cases h
 |agg n c=>
  simp only[step] at h⊢;split at h;·rename_i hq;simp[aK,step,hq,bg]
  ·cases h
 |aq n c=>
  simp only[step] at h⊢;split at h;·rename_i hq;simp[aK,step,hq,bg]
  ·cases h
 |_=>simp[step] at h
def H6:∀(p q:Path) (c d y:C),c.sub p=some d->(putAt p c (.dead d.val)).sub q=some y->∃y',c.sub q=some y'/\y'.val=y.val/\(y'.plain->y.plain)
 |[],[],c,d,y,h,hy=>by
  simp only[sub] at h;injection h with h
  subst h;simp only[putAt,sub] at hy;injection hy with hy
  subst hy;exact⟨_,rfl,rfl,λhp=>Inv.mI (iT hp)⟩
 |[],q::t,c,d,y,h,hy=>by simp[putAt,sub,step] at hy
 |x::p,[],c,d,y,h,hy=>by
  simp only[sub] at h;cases hst:c.step x with
  |none=>rw[hst] at h;cases h
  |some z=>
   rw[hst] at h;simp only[putAt,hst,sub] at hy;injection hy with hy
   subst hy;have hv:=(G9 p z d h);exact⟨c,rfl,((eP.aK c x z _ hst hv).val).symm,λhp=>by cases c<;>first|exact hp.elim|trivial|(simp[step] at hst)⟩
 |x::p,q::t,c,d,y,h,hy=>by
  simp only[sub] at h;cases hst:c.step x with
  |none=>rw[hst] at h;cases h
  |some z=>
   rw[hst] at h;simp only[putAt,hst] at hy;simp only[sub] at hy⊢;by_cases tI:x=q;·subst tI;rw[hst];have hs:(c.aK x (putAt p z (.dead d.val))).step x=some (putAt p z (.dead d.val)):=HY hst _;rw[hs] at hy;exact H6 p t z d y h hy
   ·have hs:(c.aK x (putAt p z (.dead d.val))).step q=c.step q:=by
     cases c with
     |row m sz A len cap e=>
      simp only[step,aK];split;·rw[aC];intro hh;exact tI (by cases x;cases q;simp only at hh;rw[hh.1,hh.2])
      ·rfl
     |ptr m g o n c=>
      simp only[step] at hst;split at hst
      ·rename_i hx;simp only[step,aK,bg];split;·rename_i hq;rw[aC];intro hh;exact tI (by cases x;cases q;simp only at hh hx hq;rw[hh,hx.1,hq.1])
       ·rfl
      ·cases hst
     |agg n c=>
      simp only[step] at hst;split at hst
      ·rename_i hx;simp only[step,aK,bg];split;·rename_i hq;rw[aC];intro hh;exact tI (by cases x;cases q;simp only at hh hx hq;rw[hh,hx.1,hq.1])
       ·rfl
      ·cases hst
     |aq n c=>
      simp only[step] at hst;split at hst
      ·rename_i hx;simp only[step,aK,bg];split;·rename_i hq;rw[aC];intro hh;exact tI (by cases x;cases q;simp only at hh hx hq;rw[hh,hx.1,hq.1])
       ·rfl
      ·cases hst
     |_=>simp[step] at hst
    rw[hs] at hy;cases hq:c.step q with
    |none=>rw[hq] at hy;cases hy
    |some z'=>rw[hq] at hy;exact⟨y,hy,rfl,λhp=>hp⟩
where
 G9:∀(p:Path) (z d:C),z.sub p=some d->(putAt p z (.dead d.val)).val=z.val
  |[],z,d,h=>by simp only[sub] at h;injection h with h;subst h;rfl
  |x::p,z,d,h=>by
   simp only[sub] at h
   cases hst:z.step x with
   |none=>rw[hst] at h;cases h
   |some z'=>
    rw[hst] at h
    simp only[putAt,hst]
    exact(eP.aK z x z' _ hst (G9 p z' d h)).val
end C
structure dA (w:World) (zl zb:Nat->Nat->Prop) (G:Nat->C) (c:C) (G':Nat->C) (s':af):Prop where
 inv:Inv w zl zb G' s'
 ok:c.ok w (Zf zl zb)
 rf:c.rf G'
 sep:∀t b k,c.fp b k->¬(G' t).fp b k
 fz:∀b k,c.fp b k->¬zl b k/\¬zb b k
 val:∀t,(G' t).val=(G t).val
 dom:∀b k,c.fp b k->∃t,(G t).fp b k
 mono:∀t b k,(G' t).fp b k->(G t).fp b k
variable {w:World}{zl zb:Nat->Nat->Prop}{G:Nat->C}{s:af}
def dA.self(h:Inv w zl zb G s){c:C}(ho:c.ok w (Zf zl zb))(hr:c.rf G)(hn:∀b k,¬c.fp b k):dA w zl zb G c G s:=
 ⟨h,ho,hr,λt b k hf=>(hn b k hf).elim,λb k hf=>(hn b k hf).elim,λ_=>rfl,λb k hf=>(hn b k hf).elim,λ_ _ _ hf=>hf⟩
def weak(G:Nat->C)(v:Value)(r:Nat)(p:Path):Prop:=∀y,(G r).sub p=some y->y.val=v/\y.plain
def vB{v:Value}{r:Nat}{p:Path}(h:(C.ref v r p).rf G):weak G v r p:=by
 obtain⟨y,z,hs,hF,hv,m,sz,A,len,cap,e,rfl⟩:=h;intro y' hy';rw[hs] at hy';injection hy' with hy'
 subst hy';cases hF;exact⟨hv,trivial⟩
def GV(h:Inv w zl zb G s){v:Value}{r:Nat}{p:Path}(hw:weak G v r p)(hv:v.oneCell'=true):
  ∃c G',c.er=(move r p s).1/\c.val=v/\c.plain/\dA w zl zb G c G' (move r p s).2/\∀v' r' p',weak G v' r' p'->weak G' v' r' p':=by
 unfold move look;rw[<-h.er,C.ep];cases hs:(G r).sub p with
 |none=>exact⟨.dead v,G,rfl,rfl,hv,dA.self h trivial trivial (λ_ _ hf=>hf),λ_ _ _ hh=>hh⟩
 |some y=>
  obtain⟨kA,hyp⟩:=hw y hs;have h1:=h.kill r p;have hs1:((G r).ak (C.aV r p)).sub p=some (y.ak (C.aV r p)):=C.fK _ p _ _ (h.ok r) hs;rw[C.Cm hyp] at hs1;have lI:=C.eO p hs (h.ok r);obtain⟨⟨i1,i2,i3⟩,_⟩:=h1.HL r p y (.dead y.val) (S:=λ_ _=>False) (λt=>C.en _ _) (Ext.refl _ _) hs1 (λ_ _ hf=>hf.elim) trivial (Inv.xT _) trivial trivial (λ_ _ hf=>hf.elim);refine⟨y,_,?_,kA,hyp,⟨i1,lI,C.kJ hyp _,?_,λb k hf=>h.fz r b k (C.eu p hs (h.ok r) hf),λt=>(i2 t).trans (C.fL _ _),λb k hf=>⟨r,C.eu p hs (h.ok r) hf⟩,λt b k hf=>?_⟩,λv' r' p' hw' y' hy'=>?_⟩;·show y.er=y.er.kill r p;rw[<-C.kB,C.Cm hyp]
  ·intro t b k hf hf';have BI:=C.eu p hs (h.ok r) hf;by_cases e:t=r
   ·subst e;rw[cu] at hf';obtain⟨_,j2,_⟩:=C.uA (λ_ _ _ h=>h) (Ext.refl (λ_ _=>False) w) (λm b k _ hs=>hs) p ((G t).ak (C.aV t p)) y (.dead y.val) (h1.ok t) hs1 trivial (Inv.xT _) (λ_ _ hs=>hs.elim) (λ_ _ hs=>hs.elim);rcases j2 b k hf' with hh|⟨_,hn⟩;·exact hh
    ·exact hn hf
   ·rw[cm _ _ e,C.bK] at hf';exact h.sep r t (λe'=>e e'.symm) b k BI hf'
  ·rcases i3 t b k hf with ⟨_,hh⟩|hh;·exact hh.elim
   ·rwa [C.bK] at hh
  ·by_cases e:r'=r;·subst e;rw[cu] at hy';obtain⟨y1,a1,a2,a3⟩:=C.H6 p p' _ _ _ hs1 hy';obtain⟨y2,b1,b2,b3⟩:=G6 (C.aV r' p) p' _ (h.ok r') a1;obtain⟨c1,c2⟩:=hw' y2 b1;exact⟨by rw[<-a2,<-b2,c1],a3 (b3 c2)⟩
   ·rw[cm _ _ e] at hy';obtain⟨y2,b1,b2,b3⟩:=G6 (C.aV r p) p' _ (h.ok r') hy';obtain⟨c1,c2⟩:=hw' y2 b1;exact⟨by rw[<-b2,c1],b3 c2⟩
where
 G6 (t:Nat->Path->Bool):∀(q:Path) (c:C) {y:C},c.ok w (Zf zl zb)->(c.ak t).sub q=some y->∃y',c.sub q=some y'/\y'.val=y.val/\(y'.plain->y.plain):=by
  intro q c y ho hy
  cases hc:c.sub q with
  |some y'=>
   have:=C.fK t q c y' ho hc
   rw[hy] at this
   injection this with this
   subst this
   exact⟨y',rfl,(C.fL _ _).symm,λhp=>by rw[C.Cm hp];exact hp⟩
  |none=>
   exfalso
   induction q generalizing c with
   |nil=>simp[C.sub] at hc
   |cons x q ih=>
    simp only[C.sub] at hc hy
    have hstep:∀z,(c.ak t).step x=some z->∃z',c.step x=some z'/\z'.ak t=z:=by
     intro z hz
     cases c with
     |row m sz A len cap e=>
      simp only[C.ak,C.step] at hz⊢
      split at hz
      ·rename_i hq
       injection hz with hz
       rw[aA hq]
       exact⟨_,rfl,by rw[<-hz];exact C.q5 t _ (ho.2.2.1 _ _ hq.1 hq.2).2.1⟩
      ·cases hz
     |ptr m g o n c=>
      simp only[C.ak,C.step] at hz⊢
      split at hz
      ·rename_i hq
       injection hz with hz
       rw[aA hq]
       exact⟨_,rfl,hz⟩
      ·cases hz
     |agg n c=>
      simp only[C.ak,C.step] at hz⊢
      split at hz
      ·rename_i hq
       injection hz with hz
       rw[aA hq]
       exact⟨_,rfl,hz⟩
      ·cases hz
     |aq n c=>
      simp only[C.ak,C.step] at hz⊢
      split at hz
      ·rename_i hq
       injection hz with hz
       rw[aA hq]
       exact⟨_,rfl,hz⟩
      ·cases hz
     |ref v s q=>rw[C.P5] at hz;cases hz
     |av v s q i c=>rw[C.PZ] at hz;cases hz
     |cut v s q i c=>rw[C.P0] at hz;cases hz
     |_=>simp[C.ak,C.step] at hz
    cases hz:(c.ak t).step x with
    |none=>rw[hz] at hy;cases hy
    |some z=>
     rw[hz] at hy
     obtain⟨z',dR,e⟩:=hstep z hz
     rw[dR] at hc
     subst e
     exact ih z' (C.pK dR ho) hy hc
end M
namespace M
open Go Go.RowKit
variable [Bs]
variable {w:World}{zl zb:Nat->Nat->Prop}{G:Nat->C}{s:af}
structure sE (w:World) (zl zb:Nat->Nat->Prop) (G:Nat->C) (c:C):Prop where
 cell:c.cell
 ok:c.ok w (Zf zl zb)
 bV:∀b k,¬c.fp b k
 weak:∀v r p,c=.ref v r p->weak G v r p
structure aU (w:World) (zl zb:Nat->Nat->Prop) (G:Nat->C) (l':List C) (G':Nat->C) (s':af):Prop where
 inv:Inv w zl zb G' s'
 all:∀c∈l',c.ok w (Zf zl zb)/\(∀t b k,c.fp b k->¬(G' t).fp b k)/\(∀b k,c.fp b k->¬zl b k/\¬zb b k)/\∀b k,c.fp b k->∃t,(G t).fp b k
 apart:l'.Pairwise λa b=>∀x k,a.fp x k->¬b.fp x k
 val:∀t,(G' t).val=(G t).val
 mono:∀t b k,(G' t).fp b k->(G t).fp b k
def aU.cons{c:C}{G1 G':Nat->C}{s1 s':af}{l':List C}(h:dA w zl zb G c G1 s1)(hl:aU w zl zb G1 l' G' s'):aU w zl zb G (c::l') G' s' where
 inv:=hl.inv
 all:=λx hx=>by
  rcases bA.1 hx with rfl|hx;·exact⟨h.ok,λt b k hf hf'=>h.sep t b k hf (hl.mono t b k hf'),h.fz,h.dom⟩
  ·obtain⟨a1,a2,a3,a4⟩:=hl.all x hx;exact⟨a1,a2,a3,λb k hf=>by obtain⟨t,ht⟩:=a4 b k hf;exact⟨t,h.mono t b k ht⟩⟩
 apart:=ey.2 ⟨λx hx b k hf hf'=>by obtain⟨t,ht⟩:=(hl.all x hx).2.2.2 b k hf';exact h.sep t b k hf ht,hl.apart⟩
 val:=λt=>(hl.val t).trans (h.val t)
 mono:=λt b k hf=>h.mono t b k (hl.mono t b k hf)
def aU.nil(h:Inv w zl zb G s):aU w zl zb G [] G s:=⟨h,λ_ hx=>(by cases hx),List.Pairwise.nil,λ_=>rfl,λ_ _ _ hf=>hf⟩
def val_one{c:C}(h:c.cell):c.val.oneCell'=true:=Inv.mI h
def vq:∀(l:List C) (G:Nat->C) (s:af),Inv w zl zb G s->(∀c∈l,sE w zl zb G c)->
  ∃l' G',l'.map C.er=(aY (l.map C.er) s).1/\l'.map C.val=l.map C.val/\(∀c∈l',c.plain)/\aU w zl zb G l' G' (aY (l.map C.er) s).2/\∀v' r' p',weak G v' r' p'->weak G' v' r' p'
 |[],G,s,h,hc=>⟨[],G,rfl,rfl,λ_ hx=>(by cases hx),aU.nil h,λ_ _ _ hh=>hh⟩
 |c::l,G,s,h,hc=>by
  have h0:=hc c (bE ..);have hl0:∀x∈l,sE w zl zb G x:=λx hx=>hc x (bU _ hx)
  have fM:∀d:C,d.plain->d.val=c.val->d.er=(aY (c.er::l.map C.er) s).1.headD .dead->(aY (c.er::l.map C.er) s).2=(aY (l.map C.er) s).2->(aY (c.er::l.map C.er) s).1.tail=(aY (l.map C.er) s).1->(aY (c.er::l.map C.er) s).1≠[]->d.ok w (Zf zl zb)->(∀b k,¬d.fp b k)->
    ∃l' G',l'.map C.er=(aY ((c::l).map C.er) s).1/\l'.map C.val=(c::l).map C.val/\(∀c∈l',c.plain)/\aU w zl zb G l' G' (aY ((c::l).map C.er) s).2/\∀v' r' p',weak G v' r' p'->weak G' v' r' p':=by
   intro d hp hv he h2 h3 h4 ho hn;obtain⟨l',G',e1,e2,e3,e4,e5⟩:=vq l G s h hl0;refine⟨d::l',G',?_,?_,?_,?_,e5⟩
   ·simp only[aS];rw[he,e1,<-h3];cases hh:(aY (c.er::l.map C.er) s).1 with
    |nil=>exact(h4 hh).elim
    |cons a t=>rfl
   ·simp only[aS,hv,e2]
   ·intro x hx;rcases bA.1 hx with rfl|hx;·exact hp
    ·exact e3 x hx
   ·simp only[aS];rw[h2];exact aU.cons (dA.self h ho (C.kJ hp G) hn) e4
  have dead:∀v,v=c.val->C.plain (.dead v):=λv hv=>by subst hv;exact val_one h0.cell
  cases c with
  |ref v r p=>
   obtain⟨c',G1,f1,f2,f3,f4,f5⟩:=GV h (h0.weak v r p rfl) h0.cell;obtain⟨l',G',e1,e2,e3,e4,e5⟩:=vq l G1 (move r p s).2 f4.inv (λx hx=>by obtain⟨a1,a2,a3,a4⟩:=hl0 x hx;exact⟨a1,a2,a3,λv' r' p' e=>f5 _ _ _ (a4 v' r' p' e)⟩)
   refine⟨c'::l',G',?_,?_,?_,aU.cons f4 e4,λ_ _ _ hh=>e5 _ _ _ (f5 _ _ _ hh)⟩;·simp only[aS,C.er,aY];rw[f1,e1]
   ·simp only[aS,f2,e2];rfl
   ·intro x hx;rcases bA.1 hx with rfl|hx;·exact f3
    ·exact e3 x hx
  |av v r p i k=>exact fM (.dead v) (dead v rfl) rfl rfl rfl rfl (by simp[aY,C.er]) trivial (λ_ _ h=>h)
  |cut v r p i k=>exact fM (.dead v) (dead v rfl) rfl rfl rfl rfl (by simp[aY,C.er]) trivial (λ_ _ h=>h)
  |fn f n g=>exact fM (.dead _) (dead _ rfl) rfl rfl rfl rfl (by simp[aY,C.er]) trivial (λ_ _ h=>h)
  |ptr m g o n f=>exact fM (.dead _) (dead _ rfl) rfl rfl rfl rfl (by simp[aY,C.er]) trivial (λ_ _ h=>h)
  |agg n f=>exact h0.cell.elim
  |aq n f=>exact h0.cell.elim
  |dead v=>exact fM (.dead v) (dead v rfl) rfl rfl rfl rfl (by simp[aY,C.er]) trivial (λ_ _ h=>h)
  |int k n=>exact fM (.int k n) trivial rfl rfl rfl rfl (by simp[aY,C.er]) trivial (λ_ _ h=>h)
  |bool b=>exact fM (.bool b) trivial rfl rfl rfl rfl (by simp[aY,C.er]) trivial (λ_ _ h=>h)
  |str t=>exact fM (.str t) trivial rfl rfl rfl rfl (by simp[aY,C.er]) h0.ok (λ_ _ h=>h)
  |row m sz A len cap e=>exact fM (.row m sz A len cap e) trivial rfl rfl rfl rfl (by simp[aY,C.er]) h0.ok h0.bV
def eC(l:List C):C:=.agg l.length λj=>l.getD j (.dead undef)
def jr{α β:Type}(l:List α)(d:α)(f:α->β):((List.range l.length).map λj=>f (l.getD j d))=l.map f:=by
 apply gy;intro i;rw[C.b8,cg];by_cases h:i<l.length;·rw[aA h,bH h];simp[gP,bH h]
 ·rw[aC h,iz (by omega)];rfl
def p7(l:List C):(eC l).er=.agg (l.map C.er):=by simp only[eC,C.er,jr]
def sG(l:List C):(eC l).val=.agg (l.map C.val).toArray:=by simp only[eC,C.val,jr]
def bO{α:Type}{l:List α}{j:Nat}(h:j<l.length)(d:α):l.getD j d∈l:=by rw[gP,bH h];exact dy h
def q8{l:List C}(h:l.Pairwise λa b=>∀x k,a.fp x k->¬b.fp x k)(d:C){i j:Nat}(hi:i<l.length)(hj:j<l.length)(hne:i≠j){b k:Nat}(hf:(l.getD i d).fp b k):¬(l.getD j d).fp b k:=by
 rw[gP,bH hi] at hf;rw[gP,bH hj];rcases Nat.lt_or_gt_of_ne hne with hlt|hlt;·exact lY.1 h i j hi hj hlt b k hf
 ·exact λhf'=>lY.1 h j i hj hi hlt b k hf' hf
def mA(l:List C)(b k:Nat):(eC l).fp b k↔∃c∈l,c.fp b k:=by
 constructor;·rintro ⟨j,hj,hf⟩;exact⟨_,bO hj _,hf⟩
 ·rintro ⟨c,hc,hf⟩;obtain⟨j,hj,rfl⟩:=zR hc;refine⟨j,hj,?_⟩;show (l.getD j (C.dead undef)).fp b k;rw[gP,bH hj];exact hf
def C.flat(c:C):Prop:=c.plain\/∃l:List C,c=eC l/\∀x∈l,x.plain
structure cQ (w:World) (zl zb:Nat->Nat->Prop) (G:Nat->C) (c:C):Prop where
 ok:c.ok w (Zf zl zb)
 rf:c.rf G
 bV:∀b k,¬c.fp b k
def Cv{v:Value}{r:Nat}{p:Path}(h:(C.ref v r p).rf G):v.oneCell'=true:=by obtain⟨y,z,hs,hF,hv,m,sz,A,len,cap,e,rfl⟩:=h;cases hF;rw[<-hv];rfl
def E2{Z:Md->Nat->Nat->Prop}{sz:Nat}{A A':Option Ad}{len cap lo hi cap':Nat}{e:Nat->Nat->C}(h:(C.row .own sz A len cap e).ok w Z)(hlo:lo<=hi)(hhi:hi<=len)(hcap:hi - lo<=cap')
  (hc:lo+cap'=cap)(hA:(A'=A/\cap'=0)\/A'=A.map λq=>fV (lo*sz) q):
  (C.row .own sz A' (hi - lo) cap' λi j=>e (i+lo) j).ok w Z/\(∀b k,(C.row .own sz A' (hi - lo) cap' λi j=>e (i+lo) j).fp b k->(C.row .own sz A len cap e).fp b k)/\
   (C.row .own sz A' (hi - lo) cap' λi j=>e (i+lo) j).er=.row .own sz ((((List.range len).map λi=>(List.range sz).map λj=>(e i j).er).take hi).drop lo):=by
 obtain⟨h1,h2,h3,h4,h5⟩:=h
 have hb:∀b o,A'=some (b,o,none)->∃o',A=some (b,o',none):=λb o ho=>by
  rcases hA with ⟨hA,_⟩|hA;·exact⟨o,by rw[<-hA,ho]⟩
  ·cases A with
   |none=>rw[hA] at ho;cases ho
   |some q=>
    rcases h4 rfl with ⟨q1,_⟩|⟨g,o',_,_,_,q1,_⟩;·cases q1
    ·rw[hA,q1,bM,kZ] at ho;injection ho with ho
     injection ho with ho _
     exact⟨o',by rw[q1,ho]⟩
 have hlt:hi - lo≠0->A'=A.map λq=>fV (lo*sz) q:=λhne=>hA.elim (λ⟨_,h0⟩=>(by omega)) id;refine⟨⟨hcap,λi j hi' hj=>?_,λi j hi' hj=>h3 (i+lo) j (by omega) hj,λ_=>?_,λi j hi' hj b k hf=>?_⟩,λb k hf=>?_,?_⟩;·obtain⟨g,o,q1,q2,q3⟩:=h2 (i+lo) j (by omega) hj;refine⟨g,o+lo*sz,by rw[hlt (by omega),q1,bM,kZ],?_,λhm=>(hm rfl).elim⟩;rw[show o+lo*sz+i*sz+j=o+(i+lo)*sz+j by rw[dx];omega];exact q2
 ·rcases h4 rfl with ⟨q1,q2⟩|⟨g,o,arr,t,fz,q1,q2,q3,q4⟩;·refine .inl ⟨?_,by omega⟩;rcases hA with ⟨hA,_⟩|hA<;>rw[hA,q1];rfl
  ·refine .inr ?_;rcases hA with ⟨hA,h0⟩|hA;·exact⟨g,o,arr,t,fz,by rw[hA,q1],q2,by rw[h0];omega,λk hk1 hk2=>by rw[h0] at hk2;omega⟩
   ·have hm:lo*sz+cap'*sz=cap*sz:=by rw[<-dx,hc]
    exact⟨g,o+lo*sz,arr,t,fz,by rw[hA,q1,bM,kZ],q2,by omega,λk hk1 hk2=>q4 k (by omega) (by omega)⟩
 ·obtain⟨a1,a2⟩:=h5 (i+lo) j (by omega) hj b k hf;refine⟨λ_ o ho=>?_,λi' j' hi2 hj2 hne=>a2 (i'+lo) j' (by omega) hj2 (λe=>hne ?_)⟩;·obtain⟨o',ho'⟩:=hb b o ho;exact a1 rfl o' ho'
  ·injection e with e1 e2
   rw[e2,show i=i' by omega]
 ·obtain⟨_,⟨o,ho⟩|⟨i,j,hi',hj,hf⟩⟩:=hf;·obtain⟨o',ho'⟩:=hb b o ho;exact⟨rfl,.inl ⟨o',ho'⟩⟩
  ·exact⟨rfl,.inr ⟨i+lo,j,by omega,hj,hf⟩⟩
 ·simp only[C.er,<-kW,<-jz,pR];rw[jZ hhi];congr 1;apply gy;intro i;rw[C.b8,cg,sy];by_cases hh:i<hi - lo;·rw[aA hh,nX (by omega),nT];rfl
  ·rw[aC hh,iz (by simp;omega)];rfl
def PC(h:Inv w zl zb G s){v:Value}{r:Nat}{p:Path}{lo hi:Nat}(hr:(C.cut v r p lo hi).rf G):
  ∃c G',c.er=(uo r p lo hi s).1/\c.val=v/\((C.cut v r p lo hi).cell->c.cell)/\dA w zl zb G c G' (uo r p lo hi s).2:=by
 have hr':=hr;obtain⟨m,sz,A,len,cap,e,A',cap',hs,hv,hlo,hhi,hcap,gV,hc,NK⟩:=hr;unfold uo look;rw[<-h.er,C.ep,hs];cases m with
 |own=>obtain⟨c,G',c1,c2,c3,c4,c5,c6,c7,c8,c9,Am,An,c12⟩:=h.pL r p _ hs;obtain rfl:=c7 trivial;obtain⟨i1,i2,i3⟩:=E2 c4 hlo hhi hcap hc NK;refine⟨.row .own sz A' (hi - lo) cap' λi j=>e (i+lo) j,G',i3,?_,λ_=>trivial,⟨c3,i1,trivial,λt b k hf=>c8 t b k (i2 b k hf),λb k hf=>h.fz r b k (c9 b k (i2 b k hf)),Am,λb k hf=>⟨r,c9 b k (i2 b k hf)⟩,An⟩⟩;rw[hv];rfl
 |sl=>exact⟨.cut v r p lo hi,G,rfl,rfl,λhh=>hh,dA.self h trivial hr' λ_ _ hh=>hh⟩
 |ah=>exact⟨.cut v r p lo hi,G,rfl,rfl,λhh=>hh,dA.self h trivial hr' λ_ _ hh=>hh⟩
def PB(h:Inv w zl zb G s){v:Value}{r:Nat}{p:Path}{i j:Nat}(hr:(C.av v r p i j).rf G):
  ∃c G',c.er=(um r p i j s).1/\c.val=v/\((C.av v r p i j).cell->c.cell)/\dA w zl zb G c G' (um r p i j s).2:=by
 have same:∃c G',c.er=X.av r p i j/\c.val=v/\((C.av v r p i j).cell->c.cell)/\dA w zl zb G c G' s:=⟨.av v r p i j,G,rfl,rfl,λhh=>hh,dA.self h trivial hr λ_ _ hh=>hh⟩;obtain⟨y,hs,hy⟩:=hr;unfold um look;rw[<-h.er,C.ep,hs];rcases hy with ⟨m,sz,g,o,len,cap,e,rfl,hv⟩|⟨m,g,o,n,cc,rfl,hi,hv⟩;·exact same
 ·cases m with
  |own=>
   show ∃c G',c.er=(bif i==0 && j==0 then _ else _:X×af).1/\_/\_/\dA w zl zb G c G' (bif i==0 && j==0 then _ else _:X×af).2;cases hij:(i==0 && j==0) with
   |false=>exact same
   |true=>simp only[au,cT] at hij;obtain⟨rfl,rfl⟩:=hij;obtain⟨c,G',c1,c2,c3,c4,c5,c6,c7,c8,c9,Am,An,c12⟩:=h.pL r p _ hs;exact⟨c,G',c1,by rw[c2,hv];rfl,λ_=>c6.2 trivial,⟨c3,c4,c5,c8,λb k hf=>h.fz r b k (c9 b k hf),Am,λb k hf=>⟨r,c9 b k hf⟩,An⟩⟩
  |sl=>exact same
  |ah=>exact same
def lW(tk:Tk)(h:Inv w zl zb G s){c0:C}(ho:cQ w zl zb G c0):
  ∃c G',c.er=(take tk c0.er s).1/\c.val=c0.val/\(c0.cell->c.cell)/\dA w zl zb G c G' (take tk c0.er s).2:=by
 have same:(take tk c0.er s)=(c0.er,s)->∃c G',c.er=(take tk c0.er s).1/\c.val=c0.val/\(c0.cell->c.cell)/\dA w zl zb G c G' (take tk c0.er s).2:=λe=>by rw[e];exact⟨c0,G,rfl,rfl,λh=>h,dA.self h ho.ok ho.rf ho.bV⟩
 cases c0 with
 |ref v r p=>
  have oC:∃c G',c.er=(move r p s).1/\c.val=v/\((C.ref v r p).cell->c.cell)/\dA w zl zb G c G' (move r p s).2:=by obtain⟨c',G1,f1,f2,f3,f4,f5⟩:=GV h (vB ho.rf) (Cv ho.rf);exact⟨c',G1,f1,f2,λ_=>C.iT f3,f4⟩
  cases tk with
  |mv=>exact oC
  |al=>exact same rfl
  |aZ=>cases p with
   |nil=>exact oC
   |cons q p=>exact same rfl
 |cut v r p lo hi=>
  have oC:=PC h ho.rf;cases tk with
  |mv=>exact oC
  |al=>exact same rfl
  |aZ=>cases p with
   |nil=>exact oC
   |cons q p=>exact same rfl
 |av v r p i j=>
  cases tk with
  |mv=>exact PB h ho.rf
  |al=>exact same rfl
  |aZ=>exact same rfl
 |agg n f=>
  cases tk with
  |mv=>
   have hcells:∀c∈(List.range n).map f,sE w zl zb G c:=λc hc=>by
    obtain⟨j,hj,rfl⟩:=aL.1 hc;have hj':j<n:=by simpa using hj
    exact⟨(ho.ok.1 j hj').1,(ho.ok.1 j hj').2,λb k hf=>ho.bV b k ⟨j,hj',hf⟩,λv r p e=>vB (by rw[<-e];exact ho.rf j hj')⟩
   obtain⟨l',G',e1,e2,e3,e4,e5⟩:=vq _ G s h hcells;have er:(C.agg n f).er=.agg (((List.range n).map f).map C.er):=by simp only[C.er,bT];rfl
   rw[er];show ∃c G',c.er=X.agg (aY _ s).1/\_/\_/\dA w zl zb G c G' (aY _ s).2;refine⟨eC l',G',by rw[p7,e1],?_,λhc=>hc.elim,⟨e4.inv,⟨λj hj=>⟨C.iT (e3 _ (bO hj _)),(e4.all _ (bO hj _)).1⟩,λj hj b k hf j' hj' hne=>q8 e4.apart _ hj hj' hne hf⟩,λj hj=>C.kJ (e3 _ (bO hj _)) _,?_,?_,e4.val,?_,e4.mono⟩⟩;·rw[sG,e2];simp only[C.val,bT];rfl
   ·intro t b k hf hf';obtain⟨c,hc,hf⟩:=(mA _ _ _).1 hf;exact(e4.all c hc).2.1 t b k hf hf'
   ·intro b k hf;obtain⟨c,hc,hf⟩:=(mA _ _ _).1 hf;exact(e4.all c hc).2.2.1 b k hf
   ·intro b k hf;obtain⟨c,hc,hf⟩:=(mA _ _ _).1 hf;exact(e4.all c hc).2.2.2 b k hf
  |al=>exact same rfl
  |aZ=>exact same rfl
 |_=>exact same (by cases tk<;>rfl)
def Hg{c:Ctx}{zl:Nat->Nat->Prop}{a:Act}(h:St c G zl s a w)(n:Nat):((G n).alias n []).er=aj s (.t n)/\((G n).alias n []).val=(G n).val/\cQ w zl c.zb G ((G n).alias n []):=by obtain⟨a1,a2,a3⟩:=C.D0 n (G n) rfl (h.inv.ok n) (h.inv.rf n);refine⟨?_,C.D7 _ _ _,⟨a1,a2,a3⟩⟩;rw[C.D6,h.inv.er];rfl
end M
namespace M
open Go Go.RowKit
variable [Bs]
namespace C
variable {w:World}{Z:Md->Nat->Nat->Prop}
def lP:C->Prop
 |.row m _ _ _ _ _=>m=.own
 |.ptr m _ _ _ _=>m=.own
 |.agg _ _=>True
 |.aq _ _=>True
 |_=>False
def P8{d0 y:C}{q:Nat×Nat}{v:Value}(h:d0.ok w Z)(hq:d0.step q=some (.dead v))(ho:d0.lP)(hp:y.plain)(hv:y.val=v)(hy:y.ok w Z)(hsep:∀b k,y.fp b k->¬d0.fp b k):
  (d0.aK q y).ok w Z/\∀b k,(d0.aK q y).fp b k->d0.fp b k\/y.fp b k:=by
 have hc:=iT hp;have hs:=uF hp;have hnt:y.dV:=by cases y<;>first|trivial|exact hp.elim
 have agg:∀(n:Nat) (f:Nat->C) (pr:C->Prop),(∀j,j<n->pr (f j)/\(f j).ok w Z)->pr y->(∀j,j<n->∀b k,(f j).fp b k->∀j',j'<n->j≠j'->¬(f j').fp b k)->(∀b k,y.fp b k->¬∃j,j<n/\(f j).fp b k)->
   ((∀j,j<n->pr (bg f q.2 y j)/\(bg f q.2 y j).ok w Z)/\(∀j,j<n->∀b k,(bg f q.2 y j).fp b k->∀j',j'<n->j≠j'->¬(bg f q.2 y j').fp b k))/\∀b k,(∃j,j<n/\(bg f q.2 y j).fp b k)->(∃j,j<n/\(f j).fp b k)\/y.fp b k:=by
  intro n f pr h1 Ov h2 h3;refine⟨⟨λj hj=>?_,λj hj b k hf j' hj' hne=>?_⟩,λb k ⟨j,hj,hf⟩=>?_⟩
  ·unfold bg;split;·exact⟨Ov,hy⟩
   ·exact h1 j hj
  ·unfold bg at hf⊢;split at hf;·rename_i e;rw[aC (λe'=>hne (e.trans e'.symm))];exact λhf'=>h3 b k hf ⟨j',hj',hf'⟩
   ·split;·exact λhf'=>h3 b k hf' ⟨j,hj,hf⟩
    ·exact h2 j hj b k hf j' hj' hne
  ·unfold bg at hf;split at hf;·exact .inr hf
   ·exact .inl ⟨j,hj,hf⟩
 have TO:∀(n:Nat) (f:Nat->C) (j:Nat),q.2<n->f q.2=.dead v->(bg f q.2 y j).val=(f j).val:=by
  intro n f j _ hf;unfold bg;split;·rename_i e;rw[e,hf,hv];rfl
  ·rfl
 cases d0 with
 |row m sz A len cap e=>
  obtain rfl:m=.own:=ho;simp only[step] at hq;split at hq
  ·rename_i hlt;injection hq with hq
   obtain⟨h1,h2,h3,h4,h5⟩:=h;have gZ:∀i j,i<len->j<sz->∀b k,(e i j).fp b k->(C.row .own sz A len cap e).fp b k:=λi j hi hj b k hf=>⟨rfl,.inr ⟨i,j,hi,hj,hf⟩⟩;refine⟨⟨h1,λi j hi hj=>?_,λi j hi hj=>?_,h4,λi j hi hj b k hf=>?_⟩,λb k hf=>?_⟩
   ·obtain⟨g,o,a1,a2,a3⟩:=h2 i j hi hj;refine⟨g,o,a1,?_,a3⟩;rw[a2];show _=some (if i=q.1/\j=q.2 then y else e i j).val;split;·rename_i hh;rw[hh.1,hh.2,hq,hv];rfl
    ·rfl
   ·show (if i=q.1/\j=q.2 then y else e i j).cell/\(if i=q.1/\j=q.2 then y else e i j).bX/\(if i=q.1/\j=q.2 then y else e i j).fits .own/\(if i=q.1/\j=q.2 then y else e i j).ok w Z;split;·exact⟨hc,hs,by cases y<;>first|trivial|exact .inl rfl,hy⟩
    ·exact h3 i j hi hj
   ·have hf:(if i=q.1/\j=q.2 then y else e i j).fp b k:=hf;refine⟨λhm o hA=>?_,λi' j' hi' hj' hne hf'=>?_⟩
    ·split at hf;·exact hsep b k hf ⟨rfl,.inl ⟨o,hA⟩⟩
     ·exact(h5 i j hi hj b k hf).1 hm o hA
    ·have hf':(if i'=q.1/\j'=q.2 then y else e i' j').fp b k:=hf';split at hf
     ·rename_i e1;split at hf';·rename_i e2;exact hne (by rw[e1.1,e1.2,e2.1,e2.2])
      ·exact hsep b k hf (gZ i' j' hi' hj' b k hf')
     ·split at hf';·exact hsep b k hf' (gZ i j hi hj b k hf)
      ·exact(h5 i j hi hj b k hf).2 i' j' hi' hj' hne hf'
   ·obtain⟨hm,hA|⟨i,j,hi,hj,hf⟩⟩:=hf;·exact .inl ⟨rfl,.inl hA⟩
    ·have hf:(if i=q.1/\j=q.2 then y else e i j).fp b k:=hf;split at hf;·exact .inr hf
     ·exact .inl (gZ i j hi hj b k hf)
  ·cases hq
 |ptr m g o n f=>
  obtain rfl:m=.own:=ho;simp only[step] at hq;split at hq
  ·rename_i hlt;injection hq with hq
   obtain⟨h1,h2,h3,h4⟩:=h;obtain⟨⟨a1,a2⟩,a3⟩:=agg n f (λc=>c.cell/\c.fits .own) (λj hj=>⟨⟨(h3 j hj).1,(h3 j hj).2.1⟩,(h3 j hj).2.2⟩) ⟨hc,by cases y<;>first|trivial|exact .inl rfl⟩ (λj hj b k hf j' hj' hne=>(h4 j hj b k hf).2 j' hj' hne) (λb k hf ⟨j,hj,hf'⟩=>hsep b k hf ⟨rfl,.inr ⟨j,hj,hf'⟩⟩);refine⟨⟨λj hj=>?_,h2,λj hj=>⟨(a1 j hj).1.1,(a1 j hj).1.2,(a1 j hj).2⟩,λj hj b k hf=>⟨λhm hh=>?_,λj' hj' hne=>a2 j hj b k hf j' hj' hne⟩⟩,λb k hf=>?_⟩;·rw[TO n f j hlt.2 hq];exact h1 j hj
   ·have hf:(bg f q.2 y j).fp b k:=hf;unfold bg at hf;split at hf;·exact hsep b k hf ⟨rfl,.inl hh⟩
    ·exact(h4 j hj b k hf).1 hm hh
   ·obtain⟨_,hh|hh⟩:=hf;·exact .inl ⟨rfl,.inl hh⟩
    ·exact(a3 b k hh).imp (λhh=>⟨rfl,.inr hh⟩) id
  ·cases hq
 |agg n f=>obtain⟨a1,a2⟩:=agg n f C.cell h.1 hc h.2 hsep;exact⟨a1,a2⟩
 |aq n f=>obtain⟨a1,a2⟩:=agg n f C.dV h.1 hnt h.2 hsep;exact⟨a1,a2⟩
 |_=>exact ho.elim
end C
namespace Inv
variable {w:World}{zl zb:Nat->Nat->Prop}{G:Nat->C}{s:af}
def sV{r:Nat}{P:Path}{v:Value}(hd:(G r).sub P=some (.dead v)):∀c:C,c.rf G->c.free (C.aV r P)
 |.ref v' r' q,hr=>by obtain⟨y,z,hs,hF,_⟩:=hr;exact out hs (by cases hF<;>rfl)
 |.av v' r' q i c,hr=>by obtain⟨y,hs,hy⟩:=hr;exact out hs (by rcases hy with ⟨m,sz,g,o,len,cap,e,rfl,hv⟩|⟨m,g,o,n,cc,rfl,hi,hv⟩<;>rfl)
 |.cut v' r' q lo hi,hr=>by obtain⟨m,sz,A,len,cap,e,A',cap',hs,_⟩:=hr;exact out hs rfl
 |.ptr m g o n c,hr=>λj hj=>sV hd (c j) (hr j hj)
 |.agg n c,hr=>λj hj=>sV hd (c j) (hr j hj)
 |.aq n c,hr=>λj hj=>sV hd (c j) (hr j hj)
 |.fn f n c,hr=>λj hj=>sV hd (c j) (hr j hj)
 |.dead _,_=>trivial
 |.int _ _,_=>trivial
 |.bool _,_=>trivial
 |.str _,_=>trivial
 |.row _ _ _ _ _ _,_=>trivial
where
 out {r':Nat} {q:Path} {y:C} (hs:(G r').sub q=some y) (hy:y.er.fo=true):C.aV r P r' q=false:=by
  unfold C.aV
  cases h1:(r'==r) with
  |false=>rfl
  |true=>
   cases h2:X.pfx P q with
   |false=>rfl
   |true=>
    exfalso
    have h1:r'=r:=by simpa using h1
    subst h1
    obtain⟨t,rfl⟩:=Cj P q h2
    rw[C.zc P t hd] at hs
    cases t with
    |nil=>simp only[C.sub] at hs;injection hs with hs;subst hs;simp[C.er,X.fo] at hy
    |cons x t=>simp[C.sub,C.step] at hs
def NA(h:Inv w zl zb G s){r:Nat}{p0:Path}{q:Nat×Nat}{d0 y:C}{v:Value}(h0:(G r).sub p0=some d0)(hq:d0.step q=some (.dead v))(ho:d0.lP)(hp:y.plain)(hv:y.val=v)(hok:y.ok w (Zf zl zb))
  (hsep:∀t b k,y.fp b k->¬(G t).fp b k)(hfz:∀b k,y.fp b k->¬zl b k/\¬zb b k):
  ∃G',G'=dI G r (C.putAt p0 (G r) (d0.aK q y))/\Inv w zl zb G' ((r,X.putAt (p0++[q]) (get s r) y.er)::s)/\(∀t,(G' t).val=(G t).val)/\∀t b k,(G' t).fp b k->(G t).fp b k\/y.fp b k:=by
 have hd0:=C.eO p0 h0 (h.ok r);have hin:∀b k,d0.fp b k->(G r).fp b k:=λb k hf=>C.eu p0 h0 (h.ok r) hf;obtain⟨a1,a2⟩:=C.P8 hd0 hq ho hp hv hok (λb k hf hf'=>hsep r b k hf (hin b k hf'));have xd:(G r).sub (p0++[q])=some (.dead v):=C.nQ p0 h0 hq;obtain⟨⟨i1,i2,i3⟩,_⟩:=h.yZ r p0 (p0++[q]) d0 (d0.aK q y) y (S:=λ_ _=>False) (C.uH p0 h0 hq) (λt=>sV xd (G t) (h.rf t)) (Ext.refl _ _) h0 (λ_ _ hf=>hf.elim) a1 (C.eP.aK d0 q (.dead v) y hq (by rw[hv];rfl)) (C.kJ hp G) (by cases y<;>first|trivial|exact hp.elim) (λb k hf=>(a2 b k hf).imp id λhf=>⟨λt=>hsep t b k hf,hfz b k hf⟩)
 refine⟨_,rfl,i1,i2,λt b k hf=>?_⟩;rcases i3 t b k hf with ⟨e,fH⟩|fH;·rw[e];exact(a2 b k fH).imp (hin b k) id
 ·exact .inl fH
end Inv
end M
namespace M
open Go Go.RowKit
variable [Bs]
namespace C
def Iw:∀(P:Path) {c d y:C},c.sub P=some d->y.val=d.val->(putAt P c y).val=c.val
 |[],c,d,y,h,hv=>by simp only[sub] at h;injection h with h;subst h;exact hv
 |x::P,c,d,y,h,hv=>by
  simp only[sub] at h;cases hst:c.step x with
  |none=>rw[hst] at h;cases h
  |some z=>rw[hst] at h;simp only[putAt,hst];exact(eP.aK c x z _ hst (Iw P h hv)).val
def RE{c z:C}{x x':Nat×Nat}(hst:c.step x=some z)(hne:x'≠x)(y:C):(c.aK x y).step x'=c.step x':=by
 have hu:∀f:Nat->C,x'.1=0->x.1=0->bg f x.2 y x'.2=f x'.2:=λf h1 h2=>by unfold bg;rw[aC];intro e;apply hne;cases x;cases x';simp_all
 cases c with
 |row m sz A len cap e=>
  simp only[aK,step];split;·congr 1;rw[aC];rintro ⟨e1,e2⟩;exact hne (Prod.ext e1 e2)
  ·rfl
 |ptr m g o n f=>
  simp only[step] at hst;split at hst
  ·rename_i h0;simp only[aK,step];split;·rename_i hh;rw[hu f hh.1 h0.1]
   ·rfl
  ·cases hst
 |agg n f=>
  simp only[step] at hst;split at hst
  ·rename_i h0;simp only[aK,step];split;·rename_i hh;rw[hu f hh.1 h0.1]
   ·rfl
  ·cases hst
 |aq n f=>
  simp only[step] at hst;split at hst
  ·rename_i h0;simp only[aK,step];split;·rename_i hh;rw[hu f hh.1 h0.1]
   ·rfl
  ·cases hst
 |_=>rfl
def H7:∀(P q:Path) {c d y z:C},c.sub P=some d->y.val=d.val->X.pfx P q=false->(putAt P c y).sub q=some z->∃z0,c.sub q=some z0/\z.val=z0.val/\(z0.plain->z.plain)
 |[],q,c,d,y,z,_,_,h,_=>by simp[X.pfx] at h
 |x::P,q,c,d,y,z,hd,hv,hp,hs=>by
  simp only[sub] at hd;cases hst:c.step x with
  |none=>rw[hst] at hd;cases hd
  |some c1=>
   rw[hst] at hd;have hd':c1.sub P=some d:=hd;have hval:=Iw P hd' hv;cases q with
   |nil=>
    simp only[sub,putAt,hst] at hs;injection hs with hs
    subst hs;refine⟨c,rfl,(eP.aK c x c1 _ hst hval).val,λhpl=>?_⟩;cases c<;>first|exact hpl|trivial
   |cons x' q=>
    simp only[sub,putAt,hst] at hs;by_cases hne:x'=x
    ·subst hne;rw[HY hst] at hs;have hp':X.pfx P q=false:=by simpa [X.pfx] using hp
     obtain⟨z0,a1,a2⟩:=H7 P q hd' hv hp' hs;exact⟨z0,by simp only[sub,hst];exact a1,a2⟩
    ·rw[RE hst hne] at hs;exact⟨z,hs,rfl,λh=>h⟩
end C
variable {w:World}{zl zb:Nat->Nat->Prop}
def NB{G:Nat->C}{s:af}(h:Inv w zl zb G s){r:Nat}{p:Path}(hg:wV s r p=true):∃p0 q d0 v,p=p0++[q]/\(G r).sub p0=some d0/\d0.step q=some (.dead v)/\d0.lP:=by
 unfold wV at hg;split at hg
 ·rename_i hl;split at hg
  ·rename_i q hq
   have hp:p=p.dropLast++[q]:=by
    have hne:p≠[]:=by intro e;subst e;simp at hq
    rw[List.getLast?_eq_some_getLast hne] at hq;injection hq with hq
    rw[<-hq];exact(List.dropLast_concat_getLast hne).symm
   have own:∀x,look s r p.dropLast=some x->∃d0,(G r).sub p.dropLast=some d0/\d0.er=x:=λx hx=>by
    unfold look at hx;rw[<-h.er,C.ep] at hx;cases hs:(G r).sub p.dropLast with
    |none=>rw[hs] at hx;cases hx
    |some d0=>rw[hs] at hx;exact⟨d0,rfl,by simpa using hx⟩
   have fin:∀d0,(G r).sub p.dropLast=some d0->d0.lP->∃p0 q d0 v,p=p0++[q]/\(G r).sub p0=some d0/\d0.step q=some (.dead v)/\d0.lP:=λd0 h0 ho=>by
    unfold look at hl;rw[<-h.er,C.ep,hp,C.zc p.dropLast [q] h0] at hl;have hl':((d0.step q).bind λz=>some z).map C.er=some .dead:=by simpa [C.sub] using hl
    cases hst:d0.step q with
    |none=>rw[hst] at hl';cases hl'
    |some z=>
     rw[hst] at hl';have:z.er=.dead:=by simpa using hl'
     cases z with
     |dead v=>exact⟨p.dropLast,q,d0,v,hp,h0,hst,ho⟩
     |_=>simp[C.er] at this
   split at hg
   ·rename_i hx;obtain⟨d0,a1,a2⟩:=own _ hx
    have:d0.lP:=by
     cases d0 with
     |row m sz A len cap e=>simp only[C.er,X.row.injEq] at a2;exact a2.1
     |_=>simp[C.er] at a2
    exact fin _ a1 this
   ·rename_i hx;obtain⟨d0,a1,a2⟩:=own _ hx
    have:d0.lP:=by
     cases d0 with
     |ptr m g o n c=>simp only[C.er,X.ptr.injEq] at a2;exact a2.1
     |_=>simp[C.er] at a2
    exact fin _ a1 this
   ·rename_i hx;obtain⟨d0,a1,a2⟩:=own _ hx;have:d0.lP:=by cases d0<;>first|trivial|(simp[C.er] at a2)
    exact fin _ a1 this
   ·rename_i hx;obtain⟨d0,a1,a2⟩:=own _ hx;have:d0.lP:=by cases d0<;>first|trivial|(simp[C.er] at a2)
    exact fin _ a1 this
   ·cases hg
  ·cases hg
 ·cases hg
def Hi{r:Nat}{p:Path}:∀{l:List X},oU r p l=true->∀r' p',X.ref r' p'∈l->¬(r'=r/\X.pfx p p'=true)
 |[],_,_,_,hm=>by cases hm
 |x::l,h,r',p',hm=>by
  rcases bA.1 hm with rfl|hm
  ·simp only[oU,au,pT,Bool.and_eq_false_iff,beq_eq_false_iff_ne] at h;rintro ⟨rfl,h2⟩;rcases h.1 with h1|h1;·exact h1 rfl
   ·rw[h1] at h2;cases h2
  ·refine Hi (l:=l) ?_ r' p' hm;cases x<;>first|exact h|(simp only[oU,au] at h;exact h.2)
def wg:∀(cs ys:List C) {G:Nat->C} {s s':af},Inv w zl zb G s->ys.length=cs.length->(∀v r p,C.ref v r p∈cs->weak G v r p)->
  (∀(i:Nat) c y,cs[i]?=some c->ys[i]?=some y->y.plain/\y.val=c.val/\y.ok w (Zf zl zb))->(∀y∈ys,(∀t b k,y.fp b k->¬(G t).fp b k)/\∀b k,y.fp b k->¬zl b k/\¬zb b k)->
  (ys.Pairwise λa b=>∀x k,a.fp x k->¬b.fp x k)->jD (cs.map C.er) (ys.map C.er) s=some s'->
  ∃G',Inv w zl zb G' s'/\(∀t,(G' t).val=(G t).val)/\∀t b k,(G' t).fp b k->(G t).fp b k\/∃y∈ys,y.fp b k
 |[],ys,G,s,s',h,_,_,_,_,_,hb=>by simp only[jA,jD,cE] at hb;subst hb;exact⟨G,h,λ_=>rfl,λt b k hf=>.inl hf⟩
 |c::cs,[],_,_,_,_,hl,_,_,_,_,_=>by simp at hl
 |c::cs,y::ys,G,s,s',h,hl,hw,hy,hsep,fJ,hb=>by
  have hl':ys.length=cs.length:=by simpa using hl
  obtain⟨hp,hv,hok⟩:=hy 0 c y rfl rfl;have qC:=ey.1 fJ;have skip:jD (cs.map C.er) (ys.map C.er) s=some s'->∃G',Inv w zl zb G' s'/\(∀t,(G' t).val=(G t).val)/\∀t b k,(G' t).fp b k->(G t).fp b k\/∃y'∈y::ys,y'.fp b k:=λhb=>by obtain⟨G',g1,g2,g3⟩:=wg cs ys h hl' (λv r p hm=>hw v r p (bU _ hm)) (λi c y h1 h2=>hy (i+1) c y (by simpa using h1) (by simpa using h2)) (λy hm=>hsep y (bU _ hm)) qC.2 hb;exact⟨G',g1,g2,λt b k hf=>(g3 t b k hf).imp id λ⟨y,hm,hf⟩=>⟨y,bU _ hm,hf⟩⟩
  cases c with
  |ref v r p=>
   simp only[aS,C.er,jD] at hb;cases hg:(wV s r p && oU r p (cs.map C.er)) with
   |false=>rw[hg] at hb;cases hb
   |true=>
    rw[hg,iY] at hb;simp only[au] at hg;obtain⟨p0,q,d0,v0,hpq,h0,hq,ho⟩:=NB h hg.1;have xd:(G r).sub p=some (.dead v0):=by rw[hpq];exact C.nQ p0 h0 hq
    have hv0:v0=v:=(hw v r p (bE ..) _ xd).1;have kA:y.val=v0:=by rw[hv,hv0];rfl
    obtain⟨G1,e1,i1,i2,i3⟩:=h.NA h0 hq ho hp kA hok (hsep y (bE ..)).1 (hsep y (bE ..)).2;rw[<-hpq] at i1;have he:C.putAt p0 (G r) (d0.aK q y)=C.putAt p (G r) y:=by rw[hpq,C.uH p0 h0 hq]
    rw[he] at e1
    obtain⟨G',g1,g2,g3⟩:=wg cs ys i1 hl' (λv' r' p' hm=>by
     have hold:=hw v' r' p' (bU _ hm);have hno:=Hi hg.2 r' p' (by have:=gR (f:=C.er) hm;exact this);intro z hz;rw[e1] at hz;by_cases er:r'=r
     ·subst er;rw[cu] at hz
      have hpf:X.pfx p p'=false:=by
       cases hh:X.pfx p p' with
       |false=>rfl
       |true=>exact(hno ⟨rfl,hh⟩).elim
      obtain⟨z0,a1,a2,a3⟩:=C.H7 p p' xd (by rw[kA];rfl) hpf hz;obtain⟨b1,b2⟩:=hold z0 a1;exact⟨a2.trans b1,a3 b2⟩
     ·rw[cm _ _ er] at hz;exact hold z hz) (λi c y h1 h2=>hy (i+1) c y (by simpa using h1) (by simpa using h2)) (λy' hm=>⟨λt b k hf hf'=>by
      rcases i3 t b k hf' with hh|hh;·exact(hsep y' (bU _ hm)).1 t b k hf hh
      ·exact qC.1 y' hm b k hh hf,(hsep y' (bU _ hm)).2⟩) qC.2 hb
    refine⟨G',g1,λt=>(g2 t).trans (i2 t),λt b k hf=>?_⟩;rcases g3 t b k hf with hh|⟨y',hm,hh⟩
    ·rcases i3 t b k hh with hh|hh;·exact .inl hh
     ·exact .inr ⟨y,bE ..,hh⟩
    ·exact .inr ⟨y',bU _ hm,hh⟩
  |_=>exact skip (by simpa only[aS,C.er,jD] using hb)
end M
namespace M
open Go Go.RowKit
variable [Bs]
def P9{v:Value}(h:v.oneCell'=true):v.cells= #[v]:=by cases v<;>first|rfl|(simp[Value.oneCell'] at h)
namespace St
variable {c:Ctx}{G G1:Nat->C}{zl:Nat->Nat->Prop}{s s1:af}{a:Act}{w w':World}
def move(h:St c G zl s a w)(hi:Inv w' zl c.zb G1 s1)(hv:∀t,(G1 t).val=(G t).val){S:Nat->Nat->Prop}(hE:Ext S w w')(hS:∀b k,S b k->c.F0 b k\/c.w0.heap.size<=b)
  (hd:∀t b k,(G1 t).fp b k->(∃u,(G u).fp b k)\/w.heap.size<=b):St c G1 zl s1 a w' where
 inv:=hi
 val:=λt ht=>(hv t).trans (h.val t ht)
 size:=h.size
 small:=h.small
 defers:=h.defers
 tr:=⟨h.tr.ext.trans hE (λb k hs hb=>(hS b k hs).elim id (λhs=>by omega)),λt b k hf=>by
  rcases hd t b k hf with ⟨u,hu⟩|hb;·exact h.tr.dom u b k hu
  ·exact .inr (gv h.tr.ext.size hb),h.tr.kX,h.tr.zl,h.tr.gl,h.tr.tc⟩
 args:=λi v hi=>(hv _).trans (h.args i v hi)
def put(h:St c G zl s a w){x:C}{n:Nat}(hn:n<c.nt)(hok:x.ok w (Zf zl c.zb))(hsep:∀t,t≠n->∀b k,x.fp b k->¬(G t).fp b k)(hfz:∀b k,x.fp b k->¬zl b k/\¬c.zb b k)(hrf:x.rf G)
  (hdom:∀b k,x.fp b k->c.F0 b k\/c.w0.heap.size<=b):∃G',St c G' zl (M.put n x.er s) (a.put (some n) x.val) w:=by
 obtain⟨G',i1,i2,i3,i4,i5⟩:=h.inv.put n x hok hsep hfz hrf;refine⟨G',⟨i1,λt ht=>?_,by simp[Act.put,h.size],h.small,by simpa [Act.put] using h.defers,⟨h.tr.ext,λt b k hf=>?_,h.tr.kX,h.tr.zl,h.tr.gl,h.tr.tc⟩,λi v hi=>?_⟩⟩
 ·by_cases e:t=n;·subst e;rw[i2];simp only[Act.put,pV];rw[IZ (by rw[h.size];exact hn)];rfl
  ·rw[i3 t e,h.val t ht];simp only[Act.put,pV];rw[DN (λe'=>e e'.symm)]
 ·by_cases e:t=n;·subst e;exact hdom b k (i4 b k hf)
  ·exact h.tr.dom t b k (i5 t e b k hf)
 ·rw[i3 _ (by have:=h.small;omega)];exact h.args i v hi
def C5(h:St c G zl s a w){x:C}(hT:dA w zl c.zb G x G1 s1){n:Nat}(hn:n<c.nt):∃G',St c G' zl (M.put n x.er s1) (a.put (some n) x.val) w:=by have h1:St c G1 zl s1 a w:=h.move hT.inv hT.val (Ext.refl (λ_ _=>False) w) (λ_ _ hs=>hs.elim) (λt b k hf=>.inl ⟨t,hT.mono t b k hf⟩);exact h1.put hn hT.ok (λt _ b k hf=>hT.sep t b k hf) hT.fz hT.rf (λb k hf=>by obtain⟨t,ht⟩:=hT.dom b k hf;exact h.tr.dom t b k ht)
def uD(h:St c G zl s a w){x:C}(ho:cQ w zl c.zb G x){n:Nat}(hn:n<c.nt):∃G',St c G' zl (M.put n x.er s) (a.put (some n) x.val) w:=
 h.C5 (dA.self h.inv ho.ok ho.rf ho.bV) hn
def flat(h:St c G zl s a w){x:C}(hp:x.plain)(BA:∀m sz A len cap e,x≠.row m sz A len cap e)(hok:x.ok w (Zf zl c.zb)){n:Nat}(hn:n<c.nt):∃G',St c G' zl (M.put n x.er s) (a.put (some n) x.val) w:=
 h.uD ⟨hok,C.kJ hp G,λb k hf=>by cases x<;>first|exact hf.elim|exact hp.elim|exact(BA _ _ _ _ _ _ rfl).elim⟩ hn
end St
def Good(P:Program)(c:Ctx)(o:Oper)(a:Act)(w:World)(K:af->Prop):Prop:=
 ∃v w',((execOp a.eval o).run P w=.ok (.value v) w'\/((execOp a.eval o).run P w=.ok .skip w'/\v=undef))/\∃G' ay s',K s'/\St c G' ay s' (a.put o.dst v) w'
def cA(P:Program)(c:Ctx)(o:Oper)(a:Act)(w:World)(K:af->Prop):Prop:=
 ∃v,(∀w',Ext (λ_ _=>False) w w'->(execOp a.eval o).run P w'=.ok (.value v) w')/\∃G' ay s',K s'/\St c G' ay s' (a.put o.dst v) w
def cA.good{P:Program}{c:Ctx}{o:Oper}{a:Act}{w:World}{K:af->Prop}(h:cA P c o a w K):Good P c o a w K:=by obtain⟨v,hr,h⟩:=h;exact⟨v,w,.inl (hr w (Ext.refl _ _)),h⟩
def Rel(q:Bool)(w w':World):Prop:=q=true->Ext (λ_ _=>False) w w'
def Rel.refl(q:Bool)(w:World):Rel q w w:=λ_=>Ext.refl _ _
def gB(P:Program)(c:Ctx)(o:Oper)(a:Act)(w:World)(K:af->Prop):Prop:=
 ∃v w',(execOp a.eval o).run P w=.ok (.value v) w'/\Ext (λ_ _=>False) w w'/\∃G' ay s',K s'/\St c G' ay s' (a.put o.dst v) w'
def gB.good{P:Program}{c:Ctx}{o:Oper}{a:Act}{w:World}{K:af->Prop}(h:gB P c o a w K):Good P c o a w K:=by obtain⟨v,w',hr,_,h⟩:=h;exact⟨v,w',.inl hr,h⟩
def cA.quiet{P:Program}{c:Ctx}{o:Oper}{a:Act}{w:World}{K:af->Prop}(h:cA P c o a w K):gB P c o a w K:=by obtain⟨v,hr,h⟩:=h;exact⟨v,w,hr w (Ext.refl _ _),Ext.refl _ _,h⟩
def wu:Value->X->Bool
 |.int k n,.int k' n'=>decide (k=k') && decide (n=n')
 |.bool b,.bool b'=>b==b'
 |.string s,.str s'=>decide (s=s') && decide (s.size<=9223372036854775807)
 |.slice none 0 0,.row .own _ []=>true
 |_,_=>false
def aG:Operand->AV->Bool
 |.tmp n,.t n'=>n==n' && decide (n<base)
 |.const v,.k .dead=>true
 |.const v,.k x=>wu v x
 |.func f,.k (.fn f' [])=>f==f'
 |_,_=>false
section
variable {c:Ctx}{G:Nat->C}{zl:Nat->Nat->Prop}{s:af}{a:Act}{w:World}
def E1{v:Value}{x:X}(h:wu v x=true):∃d:C,d.er=x/\d.val=v/\cQ w zl c.zb G d/\d.plain:=by
 unfold wu at h;split at h;·simp only[au,aP] at h;obtain⟨rfl,rfl⟩:=h;exact⟨.int _ _,rfl,rfl,⟨trivial,trivial,λ_ _ h=>h⟩,trivial⟩
 ·simp only[cT] at h;subst h;exact⟨.bool _,rfl,rfl,⟨trivial,trivial,λ_ _ h=>h⟩,trivial⟩
 ·simp only[au,aP] at h;obtain⟨rfl,h⟩:=h;exact⟨.str _,rfl,rfl,⟨h,trivial,λ_ _ h=>h⟩,trivial⟩
 ·rename_i sz;refine⟨.row .own sz none 0 0 λ_ _=>.dead undef,rfl,rfl,⟨⟨ez _,λi j hi=>(by omega),λi j hi=>(by omega),λ_=>.inl ⟨rfl,rfl⟩,λi j hi=>(by omega)⟩,trivial,?_⟩,trivial⟩;rintro b k ⟨_,⟨o,ho⟩|⟨i,j,hi,_⟩⟩;·cases ho
  ·omega
 ·cases h
def bp(h:St c G zl s a w){o:Operand}{x:AV}(hc:aG o x=true):∃d:C,d.er=aj s x/\d.val=a.eval o/\cQ w zl c.zb G d:=by
 unfold aG at hc;split at hc;·simp only[au,cT,aP] at hc;obtain⟨rfl,hb⟩:=hc;rename_i n;obtain⟨a1,a2,a3⟩:=Hg h n;exact⟨_,a1,a2.trans (h.val n hb),a3⟩
 ·rename_i v;exact⟨.dead v,rfl,rfl,⟨trivial,trivial,λ_ _ h=>h⟩⟩
 ·obtain⟨d,h1,h2,h3,_⟩:=E1 (w:=w) (zl:=zl) (c:=c) (G:=G) hc;exact⟨d,h1,h2,h3⟩
 ·simp only[cT] at hc;subst hc;exact⟨.fn _ 0 λ_=>.dead undef,rfl,rfl,⟨λj hj=>(by omega),λj hj=>(by omega),λ_ _ h=>h⟩⟩
 ·cases hc
def jH{d:C}{k:IntKind}{n:Int}(h:d.er=.int k n):d=.int k n:=by cases d<;>simp[C.er] at h⊢ <;>first|exact h|skip
def mO{d:C}{b:Bool}(h:d.er=.bool b):d=.bool b:=by cases d<;>simp[C.er] at h⊢;exact h
def wG{d:C}{t:ByteArray}(h:d.er=.str t):d=.str t:=by cases d<;>simp[C.er] at h⊢;exact h
def Hf{P:Program}(h:St c G zl s a w){o:Oper}{K:af->Prop}{d:Nat}{x:AV}{x':Operand}(ho:o.op=.move x'\/o.op=.assign x')(hd:o.dst=some d)(hn:d<c.nt)(hx:aG x' x=true)(hK:aI P (.mv d x) s K):cA P c o a w K:=by
 obtain⟨y,e1,e2,e3⟩:=bp h hx;obtain⟨G',h'⟩:=h.uD e3 hn;refine⟨a.eval x',λw' _=>?_,G',zl,_,hK,?_⟩;·rcases ho with ho|ho<;>simp[execOp,ho]
 ·rw[hd,<-e2,<-e1];exact h'
def Qe{P:Program}(h:St c G zl s a w){o:Oper}{K:af->Prop}{d:Nat}{tk:Tk}{x:AV}{x':Operand}(ho:o.op=.assign x')(hd:o.dst=some d)(hn:d<c.nt)(hx:aG x' x=true)(hK:aI P (.bk d tk x) s K):gB P c o a w K:=by obtain⟨y,e1,e2,e3⟩:=bp h hx;obtain⟨y',G1,f1,f2,_,f4⟩:=lW tk h.inv e3;obtain⟨G',h'⟩:=h.C5 f4 hn;refine⟨a.eval x',w,by simp[execOp,ho],Ext.refl _ _,G',zl,_,hK,?_⟩;rw[hd,<-e2,<-f2,<-e1,<-f1];exact h'
def QD{P:Program}(h:St c G zl s a w){o:Oper}{K:af->Prop}{d:Nat}{x y z:AV}{x' y' z':Operand}(ho:o.op=.pick x' y' z')(hd:o.dst=some d)(hn:d<c.nt)(hx:aG x' x=true)(hy:aG y' y=true)(hz:aG z' z=true)
  (hK:aI P (.pick d x y z) s K):cA P c o a w K:=by
 obtain⟨p,p1,p2,p3⟩:=bp h hx;obtain⟨q,q1,q2,q3⟩:=bp h hy;obtain⟨r,r1,r2,r3⟩:=bp h hz;simp only[aI] at hK;split at hK
 ·rename_i t ht;rw[<-p1] at ht;have hp:=mO ht;subst hp
  have hsel:∃u:C,u.er=uE t (aj s y) (aj s z)/\u.val=(if t then a.eval y' else a.eval z')/\cQ w zl c.zb G u:=by
   rw[<-q1,<-r1,<-q2,<-r2];unfold uE;split;·rename_i b1 b2 h1 h2;have hq:=mO h1;have hr:=mO h2;subst hq;subst hr;refine⟨.bool (bif t then b1 else b2),rfl,?_,⟨trivial,trivial,λ_ _ h=>h⟩⟩;cases t<;>rfl
   ·cases t;·exact⟨r,rfl,rfl,r3⟩
    ·exact⟨q,rfl,rfl,q3⟩
  obtain⟨u,u1,u2,u3⟩:=hsel;obtain⟨G',h'⟩:=h.uD u3 hn;refine⟨if t then a.eval y' else a.eval z',λw' _=>?_,G',zl,_,hK,?_⟩
  ·have:a.eval x'=.bool t:=by rw[<-p2];rfl
   simp[execOp,ho,this,asBool]
  ·rw[hd,<-u2,<-u1];exact h'
 ·exact hK.elim
end
end M
namespace M
open Go Go.RowKit
variable [Bs]
section
variable {P:Program}{c:Ctx}{G:Nat->C}{zl:Nat->Nat->Prop}{s:af}{a:Act}{w:World}{o:Oper}{K:af->Prop}
def Al(x y:ByteArray):(x.toList==y.toList)=decide (x=y):=by
 rw[Bool.eq_iff_iff];simp only[cT,aP,Go.ByteArray.toList_eq];constructor;·intro h;cases x;cases y;congr 1;exact Array.toList_inj.1 h
 ·intro h;rw[h]
def cG(h:St c G zl s a w){d:Nat}(hd:o.dst=some d)(hn:d<c.nt){x:C}(hp:x.plain)(BA:∀m sz A len cap e,x≠.row m sz A len cap e)(hok:x.ok w (Zf zl c.zb))
  (hrun:∀w',Ext (λ_ _=>False) w w'->(execOp a.eval o).run P w'=.ok (.value x.val) w')(hK:K (put d x.er s)):cA P c o a w K:=by obtain⟨G',h'⟩:=h.flat hp BA hok hn;exact⟨_,hrun,G',zl,_,hK,by rw[hd];exact h'⟩
def fY(h:St c G zl s a w){d:Nat}(hd:o.dst=some d)(hn:d<c.nt){x:C}(hx:cQ w zl c.zb G x)
  (hrun:∀w',Ext (λ_ _=>False) w w'->(execOp a.eval o).run P w'=.ok (.value x.val) w')(hK:K (put d x.er s)):cA P c o a w K:=by obtain⟨G',h'⟩:=h.uD hx hn;exact⟨_,hrun,G',zl,_,hK,by rw[hd];exact h'⟩
def QK(h:St c G zl s a w){d:Nat}{op:UnOp}{ty:TypeId}{x:AV}{x':Operand}(ho:o.op=.unOp op ty x')(hd:o.dst=some d)(hn:d<c.nt)(hx:aG x' x=true)
  (hK:aI P (.un d op x) s K):cA P c o a w K:=by
 obtain⟨y,e1,e2,e3⟩:=bp h hx;obtain⟨k1,k2⟩:=hK;rw[<-e1] at k1 k2;cases y with
 |int k n=>cases op<;>simp only[rZ,C.er] at k1;refine cG h hd hn (x:=.int k (k.wrap (0 - n))) trivial (λ_ _ _ _ _ _ e=>(by cases e)) trivial (λw' _=>?_) k2;simp[execOp,ho,<-e2,C.val,Op.unary,Op.intArith]
 |bool b=>cases op<;>simp only[rZ,C.er] at k1;refine cG h hd hn (x:=.bool (!b)) trivial (λ_ _ _ _ _ _ e=>(by cases e)) trivial (λw' _=>?_) k2;simp[execOp,ho,<-e2,C.val,Op.unary]
 |_=>cases op<;>exact k1.elim
def Qg(h:St c G zl s a w){d:Nat}{op:BinOp}{ty ty':TypeId}{x y:AV}{x' y':Operand}(ho:o.op=.binOp op ty x' y' ty')(hd:o.dst=some d)(hn:d<c.nt)(hx:aG x' x=true)(hy:aG y' y=true)
  (hK:aI P (.bin d op x y) s K):cA P c o a w K:=by
 obtain⟨p,p1,p2,p3⟩:=bp h hx;obtain⟨q,q1,q2,q3⟩:=bp h hy;obtain⟨k1,k2⟩:=hK;rw[<-p1,<-q1] at k1 k2;cases p with
 |int k m=>
  cases q with
  |int k' n=>
   have hrun:∀v:C,(∀w,(binOp op ty (.int k m) (.int k' n)).run P w=.ok v.val w)->∀w',Ext (λ_ _=>False) w w'->(execOp a.eval o).run P w'=.ok (.value v.val) w':=by
    intro v hv w' _;have hg:eqGuard op ty x' y' (.int k m) (.int k' n)=pure ():=by unfold eqGuard;cases op<;>rfl
    simp[execOp,ho,<-p2,<-q2,C.val,hg,hv]
   cases op<;>simp only[qa,C.er] at k1;case add=>subst k1;exact cG h hd hn (x:=.int k _) trivial (λ_ _ _ _ _ _ e=>(by cases e)) trivial (hrun _ (λw=>by simp[binOp,Op.intArith,C.val])) k2
   case sub=>subst k1;exact cG h hd hn (x:=.int k _) trivial (λ_ _ _ _ _ _ e=>(by cases e)) trivial (hrun _ (λw=>by simp[binOp,Op.intArith,C.val])) k2
   case mul=>subst k1;exact cG h hd hn (x:=.int k _) trivial (λ_ _ _ _ _ _ e=>(by cases e)) trivial (hrun _ (λw=>by simp[binOp,Op.intArith,C.val])) k2
   case quo=>obtain⟨rfl,k1⟩:=k1;exact cG h hd hn (x:=.int k _) trivial (λ_ _ _ _ _ _ e=>(by cases e)) trivial (hrun _ (λw=>by simp[binOp,Op.intDiv,C.val,k1])) k2
   case rem=>obtain⟨rfl,k1⟩:=k1;exact cG h hd hn (x:=.int k _) trivial (λ_ _ _ _ _ _ e=>(by cases e)) trivial (hrun _ (λw=>by simp[binOp,Op.intDiv,C.val,k1])) k2
   case shl=>exact cG h hd hn (x:=.int k _) trivial (λ_ _ _ _ _ _ e=>(by cases e)) trivial (hrun _ (λw=>by simp[binOp,Op.shift,C.val,show ¬n<0 by omega])) k2
   case shr=>exact cG h hd hn (x:=.int k _) trivial (λ_ _ _ _ _ _ e=>(by cases e)) trivial (hrun _ (λw=>by simp[binOp,Op.shift,C.val,show ¬n<0 by omega])) k2
   case and=>subst k1;exact cG h hd hn (x:=.int k _) trivial (λ_ _ _ _ _ _ e=>(by cases e)) trivial (hrun _ (λw=>by simp[binOp,Op.intBits,C.val])) k2
   case or=>subst k1;exact cG h hd hn (x:=.int k _) trivial (λ_ _ _ _ _ _ e=>(by cases e)) trivial (hrun _ (λw=>by simp[binOp,Op.intBits,C.val])) k2
   case xor=>subst k1;exact cG h hd hn (x:=.int k _) trivial (λ_ _ _ _ _ _ e=>(by cases e)) trivial (hrun _ (λw=>by simp[binOp,Op.intBits,C.val])) k2
   case eql=>subst k1;exact cG h hd hn (x:=.bool _) trivial (λ_ _ _ _ _ _ e=>(by cases e)) trivial (hrun _ (λw=>by simp only[binOp,Op.intCmp,C.val,aC (Classical.not_not.2 rfl)];rfl)) k2
   case neq=>subst k1;exact cG h hd hn (x:=.bool _) trivial (λ_ _ _ _ _ _ e=>(by cases e)) trivial (hrun _ (λw=>by simp only[binOp,Op.intCmp,C.val,aC (Classical.not_not.2 rfl)];rfl)) k2
   case lss=>subst k1;exact cG h hd hn (x:=.bool _) trivial (λ_ _ _ _ _ _ e=>(by cases e)) trivial (hrun _ (λw=>by simp[binOp,Op.intCmp,C.val])) k2
   case leq=>subst k1;exact cG h hd hn (x:=.bool _) trivial (λ_ _ _ _ _ _ e=>(by cases e)) trivial (hrun _ (λw=>by simp[binOp,Op.intCmp,C.val])) k2
   case gtr=>subst k1;exact cG h hd hn (x:=.bool _) trivial (λ_ _ _ _ _ _ e=>(by cases e)) trivial (hrun _ (λw=>by simp[binOp,Op.intCmp,C.val])) k2
   case geq=>subst k1;exact cG h hd hn (x:=.bool _) trivial (λ_ _ _ _ _ _ e=>(by cases e)) trivial (hrun _ (λw=>by simp[binOp,Op.intCmp,C.val])) k2
  |_=>exact k1.elim
 |str m=>
  cases q with
  |str n=>
   have hrun:∀v:C,(∀w,(binOp op ty (.string m) (.string n)).run P w=.ok v.val w)->∀w',Ext (λ_ _=>False) w w'->(execOp a.eval o).run P w'=.ok (.value v.val) w':=by
    intro v hv w' _;have hg:eqGuard op ty x' y' (.string m) (.string n)=pure ():=by unfold eqGuard;cases op<;>rfl
    simp[execOp,ho,<-p2,<-q2,C.val,hg,hv]
   cases op<;>simp only[qa,C.er] at k1
   case add=>
    have hsz:(m++n).size=m.size+n.size:=by simp
    exact cG h hd hn (x:=.str _) trivial (λ_ _ _ _ _ _ e=>(by cases e)) (by show (m++n).size<=_;omega) (hrun _ (λw=>by
     have:¬((m.size+n.size:Nat):Int)>IntKind.i64.max:=by show ¬(((m.size+n.size:Nat):Int)>9223372036854775807);omega
     simp only[binOp,Op.stringOp,aC this,C.val,Sem.run_pure])) k2
   case eql=>exact cG h hd hn (x:=.bool _) trivial (λ_ _ _ _ _ _ e=>(by cases e)) trivial (hrun _ (λw=>by simp only[binOp,Op.stringOp,C.val,Al,Sem.run_pure])) k2
   case neq=>exact cG h hd hn (x:=.bool _) trivial (λ_ _ _ _ _ _ e=>(by cases e)) trivial (hrun _ (λw=>by simp only[binOp,Op.stringOp,C.val,Al,Sem.run_pure])) k2
  |_=>exact k1.elim
 |_=>exact k1.elim
def run_eql_bool{ty:TypeId}(ht:P.underlying ty=some .bool)(x y:Bool):(binOp .eql ty (.bool x) (.bool y)).run P w=.ok (.bool (x==y)) w:=by show ((do pure (Value.bool (<-Op.equal ty (.bool x) (.bool y))):Sem Value).run P w)=_;rw[Sem.run_bind];unfold Op.equal;show ((Op.equalIn (9999+1) ty (.bool x) (.bool y)).run P w).andThen _=_;rw[run_equalIn_bool' w 9999 ty x y ht];rfl
def run_neq_bool{ty:TypeId}(ht:P.underlying ty=some .bool)(x y:Bool):(binOp .neq ty (.bool x) (.bool y)).run P w=.ok (.bool (!(x==y))) w:=by show ((do pure (Value.bool (!(<-Op.equal ty (.bool x) (.bool y)))):Sem Value).run P w)=_;rw[Sem.run_bind];unfold Op.equal;show ((Op.equalIn (9999+1) ty (.bool x) (.bool y)).run P w).andThen _=_;rw[run_equalIn_bool' w 9999 ty x y ht];rfl
def FY(op:BinOp)(ty:TypeId)(p q:Operand)(x y:Bool):eqGuard op ty p q (.bool x) (.bool y)=pure ():=by unfold eqGuard;cases op<;>rfl
def Qf(h:St c G zl s a w){d:Nat}{neg:Bool}{ty ty':TypeId}{x y:AV}{x' y':Operand}(ho:o.op=.binOp (bif neg then .neq else .eql) ty x' y' ty')(ht:P.underlying ty=some .bool)(hd:o.dst=some d)(hn:d<c.nt)(hx:aG x' x=true)(hy:aG y' y=true)
  (hK:aI P (.beq d neg x y) s K):cA P c o a w K:=by
 obtain⟨p,p1,p2,p3⟩:=bp h hx;obtain⟨q,q1,q2,q3⟩:=bp h hy;simp only[aI] at hK;split at hK
 ·rename_i b1 b2 h1 h2;rw[<-p1] at h1;rw[<-q1] at h2;have e1:=mO h1;have e2:=mO h2;subst e1;subst e2;refine cG h hd hn (x:=.bool (xor neg (b1==b2))) trivial (λ_ _ _ _ _ _ e=>(by cases e)) trivial (λw' _=>?_) hK;cases neg;·simp only[execOp,ho,<-p2,<-q2,C.val,FY,Sem.run_bind,Sem.run_pure,Result.andThen_ok,mb,run_eql_bool ht,Bool.false_bne]
  ·simp only[execOp,ho,<-p2,<-q2,C.val,FY,Sem.run_bind,Sem.run_pure,Result.andThen_ok,iY,run_neq_bool ht,Bool.true_bne]
 ·exact hK.elim
def Qp(h:St c G zl s a w){d:Nat}{k:IntKind}{sr dt:TypeId}{sd:TypeDesc}{x:AV}{x':Operand}(ho:o.op=.convert sr dt x')(hs:P.underlying sr=some sd)(hu:P.underlying dt=some (.int k))(hd:o.dst=some d)(hn:d<c.nt)(hx:aG x' x=true)
  (hK:aI P (.conv d k x) s K):cA P c o a w K:=by
 obtain⟨y,e1,e2,e3⟩:=bp h hx;simp only[aI] at hK;split at hK;·rename_i k' n hy;rw[<-e1] at hy;have:=jH hy;subst this;refine cG h hd hn (x:=.int k _) trivial (λ_ _ _ _ _ _ e=>(by cases e)) trivial (λw' _=>?_) hK;simp[execOp,ho,<-e2,C.val,convert,run_underlying hs,run_underlying hu,Conv.intToInt]
 ·exact hK.elim
def Qn(h:St c G zl s a w){d:Nat}{x:AV}{x':Operand}(ho:o.op=.nilCheck x')(hd:o.dst=some d)(hn:d<c.nt)(hx:aG x' x=true)
  (hK:aI P (.dr d x) s K):cA P c o a w K:=by
 obtain⟨y,e1,e2,e3⟩:=bp h hx;simp only[aI] at hK;rw[<-e1] at hK;cases y with
 |av v r p i k=>obtain⟨y,hs,hy⟩:=e3.rf;refine fY h hd hn e3 (λw' _=>?_) hK;rcases hy with ⟨m,sz,g,o',len,cap,e,rfl,hv⟩|⟨m,g,o',n,cc,rfl,_,hv⟩<;>(simp only[C.val] at e2;subst hv;simp[execOp,ho,<-e2,C.val])
 |ptr m g o' n f=>refine fY h hd hn e3 (λw' _=>?_) hK;simp only[C.val] at e2;simp[execOp,ho,<-e2,C.val]
 |fn f n g=>refine fY h hd hn e3 (λw' _=>?_) hK;simp only[C.val] at e2;simp[execOp,ho,<-e2,C.val]
 |_=>exact hK.elim
end
end M
namespace M
open Go Go.RowKit
variable [Bs]
def mz(g k j:Nat):(⟨g,k,none⟩:Addr).add j=⟨g,k+j,none⟩:=by
 unfold Addr.add;split;·rename_i h;subst h;rfl
 ·rfl
def kK(n c:Nat):(List.range n).drop c=(List.range (n - c)).map (· +c):=by
 apply gy;intro i;rw[sy,cg];by_cases h:c+i<n;·rw[nX h,nX (by omega)];simp[nT]
 ·rw[iz (by simp;omega),iz (by simp;omega)];rfl
section
variable {P:Program}{c:Ctx}{G:Nat->C}{zl:Nat->Nat->Prop}{s:af}{a:Act}{w:World}{o:Oper}{K:af->Prop}
structure JS (w:World) (zl zb:Nat->Nat->Prop) (G:Nat->C) (v:Value) (l:List C):Prop where
 addr:∃g k,v=.pointer (some ⟨g,k,none⟩)/\∀j (hj:j<l.length),w.cell? ⟨g,k+j,none⟩=some l[j].val
 uD:∀x∈l,cQ w zl zb G x/\x.cell
def GJ{zb:Nat->Nat->Prop}(h:Inv w zl zb G s){y:C}(hy:cQ w zl zb G y){cs:List X}(hc:dZ s y.er=some cs):∃l:List C,l.map C.er=cs/\JS w zl zb G y.val l:=by
 cases y with
 |ptr m g o n f=>
  simp only[C.er,dZ] at hc;injection hc with hc
  obtain⟨h1,h2,h3,h4⟩:=hy.ok;refine⟨(List.range n).map f,by rw[<-hc,bT];rfl,⟨⟨g,o,rfl,λj hj=>?_⟩,λx hx=>?_⟩⟩;·simp only[cM,pX] at hj;simp only[zQ,DI];exact(h1 j hj).1
  ·obtain⟨j,hj,rfl⟩:=aL.1 hx;have hj':j<n:=by simpa using hj
   obtain⟨a1,a2,a3⟩:=h3 j hj';exact⟨⟨a3,hy.rf j hj',λb k hf=>hy.bV b k (C.ia a1 a2 hj' hf)⟩,a1⟩
 |av v r p i k0=>
  obtain⟨z,hz,hp⟩:=hy.rf;have nh:=C.eO p hz (h.ok r);have Gz:=Inv.pL.vo p (h.ok r) hz (h.rf r);simp only[C.er,dZ,look] at hc;rw[<-h.er,C.ep,hz] at hc;simp only[bM] at hc;rcases hp with ⟨m,sz,g,o,len,cap,e,rfl,rfl⟩|⟨m,g,o,n,f,rfl,rfl,rfl⟩
  ·simp only[C.er,C.b8] at hc;by_cases hi:i<len
   ·rw[aA hi] at hc;simp only[bM,cE] at hc;refine⟨((List.range (sz - k0)).map (· +k0)).map λj=>(e i j).fC r (p++[(i,j)]),?_,⟨⟨g,o+i*sz+k0,rfl,λj hj=>?_⟩,λx hx=>?_⟩⟩;·rw[<-hc,<-jz,kK];rw[C.p8 r p i ((List.range (sz - k0)).map (· +k0)) k0 (λj=>e i j) (by simp)];simp only[bT];rfl
    ·simp only[cM,pX] at hj;simp only[zQ,DI,C.sK];obtain⟨g',o',hA,hcell,_⟩:=nh.2.1 i (j+k0) hi (by omega);injection hA with hA
     injection hA with e1 e2
     injection e2 with e2
     subst e1;subst e2;rw[show o+i*sz+k0+j=o+i*sz+(j+k0) by omega];exact hcell
    ·obtain⟨j,hj,rfl⟩:=aL.1 hx;obtain⟨j',hj',rfl⟩:=aL.1 hj;have hj2:j'+k0<sz:=by simp at hj';omega
     obtain⟨a1,a2,a3,a4⟩:=nh.2.2.1 i (j'+k0) hi hj2;refine⟨⟨C.sI _ _ _ a4,C.sJ _ _ _ (C.nQ p hz (by simp only[C.step,aA (And.intro hi hj2)])) ?_,C.sH _ _ _ (C.Aw a1)⟩,C.z7 _ _ _ a1⟩;have:=Inv.pL.vo (w:=w) (zl:=zl) (zb:=zb) (G:=G) [(i,j'+k0)] nh (d:=e i (j'+k0)) (by simp only[C.sub,C.step,aA (And.intro hi hj2)];rfl) Gz;exact this
   ·rw[aC hi] at hc;cases hc
  ·simp only[C.er,cE] at hc;refine⟨((List.range (n - k0)).map (· +k0)).map λj=>(f j).fC r (p++[(0,j)]),?_,⟨⟨g,o+k0,rfl,λj hj=>?_⟩,λx hx=>?_⟩⟩;·rw[<-hc,<-jz,kK];rw[C.p8 r p 0 ((List.range (n - k0)).map (· +k0)) k0 f (by simp)];simp only[bT];rfl
   ·simp only[cM,pX] at hj;simp only[zQ,DI,C.sK];rw[show o+k0+j=o+(j+k0) by omega];exact(nh.1 (j+k0) (by omega)).1
   ·obtain⟨j,hj,rfl⟩:=aL.1 hx;obtain⟨j',hj',rfl⟩:=aL.1 hj;have hj2:j'+k0<n:=by simp at hj';omega
    obtain⟨a1,a2,a3⟩:=nh.2.2.1 (j'+k0) hj2;exact⟨⟨C.sI _ _ _ a3,C.sJ _ _ _ (C.nQ p hz (aA (And.intro rfl hj2))) (Gz _ hj2),C.sH _ _ _ (C.Aw a1)⟩,C.z7 _ _ _ a1⟩
 |_=>simp[C.er,dZ] at hc
def J1{zb:Nat->Nat->Prop}{l:List C}(h:∀x∈l,cQ w zl zb G x/\x.cell):cQ w zl zb G (eC l) where
 ok:=⟨λj hj=>⟨(h _ (bO hj _)).2,(h _ (bO hj _)).1.ok⟩,λj hj b k hf=>((h _ (bO hj _)).1.bV b k hf).elim⟩
 rf:=λj hj=>(h _ (bO hj _)).1.rf
 bV:=λb k hf=>by obtain⟨x,hx,hf⟩:=(mA _ _ _).1 hf;exact(h x hx).1.bV b k hf
def He(h:St c G zl s a w){d sz:Nat}{agg:Bool}{ty:TypeId}{x:AV}{x':Operand}(ho:o.op=.load ty x')(hsz:∃i,P.info? ty=some i/\i.size=sz)(jK:∃dd,P.underlying ty=some dd/\(match dd with|.struct _=>true|.array _ _=>true|_=>false)=agg)
  (h1:agg=true\/sz=1)(hd:o.dst=some d)(hn:d<c.nt)(hx:aG x' x=true)
  (hK:aI P (.load d sz agg x) s K):cA P c o a w K:=by
 obtain⟨y,e1,e2,e3⟩:=bp h hx;obtain⟨cs,k1,k2,k3⟩:=hK;rw[<-e1] at k1;obtain⟨l,l1,⟨g,k,hv,hcell⟩,l3⟩:=GJ h.inv e3 k1;have hlen:l.length=cs.length:=by rw[<-l1];simp
 obtain⟨i,hi,gY⟩:=hsz;obtain⟨dd,tu,hda⟩:=jK;have oE:∀w:World,(isAgg ty).run P w=.ok agg w:=by intro w;subst hda;simp only[isAgg,Sem.run_bind,run_underlying tu,Result.andThen_ok];cases dd<;>rfl
 have hsize:∀w:World,(Go.sizeOf ty).run P w=.ok sz w:=by intro w;simp[Go.sizeOf,typeInfo,hi,gY]
 have Gd:∀w',Ext (λ_ _=>False) w w'->∀j (hj:j<l.length),w'.cell? ⟨g,k+j,none⟩=some l[j].val:=λw' hE j hj=>hE.cell (λhs=>hs) (hcell j hj);have jj:∀w:World,(execOp a.eval o).run P w=((loadVar ty ⟨g,k,none⟩).run P w).andThen λv w'=>.ok (.value v) w':=by intro w;simp[execOp,ho,<-e2,hv,Instr.loadAt,Instr.sureAddr]
 cases agg with
 |true=>
  have hl:∀w',Ext (λ_ _=>False) w w'->(loadCells ⟨g,k,none⟩ sz).run P w'=.ok ((List.range sz).map λj=>((l.take sz).getD j (.dead undef)).val).toArray w':=λw' hE=>run_loadCells w' _ sz _ (λj hj=>by rw[mz,Gd w' hE j (by omega)];congr 1;rw[gP,DH hj,bH (by omega)];rfl)
  have hval:(eC (l.take sz)).val=.agg ((List.range sz).map λj=>((l.take sz).getD j (.dead undef)).val).toArray:=by simp only[eC,C.val,List.length_take];rw[jZ (by omega)]
  refine fY h hd hn (x:=eC (l.take sz)) (J1 λx hx=>l3 x (DM hx)) ?_ ?_;·intro w' hE;rw[jj,hval];simp only[loadVar,Sem.run_bind,oE,Result.andThen_ok,cU,hsize,hl w' hE,Sem.run_pure]
  ·rw[p7,kW,l1];exact k3
 |false=>
  have hs1:sz=1:=h1.resolve_left (by simp);subst hs1;cases l with
  |nil=>simp at hlen;omega
  |cons y0 l=>
   refine fY h hd hn (x:=y0) (l3 y0 (bE ..)).1 ?_ ?_;·intro w' hE;have hc0:=Gd w' hE 0 (by simp);simp only[lZ,List.getElem_cons_zero] at hc0;rw[jj];simp only[loadVar,Sem.run_bind,oE,Result.andThen_ok,gx,iZ,run_load,hc0]
   ·rw[<-l1] at k3;exact k3
def Qr(h:St c G zl s a w){d off fi:Nat}{ty:TypeId}{fs:Array Field}{f:Field}{x:AV}{x':Operand}(ho:o.op=.fieldAddr ty x' fi)(hu:P.underlying ty=some (.struct fs))(hf:fs[fi]?=some f)(hfo:f.offset=off)(hfs:∃i,P.info? f.type=some i/\i.size≠0)
  (hd:o.dst=some d)(hn:d<c.nt)(hx:aG x' x=true)(hK:aI P (.lq d x off) s K):cA P c o a w K:=by
 obtain⟨y,e1,e2,e3⟩:=bp h hx;obtain⟨i,hi,hi0⟩:=hfs;have hrun:∀g k,a.eval x'=.pointer (some ⟨g,k,none⟩)->∀w',Ext (λ_ _=>False) w w'->(execOp a.eval o).run P w'=.ok (.value (.pointer (some ⟨g,k+off,none⟩))) w':=by intro g k hv w' _;simp[execOp,ho,hv,Instr.fieldAt,Instr.sureAddr,run_underlying hu,hf,fieldPlace,Go.sizeOf,typeInfo,hi,hi0,mz,hfo]
 simp only[aI] at hK;rw[<-e1] at hK;cases y with
 |av v r p i' k0=>
  obtain⟨z,hz,hp⟩:=e3.rf
  have hcase:∃g k,v=.pointer (some ⟨g,k,none⟩)/\(C.av (.pointer (some ⟨g,k+off,none⟩)) r p i' (k0+off)).rf G:=by
   rcases hp with ⟨m,sz,g,o',len,cap,e,rfl,rfl⟩|⟨m,g,o',n,f',rfl,rfl,rfl⟩;·exact⟨_,_,rfl,_,hz,.inl ⟨_,_,_,_,_,_,_,rfl,by rw[nS]⟩⟩
   ·exact⟨_,_,rfl,_,hz,.inr ⟨_,_,_,_,_,rfl,rfl,by rw[nS]⟩⟩
  obtain⟨g,k,rfl,hrf⟩:=hcase;refine fY h hd hn (x:=.av (.pointer (some ⟨g,k+off,none⟩)) r p i' (k0+off)) ⟨trivial,hrf,λ_ _ hh=>hh⟩ ?_ hK;exact hrun g k e2.symm
 |ptr m g o' n f'=>
  obtain⟨h1,h2,h3,h4⟩:=e3.ok;refine fY h hd hn (x:=.ptr m g (o'+off) (n - off) λj=>f' (j+off)) ⟨⟨λj hj=>?_,h2,λj hj=>h3 (j+off) (by omega),λj hj b k hf=>?_⟩,λj hj=>e3.rf (j+off) (by omega),λb k hf=>?_⟩ ?_ ?_;·rw[show o'+off+j=o'+(j+off) by omega];exact h1 (j+off) (by omega)
  ·obtain⟨a1,a2⟩:=h4 (j+off) (by omega) b k hf;exact⟨λhm hb=>a1 hm (by omega),λj' hj' hne=>a2 (j'+off) (by omega) (by omega)⟩
  ·obtain⟨hm,hf|⟨j,hj,hf⟩⟩:=hf;·exact e3.bV b k ⟨hm,.inl (by omega)⟩
   ·exact e3.bV b k ⟨hm,.inr ⟨j+off,by omega,hf⟩⟩
  ·exact hrun g o' e2.symm
  ·have:(C.ptr m g (o'+off) (n - off) λj=>f' (j+off)).er=.ptr m (((List.range n).map λj=>(f' j).er).drop off):=by simp only[C.er];rw[<-jz,kK,bT];rfl
   rw[this];exact hK
 |_=>exact hK.elim
end
end M
namespace M
open Go Go.RowKit
variable [Bs]
def wP(P:Program)(t:TypeId)(k:Nat):Bool:=match P.underlying t with
 |some (.int _)=>k==0
 |some .bool=>k==1
 |some .string=>k==2
 |_=>false
def wO(P:Program):Nat->List Nat->List Field->Bool
 |_,[],[]=>true
 |n,k::ks,f::l=>decide (f.offset=n) && decide (f.name≠ "_") && wP P f.type k && wO P (n+1) ks l
 |_,_,_=>false
def A5(P:Program)(t:TypeId)(ks:List Nat):Bool:=(match P.underlying t with
 |some (.struct fs)=>wO P 0 ks fs.toList
 |_=>false) && !P.stoodInHeld t && !P.eqGuardType P.depth t
section
variable {P:Program}{c:Ctx}{G:Nat->C}{zl:Nat->Nat->Prop}{s:af}{a:Act}{w:World}{o:Oper}{K:af->Prop}
def Hj{t:TypeId}{k:Nat}{vs:Array Value}{n:Nat}{v:Value}(ht:wP P t k=true)(hv:vs[n]?=some v)(w:World):(part t vs n).run P w=.ok v w:=by unfold wP at ht;split at ht<;>first|(rename_i h;simp[part,isAgg,run_underlying h,hv])|cases ht
def Lt{w:World}{xs ys:Array Value}(d:Nat):∀(l:List Field) (ks:List Nat) (ps qs:List C) (n:Nat) (t:Bool),wO P n ks l=true->(∀j,(ps[j]?).map C.val=xs[n+j]?)->(∀j,(qs[j]?).map C.val=ys[n+j]?)->
  gF ks (ps.map C.er) (qs.map C.er)=some t->(Op.eqFields (d+1) xs ys l).run P w=.ok t w:=by
 intro l;induction l with
 |nil=>
  intro ks ps qs n t hf _ _ he;cases ks with
  |nil=>cases ps<;>cases qs<;>simp[gF] at he;subst he;simp[Op.eqFields]
  |cons k ks=>cases hf
 |cons f l ih=>
  intro ks ps qs n t hf hx hy he;cases ks with
  |nil=>cases hf
  |cons k ks=>
  cases ps with
  |nil=>simp[gF] at he
  |cons p ps=>
  cases qs with
  |nil=>simp[gF] at he
  |cons q qs=>
  simp only[wO,au,aP] at hf;obtain⟨⟨⟨hoff,hname⟩,hk⟩,oD⟩:=hf;have hx0:=hx 0;have hy0:=hy 0;simp only[sx,bM,lZ] at hx0 hy0;have xQ:=λt=>ih ks ps qs (n+1) t oD (λj=>by have:=hx (j+1);simpa [nS,nT 1 j] using this) (λj=>by have:=hy (j+1);simpa [nS,nT 1 j] using this)
  have step:∀b:Bool,(∀w:World,(Op.equalIn (d+1) f.type p.val q.val).run P w=.ok b w)->(gF ks (ps.map C.er) (qs.map C.er)).map (λt=>b && t)=some t->(Op.eqFields (d+1) xs ys (f::l)).run P w=.ok t w:=by
   intro b hb h1;cases h2:gF ks (ps.map C.er) (qs.map C.er) with
   |none=>rw[h2] at h1;cases h1
   |some t'=>
    rw[h2] at h1;simp only[bM,cE] at h1;subst h1;simp only[Op.eqFields,aA hname,Sem.run_bind,hoff,Hj hk hx0.symm,Hj hk hy0.symm,Result.andThen_ok,hb];cases b with
    |true=>simpa using xQ t' h2
    |false=>simp
  unfold wP at hk;simp only[aS] at he;split at hk
  ·rename_i h;obtain rfl:k=0:=by simpa using hk
   cases p<;>cases q<;>simp only[C.er,gF] at he<;>try (cases he;done)
   split at he;·rename_i hkk;subst hkk;exact step _ (λw=>run_equalIn_int w d f.type _ _ _ _ h) he
   ·cases he
  ·rename_i h;obtain rfl:k=1:=by simpa using hk
   cases p<;>cases q<;>simp only[C.er,gF] at he<;>try (cases he;done)
   exact step _ (λw=>run_equalIn_bool' w d f.type _ _ h) he
  ·rename_i h;obtain rfl:k=2:=by simpa using hk
   cases p<;>cases q<;>simp only[C.er,gF] at he<;>try (cases he;done)
   refine step _ (λw=>?_) he;rw[show (C.str _).val=Value.string _ from rfl,show (C.str _).val=Value.string _ from rfl,run_equalIn_string w d f.type _ _ h,Al]
  ·cases hk
def Qb(h:St c G zl s a w){d:Nat}{neg:Bool}{ks:List Nat}{ty ty':TypeId}{x y:AV}{x' y':Operand}(ho:o.op=.binOp (bif neg then .neq else .eql) ty x' y' ty')(ht:A5 P ty ks=true)(hd:o.dst=some d)(hn:d<c.nt)(hx:aG x' x=true)(hy:aG y' y=true)
  (hK:aI P (.k6 d neg ks x y) s K):cA P c o a w K:=by
 obtain⟨p,p1,p2,p3⟩:=bp h hx;obtain⟨q,q1,q2,q3⟩:=bp h hy;simp only[aI] at hK;rw[<-p1,<-q1] at hK;simp only[A5,au,pT] at ht;obtain⟨⟨ht,hst⟩,Oc⟩:=ht;split at ht
 ·rename_i fs hfs;have hfo:P.fieldsOf ty=fs:=by simp only[Program.fieldsOf,hfs]
  cases p with
  |agg n f=>
   cases q with
   |agg m g=>
    simp only[C.er] at hK;obtain⟨t,he,hK⟩:=hK;have hcell:∀(n:Nat) (f:Nat->C) (j:Nat),((((List.range n).map f)[j]?).map C.val)=((((List.range n).map λj=>(f j).val).toArray)[0+j]?):=λn f j=>by rw[j6,sA,C.b8];rw[C.b8 (λj=>(f j).val)];split<;>rfl
    have hrun:∀w':World,(Op.equalIn 10000 ty (C.agg n f).val (C.agg m g).val).run P w'=.ok t w':=λw'=>by simp only[C.val];rw[run_equalIn_struct w' 9999 ty _ _ (by rw[hfo];exact hfs) hst,hfo];exact Lt 9998 fs.toList ks ((List.range n).map f) ((List.range m).map g) 0 t ht (hcell n f) (hcell m g) (by rw[bT,bT];exact he)
    refine cG h hd hn (x:=.bool (xor neg t)) trivial (λ_ _ _ _ _ _ e=>(by cases e)) trivial (λw' _=>?_) hK;have e1:∀w':World,(eqGuard (bif neg then .neq else .eql) ty x' y' (C.agg n f).val (C.agg m g).val).run P w'=.ok () w':=λw'=>run_eqGuard_agg w' _ ty x' y' _ _ Oc;cases neg;·simp only[execOp,ho,<-p2,<-q2,Sem.run_bind,mb];simp only[mb] at e1;rw[e1];simp only[Result.andThen_ok];rw[show (C.agg n f).val=.agg _ from rfl,show (C.agg m g).val=.agg _ from rfl] at hrun⊢;rw[run_eql_struct,hrun];simp;rfl
    ·simp only[execOp,ho,<-p2,<-q2,Sem.run_bind,iY];simp only[iY] at e1;rw[e1];simp only[Result.andThen_ok];rw[show (C.agg n f).val=.agg _ from rfl,show (C.agg m g).val=.agg _ from rfl] at hrun⊢;rw[run_neq_struct,hrun];simp;rfl
   |_=>exact hK.elim
  |_=>exact hK.elim
 ·cases ht
end
end M
namespace M
open Go Go.RowKit
variable [Bs]
section
variable {P:Program}{c:Ctx}{G:Nat->C}{zl:Nat->Nat->Prop}{s:af}{a:Act}{w:World}{o:Oper}{K:af->Prop}
structure JV (w:World) (zl zb:Nat->Nat->Prop) (v:Value) (z:Nat) (A:Option Ad) (len cap:Nat) (e:Nat->Nat->C):Prop where
 val:v=.slice (A.map λq=>⟨q.1,q.2.1,q.2.2⟩) len cap
 cap:len<=cap
 cell:∀i j,i<len->j<z->∃g o,A=some (g,o,none)/\w.cell? ⟨g,o+i*z+j,none⟩=some (e i j).val
 O1:∀i j,i<len->j<z->(e i j).cell/\(e i j).bX/\(e i j).ok w (Zf zl zb)
def cz(z len:Nat)(e:Nat->Nat->C):List (List X):=(List.range len).map λi=>(List.range z).map λj=>(e i j).er
def Cx{zb:Nat->Nat->Prop}(h:Inv w zl zb G s){y:C}(hy:cQ w zl zb G y){z:Nat}{xs:List (List X)}(hc:rowAt s y.er=some (z,xs)):∃A len cap e,xs=cz z len e/\JV w zl zb y.val z A len cap e:=by
 cases y with
 |row m sz A len cap e=>simp only[C.er,rowAt,cE,gw] at hc;obtain⟨rfl,rfl⟩:=hc;obtain⟨h1,h2,h3,h4,h5⟩:=hy.ok;exact⟨A,len,cap,e,rfl,rfl,h1,λi j hi hj=>by obtain⟨g,o,hA,hcl,_⟩:=h2 i j hi hj;exact⟨g,o,hA,hcl⟩,λi j hi hj=>by obtain⟨a1,a2,a3,a4⟩:=h3 i j hi hj;exact⟨a1,a2,a4⟩⟩
 |ref v r p=>
  obtain⟨y',z',hs,hF,hv,m,sz,A,len,cap,e,rfl⟩:=hy.rf;cases hF with
  |row m m' sz A len cap e e'=>simp only[C.er,rowAt,look] at hc;rw[<-h.er,C.ep,hs] at hc;simp only[bM,C.er,cE,gw] at hc;obtain⟨rfl,rfl⟩:=hc;obtain⟨h1,h2,h3,h4,h5⟩:=C.eO p hs (h.ok r);exact⟨A,len,cap,e',rfl,hv.symm,h1,λi j hi hj=>by obtain⟨g,o,hA,hcl,_⟩:=h2 i j hi hj;exact⟨g,o,hA,hcl⟩,λi j hi hj=>by obtain⟨a1,a2,a3,a4⟩:=h3 i j hi hj;exact⟨a1,a2,a4⟩⟩
 |cut v r p lo hi=>
  obtain⟨m,sz,A,len,cap,e,A',cap',hs,hv,hlo,hhi,hcap,gV,-,-⟩:=hy.rf;simp only[C.er,rowAt,look] at hc;rw[<-h.er,C.ep,hs] at hc;simp only[bM,C.er,cE,gw] at hc;obtain⟨rfl,rfl⟩:=hc;obtain⟨h1,h2,h3,h4,h5⟩:=C.eO p hs (h.ok r);have hX:(((List.range len).map λi=>(List.range sz).map λj=>(e i j).er).take hi).drop lo=cz sz (hi - lo) λi j=>e (i+lo) j:=by unfold cz;rw[<-kW,<-jz,pR,jZ hhi,kK,bT];rfl
  refine⟨A',hi - lo,cap',λi j=>e (i+lo) j,hX,⟨hv,hcap,λi j hi' hj=>?_,λi j hi' hj=>?_⟩⟩;·obtain⟨g,o,hA,hcl,_⟩:=h2 (i+lo) j (by omega) hj;refine⟨g,o+lo*sz,by rw[gV (by omega),hA,bM,kZ],?_⟩;rw[show o+lo*sz+i*sz+j=o+(i+lo)*sz+j by rw[dx];omega];exact hcl
  ·obtain⟨a1,a2,a3,a4⟩:=h3 (i+lo) j (by omega) hj;exact⟨a1,a2,a4⟩
 |_=>simp[C.er,rowAt] at hc
def Rf(z len:Nat)(e:Nat->Nat->C):(cz z len e).length=len:=by simp[cz]
def Qu(h:St c G zl s a w){d:Nat}{ty el:TypeId}{x:AV}{x':Operand}(ho:o.op=.call {callee:=.builtin .len,args:= #[x'],argTypes:= #[ty]})(hu:P.underlying ty=some (.slice el))(hd:o.dst=some d)(hn:d<c.nt)(hx:aG x' x=true)
  (hK:aI P (.len d x) s K):cA P c o a w K:=by obtain⟨y,e1,e2,e3⟩:=bp h hx;obtain⟨z,xs,k1,k2⟩:=hK;rw[<-e1] at k1;obtain⟨A,len,cap,e,rfl,hv⟩:=Cx h.inv e3 k1;rw[Rf] at k2;refine cG h hd hn (x:=.int .i64 len) trivial (λ_ _ _ _ _ _ e=>(by cases e)) trivial (λw' _=>?_) k2;simp[execOp,ho,resolve,invoke,builtin,<-e2,hv.val,Builtin.len_,run_underlying hu,goInt,C.val]
def QG(h:St c G zl s a w){d:Nat}{ty:TypeId}{x:AV}{x':Operand}(ho:o.op=.call {callee:=.builtin .len,args:= #[x'],argTypes:= #[ty]})(hu:P.underlying ty=some .string)(hd:o.dst=some d)(hn:d<c.nt)(hx:aG x' x=true)
  (hK:aI P (.nP d x) s K):cA P c o a w K:=by
 obtain⟨y,e1,e2,e3⟩:=bp h hx;simp only[aI] at hK;split at hK;·rename_i t ht;rw[<-e1] at ht;have:=wG ht;subst this;refine cG h hd hn (x:=.int .i64 t.size) trivial (λ_ _ _ _ _ _ e=>(by cases e)) trivial (λw' _=>?_) hK;simp[execOp,ho,resolve,invoke,builtin,<-e2,Builtin.len_,run_underlying hu,goInt,C.val]
 ·exact hK.elim
def QF(h:St c G zl s a w){d:Nat}{ty:TypeId}{x y:AV}{x' y':Operand}(ho:o.op=.index ty x' y')(hu:P.underlying ty=some .string)(hd:o.dst=some d)(hn:d<c.nt)(hx:aG x' x=true)(hy:aG y' y=true)
  (hK:aI P (.cR d x y) s K):cA P c o a w K:=by
 obtain⟨p,p1,p2,p3⟩:=bp h hx;obtain⟨q,q1,q2,q3⟩:=bp h hy;simp only[aI] at hK;split at hK;·rename_i t k n h1 h2;rw[<-p1] at h1;rw[<-q1] at h2;have:=wG h1;subst this;have:=jH h2;subst this;obtain⟨k1,b,k2,k3⟩:=hK;refine cG h hd hn (x:=.int .u8 b.toNat) trivial (λ_ _ _ _ _ _ e=>(by cases e)) trivial (λw' _=>?_) k3;have hb:t[n.toNat]?=some b:=k2;simp[execOp,ho,<-p2,<-q2,C.val,Instr.index,asIntOf,run_underlying hu,aA k1,hb]
 ·exact hK.elim
def Qt(h:St c G zl s a w){d sz:Nat}{ty el:TypeId}{x y:AV}{x' y':Operand}(ho:o.op=.indexAddr ty x' y')(hu:P.underlying ty=some (.slice el))(hsz:∃i,P.info? el=some i/\i.size=sz)(h0:0<sz)(hd:o.dst=some d)(hn:d<c.nt)(hx:aG x' x=true)(hy:aG y' y=true)
  (hK:aI P (.nj d sz x y) s K):cA P c o a w K:=by
 obtain⟨p,p1,p2,p3⟩:=bp h hx;obtain⟨q,q1,q2,q3⟩:=bp h hy;obtain⟨ii,hi,gY⟩:=hsz;simp only[aI] at hK;rw[<-p1] at hK;split at hK
 ·rename_i k n h2;rw[<-q1] at h2;have:=jH h2;subst this;obtain⟨k1,hK⟩:=hK;have hrun:∀g o' len cap,a.eval x'=.slice (some ⟨g,o',none⟩) len cap->n.toNat<len->∀w',Ext (λ_ _=>False) w w'->(execOp a.eval o).run P w'=.ok (.value (.pointer (some ⟨g,o'+n.toNat*sz,none⟩))) w':=by intro g o' len cap hv hlt w' _;have hb:0<=n/\n<len:=⟨k1,by omega⟩;simp[execOp,ho,hv,<-q2,C.val,Instr.indexAt,asIntOf,run_underlying hu,hb,Go.sizeOf,typeInfo,hi,gY,mz]
  cases p with
  |row m z A len cap e=>
   simp only[C.er] at hK;obtain⟨rfl,e',k2,k3⟩:=hK;rw[C.b8] at k2;split at k2
   ·rename_i hlt;injection k2 with k2
    obtain⟨h1,h2,h3,h4,h5⟩:=p3.ok;obtain⟨g,o',hA,_,_⟩:=h2 n.toNat 0 hlt h0;refine fY h hd hn (x:=.ptr m g (o'+n.toNat*z) z λj=>e n.toNat j) ⟨⟨λj hj=>?_,?_,λj hj=>?_,λj hj b k hf=>?_⟩,λj hj=>?_,λb k hf=>?_⟩ ?_ ?_
    ·obtain⟨g1,o1,lB,hcl,hz⟩:=h2 n.toNat j hlt hj;rw[hA] at lB;injection lB with lB
     injection lB with e1 e2
     injection e2 with e2
     subst e1;subst e2;refine⟨hcl,hz,λhm=>?_⟩;exact(p3.bV g 0 ⟨hm,.inl ⟨_,hA⟩⟩).elim
    ·obtain⟨g1,o1,lB,hcl,hz⟩:=h2 n.toNat 0 hlt h0;rw[hA] at lB;injection lB with lB
     injection lB with e1 e2
     subst e1;rcases fA g w.heap.size with hg|hg;·exact hg
     ·simp[World.cell?,ja hg] at hcl
    ·obtain⟨a1,a2,a3,a4⟩:=h3 n.toNat j hlt hj;exact⟨a1,a3,a4⟩
    ·obtain⟨a1,a2,a3,a4⟩:=h3 n.toNat j hlt hj;exact(p3.bV b k (C.gJ a1 a3 hlt hj hf)).elim
    ·obtain⟨a1,a2,a3,a4⟩:=h3 n.toNat j hlt hj;show (e n.toNat j).rf G;cases hh:e n.toNat j with
     |ref=>rw[hh] at a2;exact a2.elim
     |av=>rw[hh] at a2;exact a2.elim
     |cut=>rw[hh] at a2;exact a2.elim
     |ptr=>rw[hh] at a2;exact a2.elim
     |agg=>rw[hh] at a2;exact a2.elim
     |aq=>rw[hh] at a2;exact a2.elim
     |fn=>rw[hh] at a2;exact a2.elim
     |_=>trivial
    ·exact p3.bV g 0 ⟨hf.1,.inl ⟨_,hA⟩⟩
    ·exact hrun g o' len cap (by rw[<-p2,C.val,hA];rfl) hlt
    ·rw[<-k2] at k3;exact k3
   ·cases k2
  |ref v r pp=>
   obtain⟨y',z',hs,hF,hv,m,z1,A,len,cap,e,rfl⟩:=p3.rf;cases hF with
   |row m m' sz' A len cap e e'=>
    simp only[C.er,look] at hK;rw[<-h.inv.er,C.ep,hs] at hK;simp only[bM,C.er] at hK;obtain⟨k1,k2,k3⟩:=hK;have GB:n.toNat<len:=by simpa using k2
    subst k1;obtain⟨h1,h2,h3,h4,h5⟩:=C.eO pp hs (h.inv.ok r);obtain⟨g,o',hA,_,_⟩:=h2 n.toNat 0 GB h0;subst hA;refine fY h hd hn (x:=.av (.pointer (some ⟨g,o'+n.toNat*_,none⟩)) r pp n.toNat 0) ⟨trivial,⟨_,hs,.inl ⟨_,_,_,_,_,_,_,rfl,rfl⟩⟩,λ_ _ hh=>hh⟩ ?_ k3;exact hrun g o' len cap (by rw[<-p2];exact hv.symm) GB
  |cut v r pp lo hi=>obtain⟨m,z1,A,len,cap,e,A',cap',hs,hv,hlo,hhi,hcap,gV,-,-⟩:=p3.rf;simp only[C.er,look] at hK;rw[<-h.inv.er,C.ep,hs] at hK;simp only[bM,C.er] at hK;obtain⟨k1,k2,k3⟩:=hK;subst k1;obtain⟨h1,h2,h3,h4,h5⟩:=C.eO pp hs (h.inv.ok r);obtain⟨g,o',hA,_,_⟩:=h2 (lo+n.toNat) 0 (by omega) h0;subst hA;refine fY h hd hn (x:=.av (.pointer (some ⟨g,o'+(lo+n.toNat)*_,none⟩)) r pp (lo+n.toNat) 0) ⟨trivial,⟨_,hs,.inl ⟨_,_,_,_,_,_,_,rfl,rfl⟩⟩,λ_ _ hh=>hh⟩ ?_ k3;have:=hrun g (o'+lo*z1) (hi - lo) cap' (by rw[<-p2,C.val,hv,gV (by omega),bM,kZ];rfl) (by omega);intro w' hE;rw[this w' hE,C.val,dx,nS]
  |_=>simp only[C.er] at hK
 ·exact hK.elim
def Qq(h:St c G zl s a w){d i:Nat}{x:AV}{x':Operand}(ho:o.op=.extract x' i)(hd:o.dst=some d)(hn:d<c.nt)(hx:aG x' x=true)
  (hK:aI P (.ext d x i) s K):cA P c o a w K:=by
 obtain⟨y,e1,e2,e3⟩:=bp h hx;simp only[aI] at hK;rw[<-e1] at hK;cases y with
 |aq n f=>
  simp only[C.er] at hK;obtain⟨hi,hK⟩:=hK;have hi:i<n:=by simpa using hi
  ·have hX:((List.range n).map λj=>(f j).er).getD i .dead=(f i).er:=by rw[gP,C.b8,aA hi];rfl
   rw[hX] at hK;refine fY h hd hn (x:=f i) ⟨(e3.ok.1 i hi).2,e3.rf i hi,λb k hf=>e3.bV b k ⟨i,hi,hf⟩⟩ (λw' _=>?_) hK;have hv:((List.range n).map λj=>(f j).val).toArray[i]?=some (f i).val:=by rw[sA,C.b8,aA hi]
   simp only[execOp,ho,<-e2,C.val,Instr.extract,hv,Sem.run_bind,Sem.run_pure,Result.andThen_ok]
 |_=>exact hK.elim
end
end M
namespace M
open Go Go.RowKit
variable [Bs]
section
variable {P:Program}{c:Ctx}{G:Nat->C}{zl:Nat->Nat->Prop}{s:af}{a:Act}{w:World}{o:Oper}{K:af->Prop}
def J2{n:Nat}{f:Nat->C}{j:Nat}(hj:j<n):((List.range n).map λj=>(f j).val).toArray[j]?=some (f j).val:=by rw[sA,C.b8,aA hj]
def J3{zb:Nat->Nat->Prop}{n:Nat}{f:Nat->C}(hy:cQ w zl zb G (.agg n f)){off sz:Nat}(h:off+sz<=n):cQ w zl zb G (.agg sz λj=>f (j+off)) where
 ok:=⟨λj hj=>hy.ok.1 (j+off) (by omega),λj hj b k hf j' hj' hne=>hy.ok.2 (j+off) (by omega) b k hf (j'+off) (by omega) (by omega)⟩
 rf:=λj hj=>hy.rf (j+off) (by omega)
 bV:=λb k ⟨j,hj,hf⟩=>hy.bV b k ⟨j+off,by omega,hf⟩
def DY{zb:Nat->Nat->Prop}{n:Nat}{f:Nat->C}(hy:cQ w zl zb G (.agg n f)){j:Nat}(h:j<n):cQ w zl zb G (f j) where
 ok:=(hy.ok.1 j h).2
 rf:=hy.rf j h
 bV:=λb k hf=>hy.bV b k ⟨j,h,hf⟩
def J4(n:Nat)(f:Nat->C){off sz:Nat}(h:off+sz<=n):(C.agg sz λj=>f (j+off)).er=.agg ((((List.range n).map λj=>(f j).er).drop off).take sz):=by simp only[C.er,<-jz,kK,<-kW,pR];rw[jZ (by omega),bT];rfl
def J5(n:Nat)(f:Nat->C){off sz:Nat}(h:off+sz<=n):(C.agg sz λj=>f (j+off)).val=.agg (((List.range n).map λj=>(f j).val).toArray.extract off (off+sz)):=by
 simp only[C.val];congr 1;apply zI;intro i;rw[sA,C.b8,Array.getElem?_extract];by_cases hi:i<sz
 ·have h1:i<min (off+sz) ((List.range n).map λj=>(f j).val).toArray.size - off:=by simp;omega
  rw[aA hi,aA h1,sA,C.b8,aA (by omega),nT]
 ·have h1:¬i<min (off+sz) ((List.range n).map λj=>(f j).val).toArray.size - off:=by simp;omega
  rw[aC hi,aC h1]
def N3(n:Nat)(f:Nat->C){off:Nat}(h:off<n):(((List.range n).map λj=>(f j).er).drop off).headD .dead=(f off).er:=by rw[List.headD_eq_head?_getD,List.head?_drop,C.b8,aA h];rfl
def HH{n:Nat}{f:Nat->C}{off sz:Nat}{agg:Bool}{ty:TypeId}(h:off+sz<=n)(h1:agg=true\/sz=1)(hsz:∃i,P.info? ty=some i/\i.size=sz)(jK:∃dd,P.underlying ty=some dd/\(match dd with|.struct _=>true|.array _ _=>true|_=>false)=agg):
  (part ty ((List.range n).map λj=>(f j).val).toArray off).run P w=.ok (bif agg then (C.agg sz λj=>f (j+off)) else f off).val w:=by
 obtain⟨i,hi,gY⟩:=hsz;obtain⟨dd,tu,hda⟩:=jK;have oE:(isAgg ty).run P w=.ok agg w:=by subst hda;simp only[isAgg,Sem.run_bind,run_underlying tu,Result.andThen_ok];cases dd<;>rfl
 have hsize:(Go.sizeOf ty).run P w=.ok sz w:=by simp[Go.sizeOf,typeInfo,hi,gY]
 unfold part;simp only[Sem.run_bind,oE,Result.andThen_ok];cases agg with
 |true=>simp only[cU,Sem.run_bind,hsize,Result.andThen_ok,Sem.run_pure,iY,J5 n f h]
 |false=>have hs1:sz=1:=h1.resolve_left (by simp);simp only[gx,iZ,J2 (f:=f) (show off<n by omega),Sem.run_pure,mb]
def FW(h:St c G zl s a w){n:Nat}{f:Nat->C}{off sz:Nat}{agg:Bool}(hy:cQ w zl c.zb G (.agg n f))(hb:off+sz<=n)(h1:agg=true\/sz=1){d:Nat}(hd:o.dst=some d)(hn:d<c.nt)
  (hrun:∀w',Ext (λ_ _=>False) w w'->(execOp a.eval o).run P w'=.ok (.value (bif agg then (C.agg sz λj=>f (j+off)) else f off).val) w')
  (hK:K (put d (bif agg then .agg ((((List.range n).map λj=>(f j).er).drop off).take sz) else (((List.range n).map λj=>(f j).er).drop off).headD .dead) s)):cA P c o a w K:=by
 cases agg with
 |true=>exact fY h hd hn (J3 hy hb) hrun (by rw[J4 n f hb];exact hK)
 |false=>have hs1:sz=1:=h1.resolve_left (by simp);exact fY h hd hn (DY hy (by omega)) hrun (by rw[<-N3 n f (by omega)];exact hK)
def Qs(h:St c G zl s a w){d off sz fi:Nat}{agg:Bool}{ty:TypeId}{fs:Array Field}{f:Field}{x:AV}{x':Operand}(ho:o.op=.field ty x' fi)(hu:P.underlying ty=some (.struct fs))(hf:fs[fi]?=some f)(hfo:f.offset=off)
  (hsz:∃i,P.info? f.type=some i/\i.size=sz)(jK:∃dd,P.underlying f.type=some dd/\(match dd with|.struct _=>true|.array _ _=>true|_=>false)=agg)
  (h1:agg=true\/sz=1)(hd:o.dst=some d)(hn:d<c.nt)(hx:aG x' x=true)(hK:aI P (.lu d x off sz agg) s K):cA P c o a w K:=by
 obtain⟨y,e1,e2,e3⟩:=bp h hx;subst hfo;simp only[aI] at hK;rw[<-e1] at hK;cases y with
 |agg n g=>
  simp only[C.er] at hK;obtain⟨hb,hK⟩:=hK;have hb:f.offset+sz<=n:=by simpa using hb
  refine FW h e3 hb h1 hd hn (λw' _=>?_) hK;simp only[execOp,ho,<-e2,C.val,Instr.field,Sem.run_bind,run_underlying hu,Result.andThen_ok,hf,asAgg,Sem.run_pure,HH hb h1 hsz jK]
 |_=>exact hK.elim
def Qc(h:St c G zl s a w){d n sz:Nat}{agg:Bool}{ty el:TypeId}{x y:AV}{x' y':Operand}(ho:o.op=.index ty x' y')(hu:P.underlying ty=some (.array n el))
  (hsz:∃i,P.info? el=some i/\i.size=sz)(jK:∃dd,P.underlying el=some dd/\(match dd with|.struct _=>true|.array _ _=>true|_=>false)=agg)
  (h1:agg=true\/sz=1)(hd:o.dst=some d)(hn:d<c.nt)(hx:aG x' x=true)(hy:aG y' y=true)(hK:aI P (.mB d n sz agg x y) s K):cA P c o a w K:=by
 obtain⟨p,p1,p2,p3⟩:=bp h hx;obtain⟨q,q1,q2,q3⟩:=bp h hy;simp only[aI] at hK;rw[<-p1] at hK;cases p with
 |agg m g=>
  simp only[C.er] at hK;split at hK
  ·rename_i k j h2 h3;injection h2 with h2
   subst h2;rw[<-q1] at h3;have:=jH h3;subst this;obtain⟨k1,k2,k3,hK⟩:=hK;have k3:m=n*sz:=by simpa using k3
   have hb:j.toNat*sz+sz<=m:=by rw[k3];have:(j.toNat+1)*sz<=n*sz:=j0 _ (by omega);rw[dx] at this;omega
   obtain⟨i,hi,gY⟩:=hsz;refine FW h p3 hb h1 hd hn (λw' _=>?_) hK;have OE:=HH (P:=P) (w:=w') (f:=g) hb h1 ⟨i,hi,gY⟩ jK;have hbd:0<=j/\j<(n:Int):=⟨k1,k2⟩;have hsize:(Go.sizeOf el).run P w'=.ok sz w':=by simp[Go.sizeOf,typeInfo,hi,gY]
   simp only[execOp,ho,<-p2,<-q2,C.val,Instr.index,asIntOf,Sem.run_bind,run_underlying hu,Result.andThen_ok,Sem.run_pure,aA hbd,hsize,OE]
  ·exact hK.elim
 |_=>simp only[C.er] at hK
def Qz(h:St c G zl s a w){d:Nat}{ts:Array TypeId}{x y:AV}{x' y':Operand}(ho:o.op=.call {callee:=.builtin .min,args:= #[x',y'],argTypes:=ts})(hd:o.dst=some d)(hn:d<c.nt)(hx:aG x' x=true)(hy:aG y' y=true)
  (hK:aI P (.mn d [x,y]) s K):cA P c o a w K:=by
 obtain⟨p,p1,p2,p3⟩:=bp h hx;obtain⟨q,q1,q2,q3⟩:=bp h hy;simp only[aI,aS,jA] at hK;rw[<-p1,<-q1] at hK;split at hK;·rename_i k m k' n he;simp only[sn,and_true] at he;have e1:=jH he.1;have e2:=jH he.2;subst e1;subst e2;obtain⟨rfl,hK⟩:=hK;refine cG h hd hn (x:=.int k (if n<m then n else m)) trivial (λ_ _ _ _ _ _ e=>(by cases e)) trivial (λw' _=>?_) hK;simp[execOp,ho,resolve,invoke,builtin,<-p2,<-q2,C.val,Builtin.min_,Builtin.min2]
 ·exact hK.elim
def QA(h:St c G zl s a w){d:Nat}{ts:Array TypeId}{x y:AV}{x' y':Operand}(ho:o.op=.call {callee:=.builtin .max,args:= #[x',y'],argTypes:=ts})(hd:o.dst=some d)(hn:d<c.nt)(hx:aG x' x=true)(hy:aG y' y=true)
  (hK:aI P (.mx d [x,y]) s K):cA P c o a w K:=by
 obtain⟨p,p1,p2,p3⟩:=bp h hx;obtain⟨q,q1,q2,q3⟩:=bp h hy;simp only[aI,aS,jA] at hK;rw[<-p1,<-q1] at hK;split at hK;·rename_i k m k' n he;simp only[sn,and_true] at he;have e1:=jH he.1;have e2:=jH he.2;subst e1;subst e2;obtain⟨rfl,hK⟩:=hK;refine cG h hd hn (x:=.int k (if n>m then n else m)) trivial (λ_ _ _ _ _ _ e=>(by cases e)) trivial (λw' _=>?_) hK;simp[execOp,ho,resolve,invoke,builtin,<-p2,<-q2,C.val,Builtin.max_,Builtin.max2]
 ·exact hK.elim
def jF:Option Operand->Option AV->Bool
 |none,none=>true
 |some x',some x=>aG x' x
 |_,_=>false
def Ak(h:St c G zl s a w){lo':Option Operand}{lo:Option AV}(hc:jF lo' lo=true)(d:Nat)(h0:0<=asNat s lo d):
  (lo'.map a.eval=none/\asNat s lo d=d)\/∃k,lo'.map a.eval=some (.int k (asNat s lo d)):=by
 cases lo' with
 |none=>
  cases lo with
  |none=>exact .inl ⟨rfl,rfl⟩
  |some x=>cases hc
 |some x'=>
  cases lo with
  |none=>cases hc
  |some x=>obtain⟨p,p1,p2,p3⟩:=bp h hc;simp only[asNat] at h0⊢;rw[<-p1] at h0⊢;cases p<;>simp[C.er] at h0;·exact .inr ⟨_,by simp only[bM,<-p2];rfl⟩
def run_sliceBound{k:IntKind}{i:Int}{y:Nat}{code:BoundsCode}(h:0<=i/\i<=y):(Instr.sliceBound (.int k i) y code).run P w=.ok i.toNat w:=by simp[Instr.sliceBound,asIntOf,h]
def HG{w':World}(h:St c G zl s a w){lo' hi':Option Operand}{lo hi:Option AV}(h1:jF lo' lo=true)(h2:jF hi' hi=true){GA:Bool}{len cap:Nat}(hlc:len<=cap)
  (k1:0<=asNat s lo 0)(k2:asNat s lo 0<=asNat s hi len)(k3:asNat s hi len<=len):
  (Instr.sliceBounds GA len cap (lo'.map a.eval) (hi'.map a.eval) none).run P w'=.ok ((asNat s lo 0).toNat,(asNat s hi len).toNat,cap) w':=by
 have B:∀{k:IntKind} {i:Int} {y:Nat} {code:BoundsCode},0<=i/\i<=y->(Instr.sliceBound (.int k i) y code).run P w'=.ok i.toNat w':=run_sliceBound;unfold Instr.sliceBounds;rcases Ak h h2 len (by omega) with ⟨e1,e2⟩|⟨k,e1⟩
 ·rw[e2] at k2⊢;rcases Ak h h1 0 k1 with ⟨e3,e4⟩|⟨k',e3⟩;·rw[e1,e3,e4];simp
  ·rw[e1,e3];simp only[Sem.run_bind,Sem.run_pure,Result.andThen_ok,B (And.intro k1 k2)];simp
 ·rcases Ak h h1 0 k1 with ⟨e3,e4⟩|⟨k',e3⟩;·rw[e1,e3,e4];simp only[Sem.run_bind,Sem.run_pure,Result.andThen_ok,B (show 0<=asNat s hi len/\asNat s hi len<=(cap:Int) by omega)];simp
  ·rw[e1,e3];have hle:asNat s lo 0<=((asNat s hi len).toNat:Int):=by omega
   simp only[Sem.run_bind,Sem.run_pure,Result.andThen_ok,B (show 0<=asNat s hi len/\asNat s hi len<=(cap:Int) by omega),B (And.intro k1 hle)]
def QH(h:St c G zl s a w){d:Nat}{ty:TypeId}{x:AV}{x':Operand}{lo' hi':Option Operand}{lo hi:Option AV}(ho:o.op=.slice ty x' lo' hi' none)(hu:P.underlying ty=some .string)(hd:o.dst=some d)(hn:d<c.nt)(hx:aG x' x=true)
  (h1:jF lo' lo=true)(h2:jF hi' hi=true)(hK:aI P (.jw d x lo hi) s K):cA P c o a w K:=by
 obtain⟨y,e1,e2,e3⟩:=bp h hx;simp only[aI] at hK;split at hK
 ·rename_i t ht;rw[<-e1] at ht;have:=wG ht;subst this;obtain⟨k1,k2,k3,k4⟩:=hK;refine cG h hd hn (x:=.str _) trivial (λ_ _ _ _ _ _ e=>(by cases e)) ?_ (λw' _=>?_) k4;·have:t.size<=9223372036854775807:=e3.ok;show (t.extract _ _).size<=_;rw[ByteArray.size_extract];omega
  ·simp only[execOp,ho,<-e2,C.val,Instr.sliceAt,Instr.slice,Sem.run_bind,run_underlying hu,Result.andThen_ok,Dr,Option.isSome_none,gx,iZ,Sem.run_pure,HG h h1 h2 (ez t.size) k1 k2 k3]
 ·exact hK.elim
def QE(h:St c G zl s a w){d sz:Nat}{ty el:TypeId}{x:AV}{x':Operand}{lo' hi':Option Operand}{lo hi:Option AV}(ho:o.op=.slice ty x' lo' hi' none)(hu:P.underlying ty=some (.slice el))(hsz:∃i,P.info? el=some i/\i.size=sz)(hd:o.dst=some d)(hn:d<c.nt)(hx:aG x' x=true)
  (h1:jF lo' lo=true)(h2:jF hi' hi=true)(hK:aI P (.oX d sz x lo hi) s K):cA P c o a w K:=by
 obtain⟨y,e1,e2,e3⟩:=bp h hx;obtain⟨xs,k0,k1,k2,k3,hK⟩:=hK;rw[<-e1] at k0 hK;obtain⟨ii,hii,gY⟩:=hsz;have hsize:∀w:World,(Go.sizeOf el).run P w=.ok sz w:=by intro w;simp[Go.sizeOf,typeInfo,hii,gY]
 have hrun:∀(A:Option Ad) (cap:Nat),y.val=.slice (A.map λq=>⟨q.1,q.2.1,q.2.2⟩) xs.length cap->xs.length<=cap->∃A' cap',(∀w',Ext (λ_ _=>False) w w'->(execOp a.eval o).run P w'=.ok (.value (.slice (Option.map (λq:Ad=>(⟨q.1,q.2.1,q.2.2⟩:Addr)) A') (((asNat s hi xs.length).toNat - (asNat s lo 0).toNat)) cap')) w')/\
   cap'=cap - (asNat s lo 0).toNat/\(A=none->A'=none)/\((asNat s lo 0).toNat<cap->A'=A.map λq=>fV ((asNat s lo 0).toNat*sz) q)/\((A'=A/\cap'=0)\/A'=A.map λq=>fV ((asNat s lo 0).toNat*sz) q):=by
  intro A cap hv hcap;refine⟨if cap=(asNat s lo 0).toNat then A else A.map λq=>fV ((asNat s lo 0).toNat*sz) q,cap - (asNat s lo 0).toNat,λw' _=>?_,rfl,λhA=>by subst hA;split<;>rfl,λhlt=>aC (by omega),?_⟩;rotate_left
  ·by_cases hh:cap=(asNat s lo 0).toNat;·exact .inl ⟨aA hh,by omega⟩
   ·exact .inr (aC hh)
  have hb:=HG (P:=P) (w':=w') h h1 h2 (GA:=true) hcap k1 k2 k3;simp only[execOp,ho,<-e2,hv,Instr.sliceAt,Instr.slice,Sem.run_bind,run_underlying hu,Result.andThen_ok,Dr,hb,hsize,Sem.run_pure];congr 3;split;·rfl
  ·cases A with
   |none=>rfl
   |some q=>simp[JZ]
 cases y with
 |row m z A len cap e=>
  simp only[C.er,rowAt,cE,gw] at k0;obtain⟨rfl,rfl⟩:=k0;have hlen:((List.range len).map λi=>(List.range z).map λj=>(e i j).er).length=len:=by simp
  rw[hlen] at hrun k2 k3 hK;obtain⟨o1,o2,o3,o4,o5⟩:=e3.ok;obtain⟨A',cap',r1,r2,r3,r4,-⟩:=hrun A cap rfl o1;obtain⟨L,hL⟩:∃L,L=(asNat s lo 0).toNat:=⟨_,rfl⟩;obtain⟨H,hH⟩:∃H,H=(asNat s hi len).toNat:=⟨_,rfl⟩;rw[<-hL,<-hH] at r1 hK;rw[<-hL] at r2 r4;have Wa:L<=H:=by omega
  have NQ:H<=len:=by omega
  have gV:L<H->A'=A.map λq=>fV (L*z) q:=λhlt=>r4 (by omega);refine fY h hd hn (x:=.row m z A' (H - L) cap' λi j=>e (i+L) j) ⟨⟨by omega,λi j hi hj=>?_,λi j hi hj=>o3 (i+L) j (by omega) hj,λhm=>?_,λi j hi hj b k hf=>?_⟩,trivial,λb k hf=>?_⟩ r1 ?_
  ·obtain⟨g,o',q1,q2,q3⟩:=o2 (i+L) j (by omega) hj;refine⟨g,o'+L*z,by rw[gV (by omega),q1,bM,kZ],?_,λhm=>?_⟩;·rw[show o'+L*z+i*z+j=o'+(i+L)*z+j by rw[dx];omega];exact q2
   ·rw[show o'+L*z+i*z+j=o'+(i+L)*z+j by rw[dx];omega];exact q3 hm
  ·rcases o4 hm with ⟨q1,q2⟩|⟨g,o',arr,t,fz,q1,_⟩;·exact .inl ⟨r3 q1,by omega⟩
   ·exact(e3.bV g 0 ⟨hm,.inl ⟨_,q1⟩⟩).elim
  ·exact(e3.bV b k (C.gJ (o3 (i+L) j (by omega) hj).1 (o3 (i+L) j (by omega) hj).2.2.1 (by omega) hj hf)).elim
  ·obtain⟨hm,⟨o',hA⟩|⟨i,j,hi,hj,hf⟩⟩:=hf
   ·rcases o4 hm with ⟨q1,_⟩|⟨g,Xf,_,_,_,q1,_⟩;·rw[r3 q1] at hA;cases hA
    ·exact e3.bV g 0 ⟨hm,.inl ⟨_,q1⟩⟩
   ·exact e3.bV b k (C.gJ (o3 (i+L) j (by omega) hj).1 (o3 (i+L) j (by omega) hj).2.2.1 (by omega) hj hf)
  ·have hX:(C.row m z A' (H - L) cap' λi j=>e (i+L) j).er=.row m z ((((List.range len).map λi=>(List.range z).map λj=>(e i j).er).take H).drop L):=by simp only[C.er,<-kW,<-jz,pR];rw[jZ NQ,kK,bT];rfl
   rw[hX];exact hK
 |ref v r p=>
  obtain⟨y',z',hs,hF,hv,m,sz',A,len,cap,e,rfl⟩:=e3.rf;cases hF with
  |row m m' sz' A len cap e e'=>
   simp only[C.er,rowAt,look] at k0;rw[<-h.inv.er,C.ep,hs] at k0;simp only[bM,C.er,cE,gw] at k0;obtain⟨rfl,rfl⟩:=k0;have hlen:((List.range len).map λi=>(List.range sz').map λj=>(e' i j).er).length=len:=by simp
   rw[hlen] at hrun k2 k3 hK;obtain⟨o1,o2,o3,o4,o5⟩:=C.eO p hs (h.inv.ok r);obtain⟨A',cap',r1,r2,r3,r4,r5⟩:=hrun A cap hv.symm o1;refine fY h hd hn (x:=.cut _ r p (asNat s lo 0).toNat (asNat s hi len).toNat) ⟨trivial,⟨m',_,A,len,cap,e',A',cap',hs,rfl,by omega,by omega,by omega,λhlt=>r4 (by omega),by omega,r5⟩,λ_ _ hh=>hh⟩ r1 hK
 |_=>exact hK.elim
def je:List Operand->List AV->Bool
 |[],[]=>true
 |x'::l',x::l=>aG x' x && je l' l
 |_,_=>false
def Ch(h:St c G zl s a w):∀{l':List Operand} {l:List AV},je l' l=true->∃cs:List C,cs.map C.er=l.map (aj s)/\cs.map C.val=l'.map a.eval/\∀x∈cs,cQ w zl c.zb G x
 |[],[],_=>⟨[],rfl,rfl,λ_ hx=>(by cases hx)⟩
 |x'::l',x::l,hc=>by
  simp only[je,au] at hc;obtain⟨cs,l1,l2,l3⟩:=Ch h hc.2;obtain⟨p,p1,p2,p3⟩:=bp h hc.1;refine⟨p::cs,by simp[p1,l1],by simp[p2,l2],λx hx=>?_⟩;rcases bA.1 hx with rfl|hx;·exact p3
  ·exact l3 x hx
 |[],_::_,hc=>by cases hc
 |_::_,[],hc=>by cases hc
def Qy(h:St c G zl s a w){d:Nat}{f:FuncId}{cs:List AV}{cs':Array Operand}(ho:o.op=.makeFunc (.func f) #[] cs')(hd:o.dst=some d)(hn:d<c.nt)(hx:je cs'.toList cs=true)
  (hK:aI P (.nw d f cs) s K):cA P c o a w K:=by
 obtain⟨l,l1,l2,l3⟩:=Ch h hx;refine fY h hd hn (x:=.fn f l.length λj=>l.getD j (.dead undef)) ⟨λj hj=>⟨(l3 _ (bO hj _)).ok,(l3 _ (bO hj _)).bV⟩,λj hj=>(l3 _ (bO hj _)).rf,λ_ _ hh=>hh⟩ (λw' _=>?_) ?_
 ·have:(C.fn f l.length λj=>l.getD j (.dead undef)).val=.func (.func f) #[] (l.map C.val).toArray:=by show Value.func _ _ _=_;rw[jr l _ C.val]
  rw[this,l2];have hm:(cs'.toList.map a.eval).toArray=cs'.map a.eval:=by rw[<-Ds,Array.toArray_toList]
  rw[hm];simp[execOp,ho,Instr.makeFunc]
 ·have:(C.fn f l.length λj=>l.getD j (.dead undef)).er=.fn f (l.map C.er):=by show X.fn _ _=_;rw[jr l _ C.er]
  rw[this,l1];exact hK
def QJ(h:St c G zl s a w){d:Nat}{src dst el:TypeId}{x:AV}{x':Operand}(ho:o.op=.convert src dst x')(hs:P.underlying src=some (.slice el))(he:P.underlying el=some (.int .u8))(hdt:P.underlying dst=some .string)(hd:o.dst=some d)(hn:d<c.nt)(hx:aG x' x=true)
  (hK:aI P (.text d x) s K):cA P c o a w K:=by
 obtain⟨y,e1,e2,e3⟩:=bp h hx;obtain⟨xs,k1,k2,l,k3,hK⟩:=hK;rw[<-e1] at k1;obtain⟨A,len,cap,e,hxs,hv⟩:=Cx h.inv e3 k1;have hlen:len=l.length:=by have:=cK List.length (hxs.symm.trans k3);simpa [cz] using this
 subst hlen
 have hcell:∀j (hj:j<l.length),(e j 0).val=.int .u8 (l[j].toNat:Int):=by
  intro j hj;have:=cK (λt:List (List X)=>t[j]?) (hxs.symm.trans k3);simp only[cz] at this;rw[C.b8,aA hj,cg,bH hj] at this;simp only[bM,cE] at this;have hz:(e j 0).er=.int .u8 (l[j].toNat:Int):=by have h2:=cK (λt:List X=>t[0]?) this;simpa using h2
  rw[jH hz];rfl
 refine cG h hd hn (x:=.str ⟨l.toArray⟩) trivial (λ_ _ _ _ _ _ e=>(by cases e)) ?_ (λw' hE=>?_) hK;·show (⟨l.toArray⟩:ByteArray).size<=_;rw[k3] at k2;simpa [ByteArray.size] using k2
 ·cases hA:A with
  |none=>
   have hl0:l=[]:=by
    cases hl:l with
    |nil=>rfl
    |cons b t=>obtain⟨g,o',hg,_⟩:=hv.cell 0 0 (by rw[hl];simp) (by omega);rw[hA] at hg;cases hg
   subst hl0;have dw:=hv.val;rw[hA] at dw;simp only[Dr] at dw;simp[execOp,ho,<-e2,dw,convert,run_underlying hs,run_underlying he,run_underlying hdt,Conv.bytesToString,C.val];rfl
  |some q=>
   have dw:=hv.val;rw[hA] at dw;simp only[bM] at dw
   have:=run_convert_bytes_back (P:=P) w' src dst el ⟨q.1,q.2.1,q.2.2⟩ cap l hs he hdt (λj hj=>by
    obtain⟨g,o',hg,hcl⟩:=hv.cell j 0 hj (by omega);rw[hA] at hg;injection hg with hg
    subst hg;rw[mz,<-hcell j hj];exact hE.cell (λhs=>hs) (by simpa using hcl))
   simp[execOp,ho,<-e2,dw,this,C.val]
end
end M
namespace M
open Go Go.RowKit
variable [Bs]
variable {w w':World}{zl zb:Nat->Nat->Prop}{G G1:Nat->C}{s s1:af}{Z:Md->Nat->Nat->Prop}
def lz{α:Type}{l:List α}{i:Nat}{x:α}(h:l[i]?=some x)(d:α):l.getD i d=x:=by rw[gP,h];rfl
def C.Fy(c:C):c.fits .own:=by cases c<;>first|trivial|exact .inl rfl
def s9{α:Type}{sz:Nat}:∀{L:List (List α)} (h:∀e∈L,e.length=sz) (i j:Nat) (hi:i<L.length) (hj:j<sz),L.flatten[i*sz+j]?=(L[i]?).bind (·[j]?)
 |[],h,i,j,hi,hj=>by simp at hi
 |e::L,h,0,j,hi,hj=>by have:=h e (bE ..);simp only[Nat.zero_mul,j6,DC,sx,jx];rw[mc (by omega)]
 |e::L,h,i+1,j,hi,hj=>by have he:=h e (bE ..);have hh:∀e∈L,e.length=sz:=λx hx=>h x (bU _ hx);simp only[DC,DE];rw[jy (by rw[he,dx];omega),<-s9 hh i j (by simpa using hi) hj,he];congr 1;rw[dx];omega
def mQ{α:Type}{sz:Nat}:∀{L:List (List α)} (h:∀e∈L,e.length=sz),L.flatten.length=L.length*sz
 |[],h=>by simp
 |e::L,h=>by rw[DC,fT,h e (bE ..),mQ λx hx=>h x (bU _ hx),cw,dx];omega
def ru(L:List (List C))(i j:Nat):C:=(L.getD i []).getD j (.dead undef)
def oW(g o sz cap:Nat)(L:List (List C)):C:=.row .own sz (some (g,o,none)) L.length cap (ru L)
def ry{L:List (List C)}{sz i j:Nat}(h:∀e∈L,e.length=sz)(hi:i<L.length)(hj:j<sz):L.flatten[i*sz+j]?=some (ru L i j)/\ru L i j∈L.flatten:=by
 have h1:L[i]?=some L[i]:=bH hi;have hl:L[i].length=sz:=h _ (dy hi);have h2:(L[i])[j]?=some (L[i])[j]:=bH (by omega);have h3:ru L i j=(L[i])[j]:=by unfold ru;rw[lz h1,lz h2]
 have h4:=s9 h i j hi hj;rw[h1,jx,h2] at h4;rw[h3];exact⟨h4,me h4⟩
def HA{g o sz cap:Nat}{L:List (List C)}(h:∀e∈L,e.length=sz):(oW g o sz cap L).er=.row .own sz (L.map λe=>e.map C.er):=by
 simp only[oW,C.er];congr 1;apply gy;intro i;rw[C.b8,cg];by_cases hi:i<L.length
 ·rw[aA hi,bH hi,bM];congr 1;have hl:L[i].length=sz:=h _ (dy hi);apply gy;intro j;rw[C.b8,cg];by_cases hj:j<sz;·rw[aA hj,bH (by omega),bM];unfold ru;rw[lz (bH hi),lz (bH (by omega))]
  ·rw[aC hj,iz (by omega)];rfl
 ·rw[aC hi,iz (by omega)];rfl
def Re(g o sz cap:Nat)(L:List (List C)):(oW g o sz cap L).val=.slice (some ⟨g,o,none⟩) L.length cap:=rfl
def HB{g o sz cap:Nat}{L:List (List C)}(h:∀e∈L,e.length=sz){b k:Nat}(hf:(oW g o sz cap L).fp b k):b=g\/∃x∈L.flatten,x.fp b k:=by
 obtain⟨_,⟨o',hA⟩|⟨i,j,hi,hj,hf⟩⟩:=hf;·injection hA with hA;injection hA with e1 e2;exact .inl e1.symm
 ·exact .inr ⟨_,(ry h hi hj).2,hf⟩
def QM{l:List C}(h:l.Pairwise λa b=>∀x k,a.fp x k->¬b.fp x k){p q:Nat}{x y:C}(hp:l[p]?=some x)(hq:l[q]?=some y)(hne:p≠q){b k:Nat}(hf:x.fp b k):¬y.fp b k:=by
 obtain⟨hp',rfl⟩:=br.1 hp;obtain⟨kz,rfl⟩:=br.1 hq;rcases Nat.lt_or_gt_of_ne hne with hlt|hlt;·exact lY.1 h p q hp' kz hlt b k hf
 ·exact λhf'=>lY.1 h q p kz hp' hlt b k hf' hf
def HC{g o sz cap:Nat}{L:List (List C)}(h:∀e∈L,e.length=sz)(hcap:L.length<=cap){arr:Array Value}{t:TypeId}{fz:Nat×Nat}(hh:w.heap[g]?=some (.cells arr t fz))(hsz:o+cap*sz<=arr.size)
  (hfr:∀k,o<=k->k<o+cap*sz->w.frozen? ⟨g,k,none⟩=false)(hcell:∀q x,L.flatten[q]?=some x->w.cell? ⟨g,o+q,none⟩=some x.val)
  (hx:∀x∈L.flatten,x.cell/\x.bX/\x.ok w Z)(fJ:L.flatten.Pairwise λa b=>∀x k,a.fp x k->¬b.fp x k)(hg:∀x∈L.flatten,∀b k,x.fp b k->b≠g):(oW g o sz cap L).ok w Z:=by
 refine⟨hcap,λi j hi hj=>⟨g,o,rfl,?_,λhm=>(hm rfl).elim⟩,λi j hi hj=>?_,λ_=>.inr ⟨g,o,arr,t,fz,rfl,hh,hsz,hfr⟩,λi j hi hj b k hf=>⟨λ_ o' hA=>?_,λi' j' hi' hj' hne=>?_⟩⟩;·rw[nS];exact hcell _ _ (ry h hi hj).1
 ·obtain⟨a1,a2,a3⟩:=hx _ (ry h hi hj).2;exact⟨a1,a2,C.Fy _,a3⟩
 ·injection hA with hA;injection hA with e1 e2
  exact hg _ (ry h hi hj).2 b k hf e1.symm
 ·refine QM fJ (ry h hi hj).1 (ry h hi' hj').1 (λe=>hne ?_) hf;obtain⟨rfl,rfl⟩:=Ck hj hj' e;rfl
def uG(g:Nat)(l:List C):C:=.ptr .own g 0 l.length λj=>l.getD j (.dead undef)
def QZ(g:Nat)(l:List C):(uG g l).er=.ptr .own (l.map C.er):=by simp only[uG,C.er,jr]
def Q0{g:Nat}{l:List C}{b k:Nat}(hf:(uG g l).fp b k):b=g\/∃x∈l,x.fp b k:=by
 obtain⟨_,hA|⟨j,hj,hf⟩⟩:=hf;·exact .inl hA.1
 ·exact .inr ⟨_,bO hj _,hf⟩
def Q1{g:Nat}{l:List C}(hg:g<w.heap.size)(hcell:∀q x,l[q]?=some x->w.cell? ⟨g,q,none⟩=some x.val)(hfr:∀k,k<l.length->w.frozen? ⟨g,k,none⟩=false)
  (hx:∀x∈l,x.cell/\x.ok w Z)(fJ:l.Pairwise λa b=>∀x k,a.fp x k->¬b.fp x k)(Od:∀x∈l,∀b k,x.fp b k->b≠g):(uG g l).ok w Z:=by
 refine⟨λj hj=>⟨?_,λhm=>(hm rfl).elim,λ_=>?_⟩,hg,λj hj=>?_,λj hj b k hf=>⟨λ_ hb=>?_,λj' hj' hne=>?_⟩⟩;·rw[j6];exact hcell j _ (by show _=some (l.getD j (.dead undef));rw[lz (bH hj)];exact bH hj)
 ·rw[j6];exact hfr j hj
 ·obtain⟨a1,a3⟩:=hx _ (bO hj (.dead undef));exact⟨a1,C.Fy _,a3⟩
 ·exact Od _ (bO hj _) b k hf hb.1
 ·exact q8 fJ _ hj hj' hne hf
def C.cells:C->List C
 |.agg n f=>(List.range n).map f
 |.aq _ _=>[]
 |.dead _=>[]
 |x=>[x]
def C.shape(x:C):Prop:=x.cells=[]\/(∃n f,x=.agg n f)\/(x.cells=[x]/\x.cell)
def y6{x:C}(h:x.rf G):x.shape:=by
 cases x with
 |agg n f=>exact .inr (.inl ⟨n,f,rfl⟩)
 |aq n f=>exact .inl rfl
 |dead v=>exact .inl rfl
 |ref v r p=>exact .inr (.inr ⟨rfl,Cv h⟩)
 |av v r p i c=>obtain⟨y,hs,hy⟩:=h;refine .inr (.inr ⟨rfl,?_⟩);rcases hy with ⟨m,sz,g,o',len,cap,e,rfl,hv⟩|⟨m,g,o',n,cc,rfl,_,hv⟩<;>(subst hv;rfl)
 |cut v r p lo hi=>obtain⟨m,sz,A,len,cap,e,A',cap',hs,hv,_⟩:=h;refine .inr (.inr ⟨rfl,?_⟩);subst hv;rfl
 |_=>exact .inr (.inr ⟨rfl,trivial⟩)
def oo(x:C):x.cells.map C.er=cellsOf x.er:=by cases x<;>simp[C.cells,C.er,cellsOf]
def wq{x:C}(h:0<x.cells.length)(hc:x.shape):x.val.cells=(x.cells.map C.val).toArray:=by
 rcases hc with hc|⟨n,f,rfl⟩|⟨h1,h2⟩;·rw[hc] at h;simp at h
 ·simp[C.cells,C.val,Value.cells]
 ·rw[h1];exact P9 (Inv.mI h2)
def sP{x y:C}(hy:y∈x.cells){b k:Nat}(hf:y.fp b k):x.fp b k:=by
 cases x with
 |agg n f=>obtain⟨j,hj,rfl⟩:=aL.1 hy;exact⟨j,by simpa using hj,hf⟩
 |aq n f=>cases hy
 |dead v=>cases hy
 |_=>simp only[C.cells,ew] at hy;subst hy;exact hf
def qi{x y:C}(hc:x.shape)(hx:x.ok w Z)(hy:y∈x.cells):y.cell/\y.ok w Z:=by
 rcases hc with hc|⟨n,f,rfl⟩|⟨h1,h2⟩;·rw[hc] at hy;cases hy
 ·obtain⟨j,hj,rfl⟩:=aL.1 hy;exact hx.1 j (by simpa using hj)
 ·rw[h1,ew] at hy;subst hy;exact⟨h2,hx⟩
def Ay{x y:C}(hx:x.rf G)(hy:y∈x.cells):y.rf G:=by
 cases x with
 |agg n f=>obtain⟨j,hj,rfl⟩:=aL.1 hy;exact hx j (by simpa using hj)
 |aq n f=>cases hy
 |dead v=>cases hy
 |_=>simp only[C.cells,ew] at hy;subst hy;exact hx
def Lb{x:C}(hx:x.ok w Z):x.cells.Pairwise λa b=>∀x k,a.fp x k->¬b.fp x k:=by
 cases x with
 |agg n f=>refine vI.2 ?_;refine zJ (R:=λa b=>a<b) ?_ Dj;intro i j hi hj hlt b k hf;exact hx.2 i (by simpa using hi) b k hf j (by simpa using hj) (by omega)
 |aq n f=>exact List.Pairwise.nil
 |dead v=>exact List.Pairwise.nil
 |_=>exact List.pairwise_singleton _ _
def aU.one{c:C}(h:dA w zl zb G c G1 s1):aU w zl zb G [c] G1 s1:=aU.cons h (aU.nil h.inv)
def aU.flat{cs:List C}(h:aU w zl zb G cs G1 s1)(hc:∀x∈cs,x.shape):aU w zl zb G (cs.flatMap C.cells) G1 s1 where
 inv:=h.inv
 all:=λc hx=>by obtain⟨x,hx,gG⟩:=zS.1 hx;obtain⟨a1,a2,a3,a4⟩:=h.all x hx;exact⟨(qi (hc x hx) a1 gG).2,λt b k hf=>a2 t b k (sP gG hf),λb k hf=>a3 b k (sP gG hf),λb k hf=>a4 b k (sP gG hf)⟩
 apart:=by
  have h1:=h.apart;have h2:=h.all;clear h hc;induction cs with
  |nil=>exact List.Pairwise.nil
  |cons x cs ih=>rw[gO];rw[ey] at h1;refine vH.2 ⟨Lb (h2 x (bE ..)).1,ih h1.2 (λc hc=>h2 c (bU _ hc)),λa ha b hb y k hf hf'=>?_⟩;obtain⟨x',hx',hb⟩:=zS.1 hb;exact h1.1 x' hx' y k (sP ha hf) (sP hb hf')
 val:=h.val
 mono:=h.mono
namespace Inv
def ext(h:Inv w zl zb G s){S:Nat->Nat->Prop}(hE:Ext S w w')(hS:∀t b k,(G t).fp b k->¬S b k)(hZ:∀b k,zl b k\/zb b k->¬S b k):Inv w' zl zb G s where
 er:=h.er
 ok:=λt=>C.dF hE (λm b k hz=>by cases m with
  |own=>exact hz.elim
  |sl=>exact hZ b k (.inl hz)
  |ah=>exact hZ b k hz) _ (hS t) (h.ok t)
 sep:=h.sep
 fz:=h.fz
 rf:=h.rf
 bF:=λb k hz=>iy (h.bF b k hz) hE.size
end Inv
def St.fresh'{c:Ctx}{zl:Nat->Nat->Prop}{a:Act}{l:List C}{S:Nat->Nat->Prop}(h:St c G zl s a w)(hT:aU w zl c.zb G l G1 s1)(hE:Ext S w w')(hS:∀b k,S b k->w.heap.size<=b\/∃y∈l,y.fp b k){x:C}{n:Nat}(hn:n<c.nt)(hok:x.ok w' (Zf zl c.zb))(hrf:x.rf G1)
  (bu:∀b k,x.fp b k->w.heap.size<=b\/∃y∈l,y.fp b k):∃G',St c G' zl (M.put n x.er s1) (a.put (some n) x.val) w':=by
 have hi:Inv w' zl c.zb G1 s1:=hT.inv.ext hE (λt b k hf hs=>by
  rcases hS b k hs with hb|⟨y,hy,hf'⟩;·have:=C.dD _ (hT.inv.ok t) b k hf;omega
  ·exact(hT.all y hy).2.1 t b k hf' hf) (λb k hz hs=>by
  rcases hS b k hs with hb|⟨y,hy,hf'⟩;·have:=hT.inv.bF b k hz;omega
  ·exact hz.elim ((hT.all y hy).2.2.1 b k hf').1 ((hT.all y hy).2.2.1 b k hf').2)
 have hdom:∀b k,(w.heap.size<=b\/∃y∈l,y.fp b k)->c.F0 b k\/c.w0.heap.size<=b:=λb k hh=>by
  rcases hh with hb|⟨y,hy,hf⟩;·exact .inr (gv h.tr.ext.size hb)
  ·obtain⟨t,ht⟩:=(hT.all y hy).2.2.2 b k hf;exact h.tr.dom t b k ht
 have h1:St c G1 zl s1 a w':=h.move hi hT.val hE (λb k hs=>hdom b k (hS b k hs)) (λt b k hf=>.inl ⟨t,hT.mono t b k hf⟩);refine h1.put hn hok (λt _ b k hf hf'=>?_) (λb k hf=>?_) hrf (λb k hf=>hdom b k (bu b k hf))
 ·rcases bu b k hf with hb|⟨y,hy,hf⟩;·have:=C.dD _ (hT.inv.ok t) b k hf';omega
  ·exact(hT.all y hy).2.1 t b k hf hf'
 ·rcases bu b k hf with hb|⟨y,hy,hf⟩;·exact⟨λhz=>by have:=hT.inv.bF b k (.inl hz);omega,λhz=>by have:=hT.inv.bF b k (.inr hz);omega⟩
  ·exact(hT.all y hy).2.2.1 b k hf
def St.fresh{c:Ctx}{zl:Nat->Nat->Prop}{a:Act}{l:List C}(h:St c G zl s a w)(hT:aU w zl c.zb G l G1 s1)(hE:Ext (λb _=>w.heap.size<=b) w w'){x:C}{n:Nat}(hn:n<c.nt)(hok:x.ok w' (Zf zl c.zb))(hrf:x.rf G1)
  (bu:∀b k,x.fp b k->w.heap.size<=b\/∃y∈l,y.fp b k):∃G',St c G' zl (M.put n x.er s1) (a.put (some n) x.val) w':=
 h.fresh' hT hE (λ_ _ hs=>.inl hs) hn hok hrf bu
def aU.fits'{l:List C}{S:Nat->Nat->Prop}(hT:aU w zl zb G l G1 s1)(hE:Ext S w w')(hZ:∀b k,zl b k\/zb b k->¬S b k){x:C}(hx:x.ok w (Zf zl zb))(hS:∀b k,x.fp b k->¬S b k):x.ok w' (Zf zl zb):=
 C.dF hE (λm b k hz=>by cases m with
  |own=>exact hz.elim
  |sl=>exact hZ b k (.inl hz)
  |ah=>exact hZ b k hz) _ hS hx
def aU.fits{l:List C}(hT:aU w zl zb G l G1 s1)(hE:Ext (λb _=>w.heap.size<=b) w w'){x:C}(hx:x∈l):x.ok w' (Zf zl zb):=by obtain⟨a1,a2,a3,a4⟩:=hT.all x hx;exact C.dF hE (λm b k hz hs=>by have:=zZ hT.inv.bF m b k hz;omega) _ (λb k hf hs=>by have:=C.dD _ a1 b k hf;omega) a1
def tw(w:World)(o:Obj):(w.alloc o).heap[w.heap.size]?=some o:=by show (w.heap.push o)[w.heap.size]?=_;simp
def Aa(w:World)(o:Obj):Ext (λb _=>w.heap.size<=b) w (w.alloc o):=Ext.alloc w _ o
def E4(w:World)(o:Obj):Ext (λb _=>w.heap.size<=b) w (w.drew.alloc o):=
 (Ext.drew w (λb _=>w.heap.size<=b)).trans (Ext.alloc w.drew (λb _=>w.heap.size<=b) o) (λ_ _ h _=>h)
end M
namespace M
open Go Go.RowKit
variable [Bs]
section
variable {P:Program}{c:Ctx}{G:Nat->C}{zl:Nat->Nat->Prop}{s:af}{a:Act}{w:World}{o:Oper}{K:af->Prop}
def jG:List Value->List X->Bool
 |[],[]=>true
 |v::vs,x::xs=>(wu v x||(match x with|.dead=>v.oneCell'|_=>false)) && jG vs xs
 |_,_=>false
structure JW (w:World) (zl zb:Nat->Nat->Prop) (vs:List Value) (xs:List X) (l:List C):Prop where
 er:l.map C.er=xs
 val:l.map C.val=vs
 all:∀x∈l,x.plain/\x.ok w (Zf zl zb)/\∀b k,¬x.fp b k
def vO(w:World)(zl zb:Nat->Nat->Prop):∀{vs:List Value} {xs:List X},jG vs xs=true->∃l,JW w zl zb vs xs l
 |[],[],_=>⟨[],rfl,rfl,λ_ hx=>(by cases hx)⟩
 |v::vs,x::xs,h=>by
  simp only[jG,au,pU] at h;obtain⟨l,l1,l2,l3⟩:=vO w zl zb h.2
  have:∃d:C,d.er=x/\d.val=v/\d.plain/\d.ok w (Zf zl zb)/\∀b k,¬d.fp b k:=by
   rcases h.1 with h1|h1;·obtain⟨d,d1,d2,d3,d4⟩:=E1 (w:=w) (zl:=zl) (c:=⟨w,zl,zl,zb,0,[]⟩) (G:=λ_=>.dead undef) h1;exact⟨d,d1,d2,d4,d3.ok,d3.bV⟩
   ·cases x with
    |dead=>exact⟨.dead v,rfl,rfl,h1,trivial,λ_ _ h=>h⟩
    |_=>cases h1
  obtain⟨d,d1,d2,d3⟩:=this;refine⟨d::l,by simp[d1,l1],by simp[d2,l2],λx hx=>?_⟩;rcases bA.1 hx with rfl|hx;·exact d3
  ·exact l3 x hx
 |[],_::_,h=>by cases h
 |_::_,[],h=>by cases h
def mC{l:List C}(h:∀x∈l,∀b k,¬x.fp b k):l.Pairwise λa b=>∀x k,a.fp x k->¬b.fp x k:=by
 induction l with
 |nil=>exact List.Pairwise.nil
 |cons x l ih=>exact ey.2 ⟨λy _ b k hf=>(h x (bE ..) b k hf).elim,ih λy hy=>h y (bU _ hy)⟩
def aU.none(h:Inv w zl c.zb G s){l:List C}(hl:∀x∈l,x.ok w (Zf zl c.zb)/\∀b k,¬x.fp b k):aU w zl c.zb G l G s:=
 ⟨h,λx hx=>⟨(hl x hx).1,λt b k hf=>((hl x hx).2 b k hf).elim,λb k hf=>((hl x hx).2 b k hf).elim,λb k hf=>((hl x hx).2 b k hf).elim⟩,mC λx hx=>(hl x hx).2,λ_=>rfl,λ_ _ _ hf=>hf⟩
def FX(h:St c G zl s a w){l:List C}{G1:Nat->C}{s1:af}(hT:aU w zl c.zb G l G1 s1)(hcell:∀x∈l,x.cell)(hrf:∀x∈l,x.rf G1){d:Nat}(hd:o.dst=some d)(hn:d<c.nt){t:TypeId}{arr:Array Value}(Bf:arr=(l.map C.val).toArray)
  (hrun:(execOp a.eval o).run P w=.ok (.value (.pointer (some ⟨w.heap.size,0,none⟩))) (w.alloc (.cells arr t)))(hK:K (put d (.ptr .own (l.map C.er)) s1)):gB P c o a w K:=by
 subst Bf;have hE:=Aa w (.cells (l.map C.val).toArray t);have hnew:=tw w (.cells (l.map C.val).toArray t)
 have hok:(uG w.heap.size l).ok (w.alloc (.cells (l.map C.val).toArray t)) (Zf zl c.zb):=by
  refine Q1 ?_ (λq x hq=>?_) (λk _=>frozen_of_row _ _ _ _ _ hnew) (λx hx=>⟨hcell x hx,hT.fits hE hx⟩) hT.apart (λx hx b k hf=>?_);·exact(gQ.1 hnew).1
  ·rw[cell_of_row _ _ _ _ _ (0,0) hnew];simp[hq]
  ·have:=C.dD _ (hT.all x hx).1 b k hf;omega
 obtain⟨G',h'⟩:=h.fresh hT hE hn hok (λj hj=>hrf _ (bO hj _)) (λb k hf=>(Q0 hf).imp (λe=>by omega) id);refine⟨_,_,hrun,hE.mono (λb k hs hb=>by omega),G',zl,_,hK,?_⟩;rw[hd];rw[QZ] at h';exact h'
def good_row(h:St c G zl s a w){L:List (List C)}{sz cap:Nat}{G1:Nat->C}{s1:af}(hL:∀e∈L,e.length=sz)(hcap:L.length<=cap)(hT:aU w zl c.zb G L.flatten G1 s1)(hpl:∀x∈L.flatten,x.plain){d:Nat}(hd:o.dst=some d)(hn:d<c.nt)
  {t:TypeId}{arr:Array Value}{fz:Nat×Nat}{w':World}(hE:Ext (λb _=>w.heap.size<=b) w w')(hnew:w'.heap[w.heap.size]?=some (.cells arr t fz))(hsz:cap*sz<=arr.size)(hfz:∀k,k<cap*sz->¬(fz.1<=k/\k<fz.2))(Bf:∀(q:Nat) (x:C),L.flatten[q]?=some x->arr[q]?=some x.val)
  (hrun:(execOp a.eval o).run P w=.ok (.value (.slice (some ⟨w.heap.size,0,none⟩) L.length cap)) w')(hK:K (put d (.row .own sz (L.map λe=>e.map C.er)) s1)):gB P c o a w K:=by
 have hok:(oW w.heap.size 0 sz cap L).ok w' (Zf zl c.zb):=by
  refine HC hL hcap hnew (by omega) (λk _ hk=>?_) (λq x hq=>?_) (λx hx=>⟨C.iT (hpl x hx),C.uF (hpl x hx),hT.fits hE hx⟩) hT.apart (λx hx b k hf=>?_);·have:=hfz k (by omega);simp[World.frozen?,hnew];omega
  ·rw[cell_of_row _ _ _ _ _ fz hnew,j6];exact Bf q x hq
  ·have:=C.dD _ (hT.all x hx).1 b k hf;omega
 obtain⟨G',h'⟩:=h.fresh hT hE hn hok trivial (λb k hf=>(HB hL hf).imp (λe=>by omega) id);refine⟨_,_,hrun,hE.mono (λb k hs hb=>by omega),G',zl,_,hK,?_⟩;rw[hd];rw[HA hL] at h';exact h'
def QB(h:St c G zl s a w){d:Nat}{ty:TypeId}{i:TypeInfo}{v:Value}{z:List X}(ho:o.op=.alloc ty)(hi:P.info? ty=some i)(hz:i.zero=some v)(hc:jG v.cells.toList z=true)(hd:o.dst=some d)(hn:d<c.nt)
  (hK:aI P (.new d z) s K):gB P c o a w K:=by
 obtain⟨l,l1,l2,l3⟩:=vO w zl c.zb hc;refine FX h (aU.none h.inv λx hx=>(l3 x hx).2) (λx hx=>C.iT (l3 x hx).1) (λx hx=>C.kJ (l3 x hx).1 _) hd hn (t:=ty) (arr:=v.cells) ?_ ?_ (by rw[l1];exact hK);·rw[l2]
 ·simp[execOp,ho,Instr.alloc,zeroValue,typeInfo,hi,hz,newVar,newRow]
def Qh(h:St c G zl s a w){d:Nat}{tk:Tk}{ty:TypeId}{x:AV}{x':Operand}(ho:o.op=.box ty x')(hd:o.dst=some d)(hn:d<c.nt)(hx:aG x' x=true)
  (hK:aI P (.box d tk x) s K):gB P c o a w K:=by obtain⟨y,e1,e2,e3⟩:=bp h hx;obtain⟨y',G1,f1,f2,f3,f4⟩:=lW tk h.inv e3;obtain⟨k1,k2⟩:=hK;rw[<-e1,<-f1,<-oo] at k1 k2;have hsh:=y6 f4.rf;have hT:=aU.flat (aU.one f4) (λx hx=>by rw[ew] at hx;subst hx;exact hsh);simp only[gO,DB,nW] at hT;refine FX h hT (λx hx=>(qi hsh f4.ok hx).1) (λx hx=>Ay f4.rf hx) hd hn (t:=ty) (wq (by simpa using k1) hsh) ?_ k2;rw[f2,e2];simp[execOp,ho,Instr.box,newVar,newRow]
def Qx(h:St c G zl s a w){d sz bytes:Nat}{ty el:TypeId}{i:TypeInfo}{v:Value}{z:List X}{n:AV}{n' n2:Operand}(ho:o.op=.makeSlice ty n' n2)(hu:P.underlying ty=some (.slice el))(hi:P.info? el=some i)(hz:i.zero=some v)(hsz:i.size=sz)(hb:i.bytes=bytes)(hb0:0<bytes)
  (h0:0<sz)(hzs:z.length=sz)(hc:jG v.cells.toList z=true)(hd:o.dst=some d)(hn:d<c.nt)(hx:aG n' n=true)(hx2:aG n2 n=true)(hK:aI P (.make d sz bytes z n) s K):gB P c o a w K:=by
 obtain⟨y,e1,e2,e3⟩:=bp h hx;obtain⟨y2,g1,g2,g3⟩:=bp h hx2;simp only[aI] at hK;split at hK
 ·rename_i k m hm;have hm2:=hm;rw[<-e1] at hm;rw[<-g1] at hm2;have:=jH hm;subst this;have:=jH hm2;subst this;obtain⟨k1,k2,k3⟩:=hK;obtain⟨l,l1,l2,l3⟩:=vO w zl c.zb hc;have oA:l.length=sz:=by rw[<-hzs,<-l1];simp
  have hvs:v.cells.size=sz:=by have:=cK List.length l2;simp only[cM,vK] at this;omega
  have hL:∀e∈List.replicate m.toNat l,e.length=sz:=λe he=>by rw[(List.mem_replicate.1 he).2];exact oA
  have hfl:∀x∈(List.replicate m.toNat l).flatten,x∈l:=λx hx=>by obtain⟨e,he,hx⟩:=zT.1 hx;rw[(List.mem_replicate.1 he).2] at hx;exact hx
  have hmul:m<=m*bytes:=by have:m*1<=m*(bytes:Int):=Int.mul_le_mul_of_nonneg_left (by omega) k1;omega
  have hr:=run_make (P:=P) w ty el i v hu hi hz k k m m k1 (Int.le_refl _) (by rw[hb,Int.mul_comm];omega) (by omega);refine good_row h (L:=List.replicate m.toNat l) (cap:=m.toNat) hL (by simp) (aU.none h.inv λx hx=>(l3 x (hfl x hx)).2) (λx hx=>(l3 x (hfl x hx)).1) hd hn (Aa w (.cells (madeCells v.cells (m.toNat*i.size)) el (0,0))) (tw w (.cells (madeCells v.cells (m.toNat*i.size)) el (0,0))) ?_ ?_ ?_ ?_ ?_;·rw[size_madeCells,hsz];exact ez _
  ·intro k _ hh;simp at hh
  ·intro q x hq;have tE:q<m.toNat*sz:=by have:=(br.1 hq).1;rw[mQ hL,List.length_replicate] at this;exact this
   have hj:q%sz<sz:=r9 _ h0;have hi':q / sz<m.toNat:=I3 (by rw[l9];exact tE);have tD:q=q / sz*sz+q%sz:=by have:=vL q sz;rw[l9] at this;omega
   have:=s9 hL (q / sz) (q%sz) (by simpa using hi') hj;rw[<-tD,hq,DF,aA hi'] at this;simp only[jx] at this;have hv:v.cells.toList[q%sz]?=some x.val:=by rw[<-l2,cg,<-this];rfl
   have dw:v.cells[q%sz]?=some x.val:=by simpa using hv
   rw[hsz];simp only[madeCells,Array.getElem?_map];rw[Array.getElem?_range,aA tE];simp[hvs,getElem!_def,dw]
  ·simp[execOp,ho,<-e2,<-g2,C.val,hr]
  ·rw[List.map_replicate,l1];exact k3
 ·exact hK.elim
def Qj(h:St c G zl s a w){d:Nat}{src dst el:TypeId}{x:AV}{x':Operand}(ho:o.op=.convert src dst x')(hs:P.underlying src=some .string)(hu:P.underlying dst=some (.slice el))(he:P.underlying el=some (.int .u8))(hd:o.dst=some d)(hn:d<c.nt)(hx:aG x' x=true)
  (hK:aI P (.bytes d x) s K):gB P c o a w K:=by
 obtain⟨y,e1,e2,e3⟩:=bp h hx;simp only[aI] at hK;split at hK
 ·rename_i t ht;rw[<-e1] at ht;have:=wG ht;subst this;have hr:=run_bytes_of_string (P:=P) w src dst el t hs hu he;have hge:=grownCap_ge w t.size 0 el;generalize grownCap w t.size 0 el=cap at hr hge;have hL:∀e∈t.data.toList.map (λb:UInt8=>[C.int .u8 (b.toNat:Int)]),e.length=1:=λe he=>by obtain⟨b,_,rfl⟩:=aL.1 he;rfl
  have hfl:∀x∈(t.data.toList.map (λb:UInt8=>[C.int .u8 (b.toNat:Int)])).flatten,∃n,x=C.int .u8 n:=λx hx=>by obtain⟨e,he,hx⟩:=zT.1 hx;obtain⟨b,_,rfl⟩:=aL.1 he;exact⟨_,ew.1 hx⟩
  have hts:t.size=t.data.size:=rfl;have hlen:(t.data.toList.map (λb:UInt8=>[C.int .u8 (b.toNat:Int)])).length=t.size:=by rw[cM,vK];rfl
  have hsz:(bytesRow t cap).size=cap:=by simp[bytesRow];omega
  refine good_row h (L:=t.data.toList.map (λb:UInt8=>[C.int .u8 (b.toNat:Int)])) (cap:=cap) (sz:=1) hL (by rw[hlen];exact hge) (aU.none h.inv λx hx=>?_) (λx hx=>?_) hd hn (E4 w (.cells (bytesRow t cap) el ((bytesRow t cap).size,(bytesRow t cap).size+1))) (tw w.drew (.cells (bytesRow t cap) el ((bytesRow t cap).size,(bytesRow t cap).size+1))) ?_ ?_ ?_ ?_ ?_;·obtain⟨n,rfl⟩:=hfl x hx;exact⟨trivial,λ_ _ hf=>hf⟩
  ·obtain⟨n,rfl⟩:=hfl x hx;trivial
  ·rw[hsz];omega
  ·intro k hk;rw[hsz];omega
  ·intro q x hq;have tE:q<t.data.size:=by have:=(br.1 hq).1;rw[mQ hL,hlen] at this;omega
   have:=s9 hL q 0 (by rw[hlen];omega) (by omega);rw[Nat.mul_one,lZ,hq,cg] at this;rw[bytesRow_at t cap q tE];rw[bH (by simpa using tE)] at this;simp at this;rw[this];rfl
  ·rw[hlen];simp[execOp,ho,<-e2,C.val,hr]
  ·rw[bT];exact hK
 ·exact hK.elim
end
end M
namespace M
open Go Go.RowKit
variable [Bs]
def QW{y:C}(hc:y.cell)(h:bX y.er=true):y.plain:=by cases y<;>first|exact hc|trivial|(simp[C.er,bX] at h)
def y7:∀{l:List X},eN l=true->∀x∈l,bX x=true
 |[],_,x,hx=>by cases hx
 |y::l,h,x,hx=>by
  simp only[eN,au] at h;rcases bA.1 hx with rfl|hx;·exact h.1
  ·exact y7 h.2 x hx
def GF{w:World}{Z:Md->Nat->Nat->Prop}{x y:C}(hs:x.shape)(hok:x.ok w Z)(h:eN (cellsOf x.er)=true)(hy:y∈x.cells):y.plain:=by refine QW (qi hs hok hy).1 (y7 h _ ?_);rw[<-oo];exact gR hy
section
variable {P:Program}{c:Ctx}{G:Nat->C}{zl:Nat->Nat->Prop}{s:af}{a:Act}{w:World}{o:Oper}{K:af->Prop}
def St.rX{x:C}{G1:Nat->C}{s1:af}(h:St c G zl s a w)(hT:dA w zl c.zb G x G1 s1):St c G1 zl s1 a w:=
 h.move hT.inv hT.val (Ext.refl (λ_ _=>False) w) (λ_ _ hs=>hs.elim) (λt b k hf=>.inl ⟨t,hT.mono t b k hf⟩)
def CY(tk:Tk):∀{l':List Operand} {l:List AV},je l' l=true->∀{G:Nat->C} {s:af},St c G zl s a w->
  ∃cs G',cs.map C.er=(takes tk l s).1/\cs.map C.val=l'.map a.eval/\aU w zl c.zb G cs G' (takes tk l s).2/\∀x∈cs,x.shape
 |[],[],_,G,s,h=>⟨[],G,rfl,rfl,aU.nil h.inv,λ_ hx=>(by cases hx)⟩
 |x'::l',x::l,hc,G,s,h=>by
  simp only[je,au] at hc;obtain⟨p,p1,p2,p3⟩:=bp h hc.1;obtain⟨y,G1,f1,f2,f3,f4⟩:=lW tk h.inv p3;obtain⟨cs,G',g1,g2,g3,g4⟩:=CY tk hc.2 (h.rX f4);rw[p1] at f1 g1 g3 f4;refine⟨y::cs,G',by simp[takes,f1,g1],by simp[f2,p2,g2],aU.cons f4 g3,λz hz=>?_⟩;rcases bA.1 hz with rfl|hz;·exact y6 f4.rf
  ·exact g4 z hz
 |[],_::_,hc,_,_,_=>by cases hc
 |_::_,[],hc,_,_,_=>by cases hc
def RL(x:X)(s:af):take .al x s=(x,s):=by cases x<;>rfl
def Ia:∀(l:List AV) (s:af),takes .al l s=(l.map (aj s),s)
 |[],s=>rfl
 |x::l,s=>by simp only[takes,RL,Ia l s,aS]
def RM(tk:Tk){l':List Operand}{l:List AV}(hc:je l' l=true)(h:St c G zl s a w)(hs:y8 tk (takes tk l s).1):
  ∃cs G',cs.map C.er=(takes tk l s).1/\cs.map C.val=l'.map a.eval/\aU w zl c.zb G cs G' (takes tk l s).2/\(∀x∈cs,x.shape)/\∀x∈cs,∀y∈x.cells,y.rf G':=by
 have gen:(∀x∈(takes tk l s).1,eN (cellsOf x)=true)->∃cs G',cs.map C.er=(takes tk l s).1/\cs.map C.val=l'.map a.eval/\aU w zl c.zb G cs G' (takes tk l s).2/\(∀x∈cs,x.shape)/\∀x∈cs,∀y∈x.cells,y.rf G':=by intro hs;obtain⟨cs,G',g1,g2,g3,g4⟩:=CY tk hc h;refine⟨cs,G',g1,g2,g3,g4,λx hx y hy=>C.kJ (GF (g4 x hx) (g3.all x hx).1 (hs _ ?_) hy) _⟩;rw[<-g1];exact gR hx
 cases tk with
 |al=>rw[Ia];obtain⟨cs,l1,l2,l3⟩:=Ch h hc;exact⟨cs,G,l1,l2,aU.none h.inv λx hx=>⟨(l3 x hx).ok,(l3 x hx).bV⟩,λx hx=>y6 (l3 x hx).rf,λx hx y hy=>Ay (l3 x hx).rf hy⟩
 |mv=>exact gen hs
 |aZ=>exact gen hs
def sR:Nat->List (Nat×Operand)->List AV->Bool
 |_,[],[]=>true
 |k,(i,x')::l',x::l=>i==k && aG x' x && sR (k+1) l' l
 |_,_,_=>false
def EU(a:Act):∀{k:Nat} {l':List (Nat×Operand)} {l:List AV},sR k l' l=true->je (l'.map (·.2)) l=true/\l'.length=l.length/\(l'.map λx=>(x.1,a.eval x.2))=(((l'.map (·.2)).map a.eval).zipIdx k).map λx=>(x.2,x.1)
 |k,[],[],_=>⟨rfl,rfl,rfl⟩
 |k,(i,x')::l',x::l,h=>by simp only[sR,au,cT] at h;obtain⟨⟨rfl,h1⟩,h2⟩:=h;obtain⟨i1,i2,i3⟩:=EU a h2;exact⟨by simp[je,h1,i1],by simp[i2],by simp[i3,List.zipIdx_cons]⟩
 |k,[],_::_,h=>by cases h
 |k,_::_,[],h=>by cases h
def Qv(h:St c G zl s a w){d sz n:Nat}{tk:Tk}{ty el:TypeId}{i:TypeInfo}{v:Value}{ps:List AV}{ps':Array (Nat×Operand)}(ho:o.op=.buildSlice ty n ps')(hu:P.underlying ty=some (.slice el))(hi:P.info? el=some i)(hz:i.zero=some v)(hsz:i.size=sz)
  (h0:0<sz)(hvs:v.cells.size=sz)(hn':ps'.toList.length=n)(hbig:n*sz<=16777216)(hd:o.dst=some d)(hn:d<c.nt)(hx:sR 0 ps'.toList ps=true)(hK:aI P (.lit d tk sz ps) s K):gB P c o a w K:=by
 obtain⟨i1,i2,i3⟩:=EU a hx;obtain⟨k1,k2⟩:=hK;obtain⟨cs,G',g1,g2,g3,g4⟩:=CY tk i1 h;rw[<-g1] at k1 k2;have hlen:∀x∈cs,x.cells.length=sz:=λx hx=>by have:=(k1 x.er (gR hx)).1;rw[<-oo] at this;simpa using this
 have hcl:cs.length=n:=by have:=cK List.length g2;simp only[cM] at this;omega
 have hL:∀e∈cs.map C.cells,e.length=sz:=λe he=>by obtain⟨x,hx,rfl⟩:=aL.1 he;exact hlen x hx
 have hfl:(cs.map C.cells).flatten=cs.flatMap C.cells:=by rw[List.flatMap_def]
 have hval:∀x∈cs,x.val.cells=(x.cells.map C.val).toArray:=λx hx=>wq (by rw[hlen x hx];exact h0) (g4 x hx);have hvl:∀v∈cs.map C.val,v.cells.size=sz:=λv hv=>by obtain⟨x,hx,rfl⟩:=aL.1 hv;rw[hval x hx];simp[hlen x hx]
 have N8:((cs.map C.val).flatMap λv=>v.cells.toList)=(cs.flatMap C.cells).map C.val:=by
  rw[List.map_flatMap,List.flatMap_map];clear k1 k2 g1 g2 g3 g4 hcl hL hfl hvl hlen;induction cs with
  |nil=>rfl
  |cons x cs ih=>rw[gO,gO,ih λy hy=>hval y (bU _ hy),hval x (bE ..)]
 have hparts:(ps'.map λ(i,x)=>(i,a.eval x)).toList=((cs.map C.val).zipIdx 0).map λx=>(x.2,x.1):=by rw[Ds,g2];exact i3
 have hrun:(Instr.buildSlice ty n (ps'.map λ(i,x)=>(i,a.eval x))).run P w=.ok (.slice (some ⟨w.heap.size,0,none⟩) n n) (w.alloc (.cells ((cs.flatMap C.cells).map C.val).toArray el)):=by
  by_cases hz0:n=0
  ·subst hz0;have hc0:cs=[]:=zL hcl;subst hc0;have hp:ps'= #[]:=by apply kU;exact zL hn'
   subst hp;simp[Instr.buildSlice,run_underlying hu,Go.sizeOf,typeInfo,hi,newRow,Instr.fill,Array.range_zero']
  ·have hsmall:¬n*i.size>2^24:=by rw[hsz];omega
   have hpos:¬n*i.size=0:=by rw[hsz];have:=Nat.mul_pos (Nat.pos_of_ne_zero hz0) h0;omega
   refine run_buildSlice (P:=P) w ty el n _ _ i v hu hi hz hsmall hpos ?_;rw[hparts,hsz,<-N8];exact Great.fill_whole h0 _ _ hvl (by simp[hcl])
 refine good_row h (L:=cs.map C.cells) (cap:=n) (sz:=sz) (fz:=(0,0)) (w':=w.alloc (.cells ((cs.flatMap C.cells).map C.val).toArray el)) hL (by simp[hcl]) (by rw[hfl];exact aU.flat g3 g4) (λy hy=>?_) hd hn (Aa w _) (tw w _) ?_ (λk _ hh=>by simp at hh) ?_ ?_ ?_;·rw[hfl] at hy;obtain⟨x,hx,hy⟩:=zS.1 hy;exact GF (g4 x hx) (g3.all x hx).1 (k1 x.er (gR hx)).2 hy
 ·have:=mQ hL;rw[hfl] at this;simp only[cM] at this;simp[this,hcl]
 ·intro q x hq;rw[hfl] at hq;simp[hq]
 ·have:(cs.map C.cells).length=n:=by simp[hcl]
  rw[this];simp only[execOp,ho,Sem.run_bind,hrun,Result.andThen_ok,Sem.run_pure]
 ·rw[bT] at k2⊢;have:cs.map (cellsOf∘C.er)=cs.map ((λe=>e.map C.er)∘C.cells):=bn λx _=>(oo x).symm;rw[<-this];exact k2
def FH:∀(vs:List Value) (off k:Nat) (cells:Array Value),((vs.zipIdx k).foldl (λcs (x:Value×Nat)=>cs.setIfInBounds (off+x.2) x.1) cells).toList=gU cells.toList (off+k) vs
 |[],off,k,cells=>rfl
 |v::vs,off,k,cells=>by rw[List.zipIdx_cons,zN,FH vs off (k+1)];rw[Array.toList_setIfInBounds];rfl
def AX{α β:Type}(f:α->β):∀(ys:List α) (l:List α) (o:Nat),(gU l o ys).map f=gU (l.map f) o (ys.map f)
 |[],l,o=>rfl
 |y::ys,l,o=>by simp only[gU,aS];rw[AX f ys,Je]
def Fq{α:Type}:∀(ys:List α) (l:List α) (o:Nat),(gU l o ys).length=l.length
 |[],l,o=>rfl
 |y::ys,l,o=>by simp only[gU];rw[Fq ys,List.length_set]
def AY{α:Type}:∀(ys:List α) (l:List α) (o:Nat),∀x∈gU l o ys,x∈l\/x∈ys
 |[],l,o,x,hx=>.inl hx
 |y::ys,l,o,x,hx=>by
  rcases AY ys _ _ x hx with hx|hx
  ·rcases zU hx with hx|rfl;·exact .inl hx
   ·exact .inr (bE ..)
  ·exact .inr (bU _ hx)
def HN{α:Type}{R:α->α->Prop}(mY:∀a b,R a b->R b a){y:α}:∀{l:List α},l.Pairwise R->(∀x∈l,R x y)->∀o,(l.set o y).Pairwise R
 |[],h,hy,o=>by simp
 |x::l,h,hy,0=>by rw[ey] at h;rw[Dm];exact ey.2 ⟨λa ha=>mY _ _ (hy a (bU _ ha)),h.2⟩
 |x::l,h,hy,o+1=>by
  rw[ey] at h;rw[List.set_cons_succ];refine ey.2 ⟨λa ha=>?_,HN mY h.2 (λz hz=>hy z (bU _ hz)) o⟩;rcases zU ha with ha|rfl;·exact h.1 a ha
  ·exact hy x (bE ..)
def Fs{α:Type}{R:α->α->Prop}(mY:∀a b,R a b->R b a):∀(ys:List α) (l:List α) (o:Nat),l.Pairwise R->ys.Pairwise R->(∀x∈l,∀y∈ys,R x y)->(gU l o ys).Pairwise R
 |[],l,o,h,_,_=>h
 |y::ys,l,o,h,h2,h3=>by
  rw[ey] at h2;refine Fs mY ys _ _ (HN mY h (λx hx=>h3 x hx y (bE ..)) o) h2.2 λx hx z hz=>?_;rcases zU hx with hx|rfl;·exact h3 x hx z (bU _ hz)
  ·exact h2.1 z hz
def jh:List C->List Nat->List C->List C
 |cs,o::os,y::ys=>jh (gU cs o y.cells) os ys
 |cs,_,_=>cs
def Fv:∀(cs:List C) (os:List Nat) (ys:List C),(jh cs os ys).map C.er=qv (cs.map C.er) os (ys.map C.er)
 |cs,[],ys=>by cases ys<;>rfl
 |cs,o::os,[]=>rfl
 |cs,o::os,y::ys=>by simp only[jh,qv,aS];rw[Fv,AX,oo]
def Fw:∀(cs:List C) (os:List Nat) (ys:List C),∀x∈jh cs os ys,x∈cs\/x∈ys.flatMap C.cells
 |cs,[],ys,x,hx=>by cases ys<;>exact .inl hx
 |cs,o::os,[],x,hx=>.inl hx
 |cs,o::os,y::ys,x,hx=>by
  rw[gO,dz];rcases Fw _ os ys x hx with hx|hx;·exact(AY _ _ _ x hx).imp id .inl
  ·exact .inr (.inr hx)
def Fx{R:C->C->Prop}(mY:∀a b,R a b->R b a):∀(cs:List C) (os:List Nat) (ys:List C),cs.Pairwise R->(ys.flatMap C.cells).Pairwise R->(∀x∈cs,∀y∈ys.flatMap C.cells,R x y)->(jh cs os ys).Pairwise R
 |cs,[],ys,h,_,_=>by cases ys<;>exact h
 |cs,o::os,[],h,_,_=>h
 |cs,o::os,y::ys,h,h2,h3=>by
  rw[gO,vH] at h2;refine Fx mY _ os ys (Fs mY _ _ _ h h2.1 λx hx z hz=>h3 x hx z (by rw[gO];exact Jf _ hz)) h2.2.1 λx hx z hz=>?_;rcases AY _ _ _ x hx with hx|hx;·exact h3 x hx z (by rw[gO];exact Jg _ hz)
  ·exact h2.2.2 x hx z hz
def oq(places:List (Nat×Nat))(len:Nat):List (Nat×Operand)->List ((Nat×Nat)×AV)->Bool
 |[],[]=>true
 |(i,x')::l',((off,size),x)::l=>(match places[i]? with|some q=>q.1==off && q.2==size|none=>false) && decide (0<size) && decide (off+size<=len) && aG x' x && oq places len l' l
 |_,_=>false
def EP{places:List (Nat×Nat)}{len:Nat}:∀{l':List (Nat×Operand)} {l:List ((Nat×Nat)×AV)},oq places len l' l=true->je (l'.map (·.2)) (l.map (·.2))=true
 |[],[],_=>rfl
 |(i,x')::l',((off,size),x)::l,h=>by simp only[oq,au] at h;simp only[aS,je,h.1.2,EP h.2,Bool.and_self]
 |[],_::_,h=>by cases h
 |_::_,[],h=>by cases h
def Ft(a:Act){places:List (Nat×Nat)}{len:Nat}:∀{l':List (Nat×Operand)} {l:List ((Nat×Nat)×AV)},oq places len l' l=true->∀(zs cs:List C),zs.length=len->cs.map C.val=(l'.map (·.2)).map a.eval->(∀x∈cs,x.shape)->rS (l.map (·.1.2)) (cs.map C.er)->
  Instr.fill (λi=>places[i]?) (zs.map C.val).toArray (l'.map λx=>(x.1,a.eval x.2))=some ((jh zs (l.map (·.1.1)) cs).map C.val).toArray
 |[],[],_,zs,cs,hz,hv,hs,hsz=>by
  cases cs with
  |nil=>rfl
  |cons x cs=>simp at hv
 |(i,x')::l',((off,size),x)::l,h,zs,cs,hz,hv,hs,hsz=>by
  simp only[oq,au,aP] at h;obtain⟨⟨⟨⟨h1,h2⟩,h3⟩,h4⟩,h5⟩:=h;cases cs with
  |nil=>simp at hv
  |cons y cs=>
   simp only[aS,sn] at hv;simp only[aS,rS] at hsz
   have hpl:places[i]?=some (off,size):=by
    cases hp:places[i]? with
    |none=>rw[hp] at h1;cases h1
    |some q=>rw[hp] at h1;simp only[au,cT] at h1;rw[<-h1.1,<-h1.2]
   have lH:y.cells.length=size:=by have:=hsz.1;rw[<-oo] at this;simpa using this
   have kA:=wq (by rw[lH];exact h2) (hs y (bE ..));simp only[aS];unfold Instr.fill;simp only[hpl,<-hv.1,kA];rw[aC (by simp[lH,hz];exact h3)];have:(((y.cells.map C.val).toArray.zipIdx).foldl (λcs (x:Value×Nat)=>cs.setIfInBounds (off+x.2) x.1) (zs.map C.val).toArray)=((gU zs off y.cells).map C.val).toArray:=by apply kU;rw[<-Array.foldl_toList,Array.toList_zipIdx,FH,AX];rfl
   have ih:=Ft a h5 (gU zs off y.cells) cs (by rw[Fq];exact hz) hv.2 (λx hx=>hs x (bU _ hx)) hsz.2;simp only[jh];rw[<-ih,<-this]
 |[],_::_,h,_,_,_,_,_,_=>by cases h
 |_::_,[],h,_,_,_,_,_,_=>by cases h
def Qi(h:St c G zl s a w){d:Nat}{tk:Tk}{ty:TypeId}{i:TypeInfo}{v:Value}{z:List X}{ps:List ((Nat×Nat)×AV)}{ps':Array (Nat×Operand)}{places:List (Nat×Nat)}(ho:o.op=.build ty ps')
  (hb:∀parts cells,Instr.fill (λi=>places[i]?) v.cells parts=some cells->P.built ty parts=some cells)(hc:jG v.cells.toList z=true)(hd:o.dst=some d)(hn:d<c.nt)(hx:oq places z.length ps'.toList ps=true)
  (hK:aI P (.build d tk z ps) s K):gB P c o a w K:=by
 obtain⟨k1,k2,k3⟩:=hK;obtain⟨cs,G',g1,g2,g3,g4,g5⟩:=RM tk (EP hx) h k1;obtain⟨l,l1,l2,l3⟩:=vO w zl c.zb hc;rw[<-g1] at k2 k3;have oA:l.length=z.length:=by rw[<-l1];simp
 have Gg:=Ft a hx l cs oA g2 g4 k2;have OJ:(l.map C.val).toArray=v.cells:=by rw[l2]
 rw[OJ] at Gg;have hrun:(Instr.build ty (ps'.map λ(i,x)=>(i,a.eval x))).run P w=.ok (.agg ((jh l (ps.map (·.1.1)) cs).map C.val).toArray) w:=by refine run_build w ty _ _ (hb _ _ ?_);rw[Ds];exact Gg
 have hT:=aU.flat g3 g4
 have hall:∀x∈jh l (ps.map (·.1.1)) cs,x.cell/\x.ok w (Zf zl c.zb)/\x.rf G'/\∀b k,x.fp b k->∃y∈cs.flatMap C.cells,y.fp b k:=λx hx=>by
  rcases Fw _ _ _ x hx with hx|hx;·obtain⟨a1,a2,a3⟩:=l3 x hx;exact⟨C.iT a1,a2,C.kJ a1 _,λb k hf=>(a3 b k hf).elim⟩
  ·obtain⟨y,hy,hx'⟩:=zS.1 hx;obtain⟨b1,b2⟩:=qi (g4 y hy) (g3.all y hy).1 hx';exact⟨b1,b2,g5 y hy x hx',λb k hf=>⟨x,hx,hf⟩⟩
 have fJ:(jh l (ps.map (·.1.1)) cs).Pairwise λa b=>∀x k,a.fp x k->¬b.fp x k:=
  Fx (λa b hab x k hf hf'=>hab x k hf' hf) _ _ _ (mC λx hx=>(l3 x hx).2.2) hT.apart λx hx y _ b k hf=>((l3 x hx).2.2 b k hf).elim
 obtain⟨G2,h'⟩:=h.fresh hT (Ext.refl _ w) hn (x:=eC (jh l (ps.map (·.1.1)) cs)) ⟨λj hj=>⟨(hall _ (bO hj _)).1,(hall _ (bO hj _)).2.1⟩,λj hj b k hf j' hj' hne=>q8 fJ _ hj hj' hne hf⟩ (λj hj=>(hall _ (bO hj _)).2.2.1) (λb k hf=>by obtain⟨x,hx,hf⟩:=(mA _ _ _).1 hf;exact .inr ((hall x hx).2.2.2 b k hf))
 refine⟨.agg ((jh l (ps.map (·.1.1)) cs).map C.val).toArray,w,?_,Ext.refl _ _,G2,zl,_,k3,?_⟩;·simp only[execOp,ho,Sem.run_bind,hrun,Result.andThen_ok,Sem.run_pure]
 ·rw[hd];rw[p7,Fv,l1,sG] at h';exact h'
end
end M
namespace M
open Go Go.RowKit
variable [Bs]
section
variable {P:Program}
def Rm{w:World}{g k:Nat}{v u:Value}(hv:v.oneCell'=true)(hc:w.cell? ⟨g,k,none⟩=some u)(hf:w.frozen? ⟨g,k,none⟩=false):(store ⟨g,k,none⟩ v).run P w=.ok () (w.setCell ⟨g,k,none⟩ v):=by rw[run_store P w _ v _ hv,hc];simp[hf]
def dn.hand{d y z:C}{i c g k:Nat}(h:dn d i c y g k)(hz:y.bX->z.bX):dn d i c z g k:=by
 cases h with
 |row h hi hc hs=>exact .row h hi hc (hz hs)
 |ptr h hi hc=>exact .ptr h hi hc
def dn.fp{d y:C}{i c g k:Nat}(h:dn d i c y g k):d.fp g k:=by
 cases h with
 |row hd hi hc hs=>subst hd;exact⟨rfl,.inl ⟨_,rfl⟩⟩
 |ptr hd hi hc=>subst hd;exact⟨rfl,.inl ⟨rfl,by omega,by omega⟩⟩
structure DV (w:World) (zl zb:Nat->Nat->Prop) (G:Nat->C) (l:List C):Prop where
 all:∀x∈l,x.cell/\x.ok w (Zf zl zb)/\x.rf G/\(∀t b k,x.fp b k->¬(G t).fp b k)/\∀b k,x.fp b k->¬zl b k/\¬zb b k
 apart:l.Pairwise λa b=>∀x k,a.fp x k->¬b.fp x k
def O2(r:Nat)(p:Path)(l:List C):X.ek r p (l.map C.er)=(l.map λx=>x.ak (C.aV r p)).map C.er:=by rw[X.qR,bT];exact bn λx _=>(C.kB r p x).symm
def HZ(r:Nat)(p:Path)(i:Nat){zl zb:Nat->Nat->Prop}{g k0:Nat}:∀(n:Nat) (l:List C),l.length=n->∀(c m:Nat) {w:World} {G:Nat->C} {s:af} {d:C},Inv w zl zb G s->(G r).sub p=some d->
  (∀q x,l[q]?=some x->dn d i (c+q) x g (k0+m+q))->DV w zl zb G l->
  ∃w' G',(storeCells ⟨g,k0,none⟩ (l.map C.val) m).run P w=.ok () w'/\Inv w' zl zb G' (setCells r p i c (l.map C.er) s)/\(∀t,(G' t).val=(G t).val)/\(∀t b k,(G' t).fp b k->(∃x∈l,x.fp b k)\/(G t).fp b k)/\Ext (λb k=>b=g/\k0+m<=k/\k<k0+m+n) w w'
 |0,l,hn,c,m,w,G,s,d,h,hsub,hsp,hh=>by have:l=[]:=zL hn;subst this;exact⟨w,G,rfl,by simpa [setCells] using h,λ_=>rfl,λt b k hf=>.inr hf,Ext.refl _ _⟩
 |n+1,[],hn,c,m,w,G,s,d,h,hsub,hsp,hh=>by simp at hn
 |n+1,y::l,hn,c,m,w,G,s,d,h,hsub,hsp,hh=>by
  have Gq:=hsp 0 y rfl;simp only[lZ] at Gq;obtain⟨y1,y2,y3,y4,y5⟩:=hh.all y (bE ..);obtain⟨G1,i1,i2,i3,i4,i5,i6,i7,d',i8,i9⟩:=h.store r p i c d y g (k0+m) hsub Gq y2 y1 y3 y4 y5;obtain⟨u,hu⟩:=i5;have hE:=Ext.setCell w g (k0+m) y.val;have fJ:=ey.1 hh.apart;have dc:∀{b k},d.fp b k->(G r).fp b k:=λhf=>C.eu p hsub (h.ok r) hf
  have NV:∀(f:C->C),(∀x,f x=if kH r p i c s then x.ak (C.aV r (p++[(i,c)])) else x)->DV (w.setCell ⟨g,k0+m,none⟩ y.val) zl zb G1 (l.map f):=by
   intro f lD
   have bu:∀x b k,(f x).fp b k↔x.fp b k:=λx b k=>by
    rw[lD];split;·exact C.bK _ x b k
    ·exact gM
   refine⟨λx hx=>?_,?_⟩
   ·obtain⟨x,hx0,rfl⟩:=aL.1 hx;clear hx;have hx:x∈l:=hx0;obtain⟨x1,x2,x3,x4,x5⟩:=hh.all x (bU _ hx)
    have hok:x.ok (w.setCell ⟨g,k0+m,none⟩ y.val) (Zf zl zb):=C.dF hE (λmm b k hz hs=>by
     obtain⟨rfl,rfl⟩:=hs;exact h.sB r mm _ _ hz (dc i4)) _ (λb k hf hs=>by
     obtain⟨rfl,rfl⟩:=hs;exact x4 r _ _ hf (dc i4)) x2
    refine⟨?_,?_,?_,λt b k hf hf'=>?_,λb k hf=>x5 b k ((bu x b k).1 hf)⟩
    ·rw[lD];split;·exact C.yb _ _ x1
     ·exact x1
    ·rw[lD];split;·exact C.jo _ _ hok
     ·exact hok
    ·have:=i7 x x3;rw[lD];cases hb:kH r p i c s<;>rw[hb] at this<;>exact this
    ·rcases i3 t b k hf' with hy|hg;·exact fJ.1 x hx b k hy ((bu x b k).1 hf)
     ·exact x4 t b k ((bu x b k).1 hf) hg
   ·refine vI.2 (fJ.2.imp ?_);intro a b hab x k hf hf';exact hab x k ((bu a x k).1 hf) ((bu b x k).1 hf')
  have fin:∀(f:C->C),(∀x,f x=if kH r p i c s then x.ak (C.aV r (p++[(i,c)])) else x)->setCells r p i c ((y::l).map C.er) s=setCells r p i (c+1) ((l.map f).map C.er) (setCell r p i c y.er s)->
    ∃w' G',(storeCells ⟨g,k0,none⟩ ((y::l).map C.val) m).run P w=.ok () w'/\Inv w' zl zb G' (setCells r p i c ((y::l).map C.er) s)/\(∀t,(G' t).val=(G t).val)/\(∀t b k,(G' t).fp b k->(∃x∈y::l,x.fp b k)\/(G t).fp b k)/\Ext (λb k=>b=g/\k0+m<=k/\k<k0+m+(n+1)) w w':=by
   intro f lD tG
   have bu:∀x b k,(f x).fp b k↔x.fp b k:=λx b k=>by
    rw[lD];split;·exact C.bK _ x b k
    ·exact gM
   have hval:(l.map f).map C.val=l.map C.val:=by
    rw[bT];refine bn λx _=>?_;show (f x).val=x.val;rw[lD];split;·exact C.fL _ x
    ·rfl
   obtain⟨w',G',j1,j2,j3,j4,j5⟩:=HZ r p i n (l.map f) (by simpa using hn) (c+1) (m+1) i1 i8 (λq x hq=>by
    rw[cg] at hq;cases oB:l[q]? with
    |none=>rw[oB] at hq;cases hq
    |some x0=>
     rw[oB] at hq;simp only[bM,cE] at hq;subst hq;have h1:=i9 _ _ _ _ _ (hsp (q+1) x0 (by simpa using oB));rw[show c+1+q=c+(q+1) by omega,show k0+(m+1)+q=k0+m+(q+1) by omega];rw[lD];split;·exact h1.hand λhs=>by rw[C.q5 _ _ hs];exact hs
     ·exact h1) (NV f lD)
   refine⟨w',G',?_,by rw[tG];exact j2,λt=>(j3 t).trans (i2 t),λt b k hf=>?_,?_⟩;·rw[aS,storeCells,Sem.run_bind,mz,Rm (Inv.mI y1) hu i6];simp only[Result.andThen_ok];rw[<-hval];exact j1
   ·rcases j4 t b k hf with ⟨x,hx,hf'⟩|hf';·obtain⟨x0,hx0,rfl⟩:=aL.1 hx;exact .inl ⟨x0,bU _ hx0,(bu x0 b k).1 hf'⟩
    ·exact(i3 t b k hf').imp (λhy=>⟨y,bE ..,hy⟩) id
   ·refine(hE.mono (S':=λb k=>b=g/\k0+m<=k/\k<k0+m+(n+1)) (λb k hs _=>⟨hs.1,by omega,by omega⟩)).trans j5 λb k hs hb=>⟨hs.1,by omega,by omega⟩
  cases qB:kH r p i c s with
  |true=>refine fin (λx=>x.ak (C.aV r (p++[(i,c)]))) (λx=>by rw[aA qB]) ?_;simp only[aS];rw[setCells,qB,iY,O2]
  |false=>refine fin id (λx=>by rw[qB];rfl) ?_;simp only[aS];rw[setCells,qB,mb];simp
end
end M
