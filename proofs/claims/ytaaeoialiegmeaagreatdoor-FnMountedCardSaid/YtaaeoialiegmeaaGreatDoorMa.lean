/- A machine of values for loaded Go functions, sound for the calculus of calls; part 1; no conditions. -/
import Derived.Calls
import Derived.Orders
import Derived.Laws.Sem
import Derived.Below
import Derived.Laws.Cells
import Derived.Laws.Strings
import Derived.Laws.StructEq
import Derived.Laws.IdiomStrings
import Derived.Laws.Entries
import Derived.Laws.OwnMore
import Derived.Great.BuildSlice
set_option linter.defProp false
set_option linter.unusedSectionVars false
set_option linter.unusedVariables false
set_option linter.unusedSimpArgs false
def oK:=@Array.ext'
def Il:=@Array.ext_getElem?
def vJ:=@Array.getD_eq_getD_getElem?
def NO:=@Array.getElem?_append_left
def Ir:=@Array.getElem?_eq_getElem
def kP:=@Array.getElem?_eq_none
def j9:=@Array.getElem?_eq_some_iff
def Vi:=@Array.getElem?_modify
def Vj:=@Array.getElem?_replicate
def N0:=@Array.getElem?_setIfInBounds_ne
def UY:=@Array.getElem?_setIfInBounds_self_of_lt
def C0:=@Array.length_toList
def U2:=@Array.setIfInBounds_comm
def Ny:=@Array.size_append
def Nz:=@Array.toList_map
def NB:=@Bool.and_assoc
def az:=@Bool.and_eq_true
def NF:=@Bool.and_true
def NH:=@Bool.eq_iff_iff
def fA:=@Bool.false_eq_true
def tf:=@Bool.not_eq_true'
def NK:=@Bool.not_false
def tg:=@Bool.or_eq_true
def NL:=@Bool.true_and
def NM:=@Bool.true_eq_false
def Da:=@Classical.choose_spec
def yZ:=@Eq.trans
def Im:=@Function.comp_def
def j8:=@Iff.rfl
def Db:=@Int.ofNat_lt
def Vb:=@Int.tdiv_eq_ediv_of_nonneg
def Dc:=@Int.tmod_eq_emod_of_nonneg
def Io:=@List.Pairwise.imp_of_mem
def Vc:=@List.all_eq_not_any_not
def oR:=@List.all_eq_true
def NN:=@List.any_eq_false
def lH:=@List.append_assoc
def Vd:=@List.append_eq_nil_iff
def mD:=@List.append_nil
def Ip:=@List.cons.inj
def vK:=@List.cons.injEq
def fR:=@List.cons_append
def y6:=@List.dropWhile_cons
def Ve:=@List.dropWhile_sublist
def Dd:=@List.drop_drop
def qK:=@List.drop_eq_getElem_cons
def NP:=@List.drop_eq_nil_of_le
def vL:=@List.drop_left
def y7:=@List.drop_take
def Iq:=@List.drop_zero
def NQ:=@List.eq_nil_of_length_eq_zero
def Vf:=@List.exists_cons_of_ne_nil
def hO:=@List.ext_getElem?
def Vg:=@List.filter_sublist
def NR:=@List.flatMap_append
def jF:=@List.flatMap_cons
def NS:=@List.flatMap_nil
def y8:=@List.flatten_append
def Is:=@List.flatten_cons
def nE:=@List.foldl_cons
def iT:=@List.getD_eq_getElem?_getD
def nF:=@List.getElem?_append_left
def iB:=@List.getElem?_append_right
def Iu:=@List.getElem?_cons_succ
def y9:=@List.getElem?_cons_zero
def oS:=@List.getElem?_drop
def cm:=@List.getElem?_eq_getElem
def kQ:=@List.getElem?_eq_none
def aL:=@List.getElem?_eq_some_iff
def cR:=@List.getElem?_map
def Df:=@List.getElem?_mapIdx
def vM:=@List.getElem?_modify
def tj:=@List.getElem?_range
def NT:=@List.getElem?_replicate
def Vh:=@List.getElem?_replicate_of_lt
def vN:=@List.getElem?_set
def NU:=@List.getElem?_set_ne
def NV:=@List.getElem?_take_of_lt
def za:=@List.getElem?_toArray
def NW:=@List.getElem?_zip_eq_some
def NX:=@List.getElem_cons_succ
def Iv:=@List.getElem_cons_zero
def NY:=@List.getElem_map
def cy:=@List.getElem_mem
def vO:=@List.getElem_of_mem
def NZ:=@List.getElem_range
def e9:=@List.length_append
def cu:=@List.length_cons
def vP:=@List.length_drop
def Iw:=@List.length_eq_zero_iff
def Vk:=@List.length_filter_le
def cZ:=@List.length_map
def iC:=@List.length_nil
def Dg:=@List.length_pos_iff
def vQ:=@List.length_range
def Iy:=@List.length_reverse
def Iz:=@List.length_set
def Vl:=@List.length_singleton
def IA:=@List.length_take
def IB:=@List.length_zipIdx
def iS:=@List.map_append
def b7:=@List.map_congr_left
def bn:=@List.map_cons
def lE:=@List.map_drop
def cH:=@List.map_map
def lF:=@List.map_nil
def akc:=@List.map_set
def oL:=@List.map_take
def dO:=@List.mem_append
def Nq:=@List.mem_append_left
def Nr:=@List.mem_append_right
def b9:=@List.mem_cons
def bO:=@List.mem_cons_of_mem
def bq:=@List.mem_cons_self
def Ib:=@List.mem_flatMap
def Ic:=@List.mem_flatten
def bg:=@List.mem_map
def j6:=@List.mem_map_of_mem
def mB:=@List.mem_of_getElem?
def UZ:=@List.mem_of_mem_drop
def U0:=@List.mem_of_mem_tail
def Ns:=@List.mem_of_mem_take
def Nt:=@List.mem_or_eq_of_mem_set
def s6:=@List.mem_range
def Nu:=@List.mem_replicate
def fy:=@List.mem_singleton
def U1:=@List.mem_take_iff_getElem
def j7:=@List.nil_append
def Nv:=@List.not_mem_nil
def s7:=@List.pairwise_append
def eZ:=@List.pairwise_cons
def qG:=@List.pairwise_iff_getElem
def Nw:=@List.pairwise_lt_range
def C3:=@List.pairwise_map
def U3:=@List.pairwise_singleton
def C4:=@List.range_succ_eq_map
def Nx:=@List.reverse_append
def U4:=@List.reverse_reverse
def C5:=@List.set_append_right
def C6:=@List.set_cons_zero
def U5:=@List.singleton_append
def oM:=@List.size_toArray
def yU:=@List.sum_append
def oN:=@List.sum_cons
def Ie:=@List.sum_nil
def U6:=@List.takeWhile_cons
def U7:=@List.take_append_drop
def C7:=@List.take_left
def vF:=@List.take_length
def s8:=@List.take_of_length_le
def vG:=@List.take_range
def U8:=@List.take_succ_cons
def oO:=@List.take_succ_eq_append_getElem
def s9:=@Nat.add_assoc
def oP:=@Nat.add_comm
def e8:=@Nat.add_mul
def nB:=@Nat.add_zero
def C8:=@Nat.div_add_mod
def U9:=@Nat.div_lt_of_lt_mul
def NA:=@Nat.eq_zero_or_pos
def eC:=@Nat.le_refl
def jo:=@Nat.le_trans
def kL:=@Nat.lt_of_lt_of_le
def gI:=@Nat.lt_or_ge
def NC:=@Nat.lt_trans
def nC:=@Nat.min_eq_left
def tc:=@Nat.mod_lt
def qH:=@Nat.mul_comm
def ND:=@Nat.mul_le_mul
def nD:=@Nat.mul_le_mul_right
def Ig:=@Nat.one_mul
def Va:=@Nat.pow_le_pow_right
def Ih:=@Nat.pow_succ
def yV:=@Nat.sub_self
def mC:=@Nat.zero_add
def oQ:=@Nat.zero_le
def vH:=@Ne.symm
def kM:=@Option.bind_eq_some_iff
def gj:=@Option.bind_some
def vI:=@Option.getD_some
def yW:=@Option.isSome_iff_exists
def kN:=@Option.map_eq_some_iff
def NG:=@Option.map_none
def cg:=@Option.map_some
def iA:=@Option.some.inj
def dP:=@Option.some.injEq
def C9:=@Prod.mk.inj
def jE:=@Prod.mk.injEq
def td:=@UInt8.toNat_inj
def Ii:=@UInt8.toNat_ofNat'
def Ij:=@and_congr_right
def yX:=@and_self
def eu:=@beq_iff_eq
def qI:=@cond_false
def lG:=@cond_true
def dr:=@congrArg
def Ik:=@decide_eq_false_iff_not
def aY:=@decide_eq_true_eq
def NI:=@decide_false
def qJ:=@dif_neg
def kO:=@dif_pos
def NJ:=@exists_congr
def dQ:=@if_false
def aC:=@if_neg
def au:=@if_pos
def cY:=@if_true
def yY:=@of_decide_eq_true
namespace M
open Go
inductive Md where|own|sl|af
 deriving DecidableEq,Repr
abbrev Path:=List (Nat×Nat)
inductive X where
 |dead
 |int (k:IntKind) (n:Int)
 |bool (b:Bool)
 |str (s:ByteArray)
 |row (m:Md) (sz:Nat) (xs:List (List X))
 |ptr (m:Md) (cs:List X)
 |agg (cs:List X)
 |ak (cs:List X)
 |fn (f:FuncId) (caps:List X)
 |ref (s:Nat) (p:Path)
 |ax (s:Nat) (p:Path) (i c:Nat)
 |cut (s:Nat) (p:Path) (lo hi:Nat)
namespace X
def step:X->Nat×Nat->Option X
 |.row _ _ xs,q=>(xs[q.1]?).bind (·[q.2]?)
 |.ptr _ cs,q=>bif q.1==0 then cs[q.2]? else none
 |.agg cs,q=>bif q.1==0 then cs[q.2]? else none
 |.ak cs,q=>bif q.1==0 then cs[q.2]? else none
 |_,_=>none
def sub(x:X):Path->Option X
 |[]=>some x
 |q::p=>(x.step q).bind (·.sub p)
def aW:X->Nat×Nat->X->X
 |.row m sz xs,q,y=>.row m sz (xs.modify q.1 (·.set q.2 y))
 |.ptr m cs,q,y=>.ptr m (cs.set q.2 y)
 |.agg cs,q,y=>.agg (cs.set q.2 y)
 |.ak cs,q,y=>.ak (cs.set q.2 y)
 |x,_,_=>x
def putAt:Path->X->X->X
 |[],_,y=>y
 |q::p,x,y=>match x.step q with
  |some z=>x.aW q (putAt p z y)
  |none=>x
mutual
def md(m:Md):X->X
 |.row _ sz xs=>.row m sz (bV m xs)
 |.ptr _ cs=>.ptr m (dS m cs)
 |.agg cs=>.agg (dS m cs)
 |.ak cs=>.ak (dS m cs)
 |.fn f cs=>.fn f (dS m cs)
 |.ref _ _=>.dead
 |.ax _ _ _ _=>.dead
 |.cut _ _ _ _=>.dead
 |.dead=>.dead
 |.int k n=>.int k n
 |.bool b=>.bool b
 |.str s=>.str s
def dS(m:Md):List X->List X
 |[]=>[]
 |x::l=>x.md m::dS m l
def bV(m:Md):List (List X)->List (List X)
 |[]=>[]
 |x::l=>dS m x::bV m l
end
def iL:X->Bool
 |.row _ _ _=>true
 |.ptr _ _=>true
 |.agg _=>true
 |.ak _=>true
 |_=>false
def pfx:Path->Path->Bool
 |[],_=>true
 |_::_,[]=>false
 |q::p,r::t=>q.1==r.1 && q.2==r.2 && pfx p t
mutual
def kill(r:Nat)(p:Path):X->X
 |.ref s q=>bif s==r && pfx p q then .dead else .ref s q
 |.ax s q i c=>bif s==r && pfx p q then .dead else .ax s q i c
 |.cut s q i c=>bif s==r && pfx p q then .dead else .cut s q i c
 |.ptr m cs=>.ptr m (gA r p cs)
 |.agg cs=>.agg (gA r p cs)
 |.ak cs=>.ak (gA r p cs)
 |.fn f cs=>.fn f (gA r p cs)
 |.dead=>.dead
 |.int k n=>.int k n
 |.bool b=>.bool b
 |.str s=>.str s
 |.row m sz xs=>.row m sz xs
def gA(r:Nat)(p:Path):List X->List X
 |[]=>[]
 |x::l=>x.kill r p::gA r p l
end
def KZ(r:Nat)(p:Path):∀l:List X,(gA r p l).length=l.length
 |[]=>rfl
 |x::l=>by simp only[gA,cu,KZ r p l]
mutual
def only(ks:List Nat):X->X
 |.ref s q=>bif ks.contains s then .ref s q else .dead
 |.ax s q i c=>bif ks.contains s then .ax s q i c else .dead
 |.cut s q i c=>bif ks.contains s then .cut s q i c else .dead
 |.ptr m cs=>.ptr m (nj ks cs)
 |.agg cs=>.agg (nj ks cs)
 |.ak cs=>.ak (nj ks cs)
 |.fn f cs=>.fn f (nj ks cs)
 |.dead=>.dead
 |.int k n=>.int k n
 |.bool b=>.bool b
 |.str s=>.str s
 |.row m sz xs=>.row m sz xs
def nj(ks:List Nat):List X->List X
 |[]=>[]
 |x::l=>x.only ks::nj ks l
end
end X
abbrev ah:=List (Nat×X)
def get:ah->Nat->X
 |[],_=>.dead
 |(k',v)::s,k=>bif k'==k then v else get s k
def rV(r:Nat)(p:Path):ah->ah
 |[]=>[]
 |(k,v)::s=>(k,v.kill r p)::rV r p s
def put(d:Nat)(v:X)(s:ah):ah:=bif (get s d).iL then (d,v.kill d [])::rV d [] s else (d,v)::s
def fM:Option Nat->X->ah->ah
 |some d,v,s=>put d v s
 |none,_,s=>s
inductive AV where
 |t (n:Nat)
 |k (x:X)
def X.clean:X->Bool
 |.ref _ _=>false
 |.ax _ _ _ _=>false
 |.cut _ _ _ _=>false
 |.row m _ xs=>(match m with|.af=>false|_=>true) && bz xs
 |.ptr m cs=>(match m with|.af=>false|_=>true) && cz cs
 |.agg cs=>cz cs
 |.ak cs=>cz cs
 |.fn _ cs=>cz cs
 |_=>true
where
 cz:List X->Bool
 |[]=>true
 |x::l=>X.clean x && cz l
 bz:List (List X)->Bool
 |[]=>true
 |x::l=>cz x && bz l
def iV(n:Nat)(p:Path):X->X
 |.row .own _ _=>.ref n p
 |.ptr .own _=>.ax n p 0 0
 |x=>x
def tD(n:Nat)(p:Path)(i:Nat):Nat->List X->List X
 |_,[]=>[]
 |c,x::l=>iV n (p++[(i,c)]) x::tD n p i (c+1) l
def gK(n:Nat)(p:Path):X->X
 |.agg cs=>.agg (tD n p 0 0 cs)
 |x=>iV n p x
def zq(n:Nat)(p:Path):Nat->List X->List X
 |_,[]=>[]
 |j,x::l=>gK n (p++[(0,j)]) x::zq n p (j+1) l
def alias(n:Nat)(p:Path):X->X
 |.ak cs=>.ak (zq n p 0 cs)
 |x=>gK n p x
def av(s:ah):AV->X
 |.t n=>alias n [] (get s n)
 |.k x=>x
def look(s:ah)(r:Nat)(p:Path):Option X:=(get s r).sub p
def iN(r:Nat)(p:Path)(y:X)(s:ah):ah:=(r,X.putAt p (get (rV r p s) r) (y.kill r p))::rV r p s
def Tx(r:Nat)(p:Path)(y:X)(s:ah):ah:=(r,X.putAt p (get s r) y)::s
inductive Tk where|mv|al|aK
def move(r:Nat)(p:Path)(s:ah):X×ah:=match look s r p with
 |some y=>(y.kill r p,iN r p .dead s)
 |none=>(.dead,s)
def xw(r:Nat)(p:Path)(lo hi:Nat)(s:ah):X×ah:=match look s r p with
 |some (.row .own z xs)=>(.row .own z ((xs.take hi).drop lo),iN r p .dead s)
 |_=>(.cut r p lo hi,s)
def Bv(r:Nat)(p:Path)(i c:Nat)(s:ah):X×ah:=match look s r p with
 |some (.ptr .own cs)=>bif i==0 && c==0 then (.ptr .own (X.gA r p cs),iN r p .dead s) else (.ax r p i c,s)
 |_=>(.ax r p i c,s)
def TX(h:Tk):X->ah->X×ah
 |.ref r p,s=>match h with
  |.al=>(.ref r p,s)
  |.aK=>match p with
   |[]=>move r [] s
   |q::t=>(.ref r (q::t),s)
  |.mv=>move r p s
 |.cut r p lo hi,s=>match h with
  |.al=>(.cut r p lo hi,s)
  |.aK=>match p with
   |[]=>xw r [] lo hi s
   |q::t=>(.cut r (q::t) lo hi,s)
  |.mv=>xw r p lo hi s
 |.ax r p i c,s=>match h with
  |.al=>(.ax r p i c,s)
  |.aK=>(.ax r p i c,s)
  |.mv=>Bv r p i c s
 |x,s=>(x,s)
def bT:List X->ah->List X×ah
 |[],s=>([],s)
 |x::l,s=>match x with
  |.ref r p=>((move r p s).1::(bT l (move r p s).2).1,(bT l (move r p s).2).2)
  |.ax _ _ _ _=>(.dead::(bT l s).1,(bT l s).2)
  |.cut _ _ _ _=>(.dead::(bT l s).1,(bT l s).2)
  |.fn _ _=>(.dead::(bT l s).1,(bT l s).2)
  |.ptr _ _=>(.dead::(bT l s).1,(bT l s).2)
  |.agg _=>(.dead::(bT l s).1,(bT l s).2)
  |.ak _=>(.dead::(bT l s).1,(bT l s).2)
  |y=>(y::(bT l s).1,(bT l s).2)
def take(h:Tk):X->ah->X×ah
 |.agg cs,s=>match h with
  |.mv=>(.agg (bT cs s).1,(bT cs s).2)
  |_=>(.agg cs,s)
 |x,s=>TX h x s
def Eo(s:ah)(r:Nat)(p:Path):Bool:=match look s r p with
 |some .dead=>(match p.getLast? with
  |some _=>(match look s r p.dropLast with
   |some (.row .own _ _)=>true
   |some (.ptr .own _)=>true
   |some (.agg _)=>true
   |some (.ak _)=>true
   |_=>false)
  |none=>false)
 |_=>false
def uJ(r:Nat)(p:Path):List X->Bool
 |[]=>true
 |.ref r' p'::l=> !(r'==r && X.pfx p p') && uJ r p l
 |_::l=>uJ r p l
def mF:List X->List X->ah->Option ah
 |[],_,s=>some s
 |x::l,ys,s=>match x,ys with
  |.ref r p,y::ys=>bif Eo s r p && uJ r p l then mF l ys ((r,X.putAt p (get s r) y)::s) else none
  |_,_::ys=>mF l ys s
  |_,[]=>none
def cellsOf:X->List X
 |.agg cs=>cs
 |.ak _=>[]
 |.dead=>[]
 |x=>[x]
inductive PM where|af|jr (n:Nat)|mv|mut (n:Nat)
def scalar:X->Bool
 |.int _ _=>true
 |.bool _=>true
 |.str _=>true
 |_=>false
def gw(s:ah):X->Option (List X)
 |.ptr _ cs=>some cs
 |.ax r p i c=>match look s r p with
  |some (.row _ _ xs)=>(xs[i]?).map λe=>tD r p i c (e.drop c)
  |some (.ptr _ cs)=>some (tD r p i c (cs.drop c))
  |_=>none
 |_=>none
def rowAt(s:ah):X->Option (Nat×List (List X))
 |.row _ z xs=>some (z,xs)
 |.ref r p=>match look s r p with
  |some (.row _ z xs)=>some (z,xs)
  |_=>none
 |.cut r p lo hi=>match look s r p with
  |some (.row _ z xs)=>some (z,(xs.take hi).drop lo)
  |_=>none
 |_=>none
def lq(s:ah):X->X
 |.ref r p=>match look s r p with
  |some y=>y.md .af
  |none=>.dead
 |.cut r p lo hi=>match look s r p with
  |some (.row _ sz xs)=>X.md .af (.row .af sz ((xs.take hi).drop lo))
  |_=>.dead
 |x=>x.md .af
def oh(s:ah):List X->List X
 |[]=>[]
 |x::l=>lq s x::oh s l
def xL(n:Nat)(s:ah)(x:X):X:=match gw s x with
 |some (c::cs)=>.ptr .af (oh s ((c::cs).take n))
 |_=>.dead
def gV(s:ah):X->X
 |.ax r p i c=>(match gw s (.ax r p i c) with|some (c::cs)=>X.ptr .af (oh s (c::cs))|_=>.dead)
 |x=>lq s x
def jZ(s:ah):List X->List X
 |[]=>[]
 |x::l=>gV s x::jZ s l
def fN(s:ah):List X->List X
 |[]=>[]
 |x::l=>(match x with
  |.ax r p i c=>(match gw s (.ax r p i c) with|some (c::cs)=>X.ptr .af (jZ s (c::cs))|_=>.dead)
  |x=>lq s x)::fN s l
def res(s:ah):X->X
 |.agg cs=>.agg (oh s cs)
 |.fn f cs=>.fn f (fN s cs)
 |x=>lq s x
def oa(r:Nat)(p:Path)(i c:Nat)(s:ah):Bool:=match look s r (p++[(i,c)]) with
 |some z=>z.iL
 |none=>true
def setCell(r:Nat)(p:Path)(i c:Nat)(y:X)(s:ah):ah:=
 bif oa r p i c s then iN r (p++[(i,c)]) y s else Tx r (p++[(i,c)]) y s
def setCells(r:Nat)(p:Path)(i:Nat):Nat->List X->ah->ah
 |_,[],s=>s
 |c,y::l,s=>bif oa r p i c s then setCells r p i (c+1) (X.gA r (p++[(i,c)]) l) (setCell r p i c y s) else setCells r p i (c+1) l (setCell r p i c y s)
termination_by _ l=>l.length
decreasing_by all_goals simp[X.KZ]
def z6(d:Nat)(cs:List X)(k:List X->X)(s:ah):Option ah:=
 bif X.clean.cz (bT cs s).1 then (mF cs (X.dS .sl (bT cs s).1) (bT cs s).2).map (put d (k (X.dS .sl (bT cs s).1))) else none
def ghost(fz:Bool)(d:Nat)(s:ah):Option ah:=
 bif fz then (match av s (.t d) with
  |.agg cs=>z6 d cs .agg s
  |.ref r p=>z6 d [.ref r p] (·.headD .dead) s
  |_=>some s)
 else some (put d (take .mv (av s (.t d)) s).1 (take .mv (av s (.t d)) s).2)
inductive Ex where|normal|exit (id:Nat)|ret
inductive cq where
 |mv (d:Nat) (x:AV)
 |aN (d:Nat) (h:Tk) (x:AV)
 |pick (d:Nat) (c a b:AV)
 |un (d:Nat) (op:UnOp) (x:AV)
 |bin (d:Nat) (op:BinOp) (x y:AV)
 |beq (d:Nat) (neg:Bool) (x y:AV)
 |tC (d:Nat) (neg:Bool) (ks:List Nat) (x y:AV)
 |r6 (d:Nat) (neg:Bool) (x:AV)
 |conv (d:Nat) (k:IntKind) (x:AV)
 |bytes (d:Nat) (x:AV)
 |text (d:Nat) (x:AV)
 |box (d:Nat) (h:Tk) (x:AV)
 |new (d:Nat) (zero:List X)
 |build (d:Nat) (h:Tk) (zero:List X) (parts:List ((Nat×Nat)×AV))
 |lit (d:Nat) (h:Tk) (sz:Nat) (parts:List AV)
 |make (d:Nat) (sz bytes:Nat) (zero:List X) (n:AV)
 |load (d:Nat) (sz:Nat) (agg:Bool) (a:AV)
 |store (sz:Nat) (h:Tk) (a x:AV)
 |dG (d:Nat) (x:AV)
 |pn (d:Nat) (x:AV) (off:Nat)
 |rA (d:Nat) (x:AV) (off sz:Nat) (agg:Bool)
 |eX (d:Nat) (sz:Nat) (x i:AV)
 |dm (d:Nat) (x i:AV)
 |qR (d:Nat) (n sz:Nat) (agg:Bool) (x i:AV)
 |ext (d:Nat) (x:AV) (i:Nat)
 |gd (d:Nat) (x:AV) (lo hi:Option AV)
 |mg (d:Nat) (sz:Nat) (x:AV) (lo hi:Option AV)
 |nY (d:Nat) (f:FuncId) (caps:List AV)
 |len (d:Nat) (x:AV)
 |sY (d:Nat) (x:AV)
 |app (d:Nat) (h:Tk) (sz bytes:Nat) (x y:AV)
 |mn (d:Nat) (xs:List AV)
 |mx (d:Nat) (xs:List AV)
 |qW (d:Option Nat) (f:FuncId) (x:AV) (as:List (AV×PM))
 |wq (sz:Nat) (z:List X) (x:AV)
 |mW (d:Nat) (fz:Bool) (sz:Nat) (agg:Bool) (a:AV)
 |call (d:Option Nat) (f:FuncId) (as:List (AV×PM))
 |kg (d:Option Nat) (f:AV) (as:List (AV×PM))
structure G where
 g:Option (Nat×Bool):=none
 o:cq
inductive DT where
 |nil (ks:List Nat)
 |step (i:Nat) (g:G) (t:DT)
 |alt (a b:DT)
 |kp (ks:List Nat) (t:DT)
inductive A where
 |skip|ret
 |ops (l:List G)
 |draw (t:DT)
 |seq (a b:A)
 |cond (c:AV) (a b:A)
 |block (id:Nat) (b:A)
 |loop (b:A)
 |exit (id:Nat)
 |pk (ks:List Nat) (b:A)
end M
namespace M
open Go Go.RowKit
abbrev Ad:=Nat×Nat×Option Nat
def jq(n:Nat)(q:Ad):Ad:=if n=0 then q else (q.1,q.2.1+n,none)
def oW(n g o:Nat):jq n (g,o,none)=(g,o+n,none):=by
 unfold jq;split;·rename_i h;subst h;rfl
 ·rfl
def WO(n:Nat)(q:Ad):(⟨(jq n q).1,(jq n q).2.1,(jq n q).2.2⟩:Addr)=(⟨q.1,q.2.1,q.2.2⟩:Addr).add n:=by unfold jq Addr.add;split<;>rfl
inductive C where
 |dead (v:Value)
 |int (k:IntKind) (n:Int)
 |bool (b:Bool)
 |str (s:ByteArray)
 |row (m:Md) (sz:Nat) (A:Option Ad) (len cap:Nat) (e:Nat->Nat->C)
 |ptr (m:Md) (g o n:Nat) (c:Nat->C)
 |agg (n:Nat) (c:Nat->C)
 |ak (n:Nat) (c:Nat->C)
 |fn (f:FuncId) (n:Nat) (c:Nat->C)
 |ref (v:Value) (s:Nat) (p:Path)
 |ax (v:Value) (s:Nat) (p:Path) (i c:Nat)
 |cut (v:Value) (s:Nat) (p:Path) (lo hi:Nat)
namespace C
def val:C->Value
 |.dead v=>v
 |.int k n=>.int k n
 |.bool b=>.bool b
 |.str s=>.string s
 |.row _ _ A len cap _=>.slice (A.map λq=>⟨q.1,q.2.1,q.2.2⟩) len cap
 |.ptr _ g o _ _=>.pointer (some ⟨g,o,none⟩)
 |.agg n c=>.agg ((List.range n).map λj=>(c j).val).toArray
 |.ak n c=>.tuple ((List.range n).map λj=>(c j).val).toArray
 |.fn f n c=>.func (.func f) #[] ((List.range n).map λj=>(c j).val).toArray
 |.ref v _ _=>v
 |.ax v _ _ _ _=>v
 |.cut v _ _ _ _=>v
def er:C->X
 |.dead _=>.dead
 |.int k n=>.int k n
 |.bool b=>.bool b
 |.str s=>.str s
 |.row m sz _ len _ e=>.row m sz ((List.range len).map λi=>(List.range sz).map λj=>(e i j).er)
 |.ptr m _ _ n c=>.ptr m ((List.range n).map λj=>(c j).er)
 |.agg n c=>.agg ((List.range n).map λj=>(c j).er)
 |.ak n c=>.ak ((List.range n).map λj=>(c j).er)
 |.fn f n c=>.fn f ((List.range n).map λj=>(c j).er)
 |.ref _ s p=>.ref s p
 |.ax _ s p i c=>.ax s p i c
 |.cut _ s p lo hi=>.cut s p lo hi
def fp:C->Nat->Nat->Prop
 |.row m sz A len _ e=>λb k=>m=.own/\((∃o,A=some (b,o,none))\/∃i j,i<len/\j<sz/\(e i j).fp b k)
 |.ptr m g o n c=>λb k=>m=.own/\((b=g/\o<=k/\k<o+n)\/∃j,j<n/\(c j).fp b k)
 |.agg n c=>λb k=>∃j,j<n/\(c j).fp b k
 |.ak n c=>λb k=>∃j,j<n/\(c j).fp b k
 |_=>λ_ _=>False
def cell:C->Prop
 |.agg _ _=>False
 |.ak _ _=>False
 |.dead v=>v.oneCell'=true
 |.ref v _ _=>v.oneCell'=true
 |.ax v _ _ _ _=>v.oneCell'=true
 |.cut v _ _ _ _=>v.oneCell'=true
 |_=>True
def fY:C->Prop
 |.ak _ _=>False
 |_=>True
def cO:C->Prop
 |.agg _ _=>False
 |.ak _ _=>False
 |.ref _ _ _=>False
 |.ax _ _ _ _ _=>False
 |.cut _ _ _ _ _=>False
 |.fn _ _ _=>False
 |.ptr _ _ _ _ _=>False
 |_=>True
def fits(m:Md):C->Prop
 |.row m' _ _ _ _ _=>m=.own\/m'=m\/(m=.af/\m'=.sl)
 |.ptr m' _ _ _ _=>m=.own\/m'=m\/(m=.af/\m'=.sl)
 |_=>True
end C
def Zf(zl zb:Nat->Nat->Prop):Md->Nat->Nat->Prop
 |.own=>λ_ _=>False
 |.sl=>zl
 |.af=>λb k=>zl b k\/zb b k
namespace C
def ok(w:World)(Z:Md->Nat->Nat->Prop):C->Prop
 |.row m sz A len cap e=>
  len<=cap/\
  (∀i j,i<len->j<sz->∃g o,A=some (g,o,none)/\w.cell? ⟨g,o+i*sz+j,none⟩=some (e i j).val/\(m≠.own->Z m g (o+i*sz+j)))/\
  (∀i j,i<len->j<sz->(e i j).cell/\(e i j).cO/\(e i j).fits m/\(e i j).ok w Z)/\
  (m=.own->(A=none/\cap=0)\/∃g o arr t fz,A=some (g,o,none)/\w.heap[g]?=some (.cells arr t fz)/\o+cap*sz<=arr.size/\∀k,o<=k->k<o+cap*sz->w.frozen? ⟨g,k,none⟩=false)/\
  (∀i j,i<len->j<sz->∀b k,(e i j).fp b k->(m=.own->∀o,A≠some (b,o,none))/\∀i' j',i'<len->j'<sz->(i,j)≠(i',j')->¬(e i' j').fp b k)
 |.ptr m g o n c=>
  (∀j,j<n->w.cell? ⟨g,o+j,none⟩=some (c j).val/\(m≠.own->Z m g (o+j))/\(m=.own->w.frozen? ⟨g,o+j,none⟩=false))/\
  g<w.heap.size/\
  (∀j,j<n->(c j).cell/\(c j).fits m/\(c j).ok w Z)/\
  (∀j,j<n->∀b k,(c j).fp b k->(m=.own->¬(b=g/\o<=k/\k<o+n))/\∀j',j'<n->j≠j'->¬(c j').fp b k)
 |.agg n c=>(∀j,j<n->(c j).cell/\(c j).ok w Z)/\(∀j,j<n->∀b k,(c j).fp b k->∀j',j'<n->j≠j'->¬(c j').fp b k)
 |.ak n c=>(∀j,j<n->(c j).fY/\(c j).ok w Z)/\(∀j,j<n->∀b k,(c j).fp b k->∀j',j'<n->j≠j'->¬(c j').fp b k)
 |.fn _ n c=>∀j,j<n->(c j).ok w Z/\∀b k,¬(c j).fp b k
 |.str s=>s.size<=9223372036854775807
 |_=>True
end C
class Bs where
 W0:World
def Dl[B:Bs](w:World)(zl zb:Nat->Nat->Prop):Prop:=∀b,b<B.W0.heap.size->w.heap[b]?=B.W0.heap[b]?/\∀k,zl b k\/zb b k
structure Ext (S:Nat->Nat->Prop) (w w':World):Prop where
 os:w'.os=w.os
 tape:w'.tape=w.tape
 output:w'.output=w.output
 size:w.heap.size<=w'.heap.size
 block:∀b,b<w.heap.size->w'.heap[b]?=w.heap[b]?\/∃arr fT t fz,w.heap[b]?=some (.cells arr t fz)/\w'.heap[b]?=some (.cells fT t fz)/\fT.size=arr.size/\∀k,¬S b k->fT[k]?=arr[k]?
namespace Ext
variable {S S':Nat->Nat->Prop}{w w1 w2:World}
def refl(S:Nat->Nat->Prop)(w:World):Ext S w w:=⟨rfl,rfl,rfl,eC _,λ_ _=>.inl rfl⟩
def trans(h:Ext S w w1)(h':Ext S' w1 w2)(hs:∀b k,S' b k->b<w.heap.size->S b k):Ext S w w2:=by
 refine⟨h'.os.trans h.os,h'.tape.trans h.tape,h'.output.trans h.output,jo h.size h'.size,λb hb=>?_⟩;rcases h.block b hb with e|⟨arr,fT,t,fz,e1,e2,e3,e4⟩
 ·rcases h'.block b (kL hb h.size) with e'|⟨a1,a2,t',lQ,f1,f2,f3,f4⟩;·exact .inl (e'.trans e)
  ·exact .inr ⟨a1,a2,t',lQ,e▸f1,f2,f3,λk hk=>f4 k λhS=>hk (hs b k hS hb)⟩
 ·rcases h'.block b (kL hb h.size) with e'|⟨a1,a2,t',lQ,f1,f2,f3,f4⟩;·exact .inr ⟨arr,fT,t,fz,e1,e'.trans e2,e3,e4⟩
  ·rw[e2] at f1;injection f1 with f1
   injection f1 with g1 g2 g3
   subst g1;subst g2;subst g3;exact .inr ⟨arr,a2,t,fz,e1,f2,f3.trans e3,λk hk=>(f4 k λhS=>hk (hs b k hS hb)).trans (e4 k hk)⟩
def mono(h:Ext S w w1)(hs:∀b k,S b k->b<w.heap.size->S' b k):Ext S' w w1:=by
 refine⟨h.os,h.tape,h.output,h.size,λb hb=>?_⟩;rcases h.block b hb with e|⟨arr,fT,t,fz,e1,e2,e3,e4⟩;·exact .inl e
 ·exact .inr ⟨arr,fT,t,fz,e1,e2,e3,λk hk=>e4 k λhS=>hk (hs b k hS hb)⟩
def cell(h:Ext S w w1){b k:Nat}(hS:¬S b k){v:Value}(hc:w.cell? ⟨b,k,none⟩=some v):w1.cell? ⟨b,k,none⟩=some v:=by
 have hb:b<w.heap.size:=by
  rcases gI b w.heap.size with h|h;·exact h
  ·simp[World.cell?,kP h] at hc
 rcases h.block b hb with e|⟨arr,fT,t,fz,e1,e2,e3,e4⟩;·simpa [World.cell?,e] using hc
 ·simp only[World.cell?,e1,e2] at hc⊢;simpa [e4 k hS] using hc
def frozen(h:Ext S w w1){b k:Nat}(hb:b<w.heap.size):w1.frozen? ⟨b,k,none⟩=w.frozen? ⟨b,k,none⟩:=by
 rcases h.block b hb with e|⟨arr,fT,t,fz,e1,e2,e3,e4⟩;·simp[World.frozen?,e]
 ·simp[World.frozen?,e1,e2]
def below(h:Ext (λ_ _=>False) w w1):Below w.heap.size w w1:=by
 refine⟨h.os,h.tape,h.output,h.size,λb hb=>?_⟩;rcases h.block b hb with e|⟨arr,fT,t,fz,e1,e2,e3,e4⟩;·exact e
 ·have:fT=arr:=by apply Il;intro i;exact e4 i (by simp)
  rw[e1,e2,this]
def drew(w:World)(S:Nat->Nat->Prop):Ext S w w.drew:=⟨rfl,rfl,rfl,eC _,λ_ _=>.inl rfl⟩
def alloc(w:World)(S:Nat->Nat->Prop)(o:Obj):Ext S w (w.alloc o):=by exact⟨rfl,rfl,rfl,by show w.heap.size<=(w.heap.push o).size;simp,λb hb=>.inl (Below.heap_alloc w o b hb)⟩
end Ext
end M
namespace M
open Go
namespace C
def bare:C->Prop
 |.ref _ _ _=>False
 |.ax _ _ _ _ _=>False
 |.cut _ _ _ _ _=>False
 |.ptr _ _ _ n c=>∀j,j<n->(c j).bare
 |.agg n c=>∀j,j<n->(c j).bare
 |.ak n c=>∀j,j<n->(c j).bare
 |.fn _ n c=>∀j,j<n->(c j).bare
 |_=>True
end C
structure qL (w:World) (zl zb:Nat->Nat->Prop) (cs:List C):Prop where
 ok:∀x∈cs,x.ok w (Zf zl zb)
 bare:∀x∈cs,x.bare
 fz:∀x∈cs,∀b k,x.fp b k->¬zl b k/\¬zb b k
 cB:∀b k,zl b k\/zb b k->b<w.heap.size
 apart:cs.Pairwise λa b=>∀x k,a.fp x k->¬b.fp x k
structure N6 (w:World) (zl:Nat->Nat->Prop) (cs:List C) (e:Ending) (w':World) (r:C) (ps:List C) (aF:Nat->Nat->Prop):Prop where
 ends:e=.returned r.val
 vals:ps.map C.val=cs.map C.val
 ext:Ext (λb k=>∃x∈cs,x.fp b k) w w'
 all:qL w' aF (λ_ _=>False) (r::ps)
 dom:∀x∈r::ps,∀b k,x.fp b k->(∃y∈cs,y.fp b k)\/w.heap.size<=b
 tn:∀b k,zl b k->aF b k
 tq:∀b k,aF b k->zl b k\/(∃y∈cs,y.fp b k)\/w.heap.size<=b
def AC[Bs](P:Program)(f:FuncId)(xs:List X)(Q:X->List X->Prop):Prop:=
 ∀w zl zb cs,cs.map C.er=xs->qL w zl zb cs->Dl w zl zb->Calls P f (cs.map C.val).toArray w λe w'=>∃r ps aF,N6 w zl cs e w' r ps aF/\Q r.er (ps.map C.er)
def jN:List Nat->List X->List X->Option Bool
 |[],[],[]=>some true
 |0::ks,.int k a::l,.int k' b::r=>if k=k' then (jN ks l r).map λt=>(a==b) && t else none
 |1::ks,.bool a::l,.bool b::r=>(jN ks l r).map λt=>(a==b) && t
 |2::ks,.str a::l,.str b::r=>(jN ks l r).map λt=>decide (a=b) && t
 |_,_,_=>none
def vY(op:BinOp):X->X->Prop
 |.int k a,.int k' b=>match op with
  |.shl=>0<=b
  |.shr=>0<=b
  |.quo=>k=k'/\b≠0
  |.rem=>k=k'/\b≠0
  |.andNot=>False
  |_=>k=k'
 |.str a,.str b=>match op with
  |.add=>a.size+b.size<=9223372036854775807
  |.eql=>True
  |.neq=>True
  |_=>False
 |_,_=>False
def IZ(op:BinOp):X->X->X
 |.int k a,.int _ b=>match op with
  |.add=>.int k (k.wrap (a+b))
  |.sub=>.int k (k.wrap (a - b))
  |.mul=>.int k (k.wrap (a*b))
  |.quo=>.int k (k.wrap (a.tdiv b))
  |.rem=>.int k (a.tmod b)
  |.shl=>.int k (k.wrap (a*2^(min b.toNat k.bits)))
  |.shr=>.int k (a.fdiv (2^(min b.toNat k.bits)))
  |.and=>.int k (k.wrap (BitVec.ofInt k.bits a &&& BitVec.ofInt k.bits b).toNat)
  |.or=>.int k (k.wrap (BitVec.ofInt k.bits a|||BitVec.ofInt k.bits b).toNat)
  |.xor=>.int k (k.wrap (BitVec.ofInt k.bits a^^^BitVec.ofInt k.bits b).toNat)
  |.eql=>.bool (decide (a=b))
  |.neq=>.bool (!decide (a=b))
  |.lss=>.bool (decide (a<b))
  |.leq=>.bool (decide (a<=b))
  |.gtr=>.bool (decide (b<a))
  |.geq=>.bool (decide (b<=a))
  |_=>.dead
 |.str a,.str b=>match op with
  |.add=>.str (a++b)
  |.eql=>.bool (decide (a=b))
  |.neq=>.bool (!decide (a=b))
  |_=>.dead
 |_,_=>.dead
def yN(op:UnOp):X->Prop
 |.int _ _=>match op with
  |.neg=>True
  |_=>False
 |.bool _=>match op with
  |.not=>True
  |_=>False
 |_=>False
def M3(op:UnOp):X->X
 |.int k n=>.int k (k.wrap (0 - n))
 |.bool b=>.bool (!b)
 |_=>.dead
def BD(t:Bool):X->X->X
 |.bool a,.bool b=>.bool (bif t then a else b)
 |x,y=>bif t then x else y
def cO:X->Bool
 |.dead=>true
 |.int _ _=>true
 |.bool _=>true
 |.str _=>true
 |.row _ _ _=>true
 |_=>false
def gX:List X->Bool
 |[]=>true
 |x::l=>cO x && gX l
def takes(h:Tk):List AV->ah->List X×ah
 |[],s=>([],s)
 |a::l,s=>((take h (av s a) s).1::(takes h l (take h (av s a) s).2).1,(takes h l (take h (av s a) s).2).2)
def ki{α:Type}:List α->Nat->List α->List α
 |cs,_,[]=>cs
 |cs,o,y::l=>ki (cs.set o y) (o+1) l
def wC:List X->List Nat->List X->List X
 |cs,o::os,y::ys=>wC (ki cs o (cellsOf y)) os ys
 |cs,_,_=>cs
def yG:List Nat->List X->Prop
 |[],[]=>True
 |n::ns,y::ys=>(cellsOf y).length=n/\yG ns ys
 |_,_=>False
def storable(s:ah)(r:Nat)(p:Path)(i c:Nat)(l:List X):Prop:=match look s r p with
 |some (.row .own _ xs)=>(match xs[i]? with
  |some e=>c+l.length<=e.length/\gX l=true
  |none=>False)
 |some (.ptr .own cs)=>c+l.length<=cs.length
 |_=>False
def Hw:Tk->List X->Prop
 |.al,_=>True
 |_,l=>∀x∈l,gX (cellsOf x)=true
def asNat(s:ah):Option AV->Nat->Int
 |none,n=>n
 |some a,_=>match av s a with
  |.int _ i=>i
  |_=>-1
def scalars:List (List X)->Prop:=λxs=>∀e∈xs,∀c∈e,scalar c=true
def bR:List (AV×PM)->ah->List X×ah
 |[],s=>([],s)
 |(x,.mv)::l,s=>((take .mv (av s x) s).1::(bR l (take .mv (av s x) s).2).1,(bR l (take .mv (av s x) s).2).2)
 |(_,.af)::l,s=>(.dead::(bR l s).1,(bR l s).2)
 |(_,.jr _)::l,s=>(.dead::(bR l s).1,(bR l s).2)
 |(_,.mut _)::l,s=>(.dead::(bR l s).1,(bR l s).2)
def gu(s1:ah)(y:X):List (AV×PM)->List X->List X
 |(x,.af)::l,_::ms=>res s1 (av s1 x)::gu s1 y l ms
 |(x,.jr n)::l,_::ms=>xL n s1 (av s1 x)::gu s1 y l ms
 |(_,.mv)::l,m::ms=>m::gu s1 y l ms
 |(_,.mut _)::l,_::ms=>y::gu s1 y l ms
 |_,_=>[]
def dU:List (AV×PM)->Option (AV×Nat)
 |[]=>none
 |(x,.mut n)::_=>some (x,n)
 |(_,.mv)::l=>dU l
 |(_,.af)::l=>dU l
 |(_,.jr _)::l=>dU l
def kF:List (AV×PM)->List X->X
 |(_,.mut _)::_,y::_=>y
 |(_,.mv)::l,_::r=>kF l r
 |(_,.af)::l,_::r=>kF l r
 |(_,.jr _)::l,_::r=>kF l r
 |_,_=>.dead
def oY(p q:Path):Bool:=X.pfx p q && decide (p.length<q.length)
mutual
def X.eY(r:Nat)(p:Path):X->X
 |.ref s q=>bif s==r && oY p q then .dead else .ref s q
 |.ax s q i c=>bif s==r && oY p q then .dead else .ax s q i c
 |.cut s q i c=>bif s==r && oY p q then .dead else .cut s q i c
 |.ptr m cs=>.ptr m (X.pT r p cs)
 |.agg cs=>.agg (X.pT r p cs)
 |.ak cs=>.ak (X.pT r p cs)
 |.fn f cs=>.fn f (X.pT r p cs)
 |.dead=>.dead
 |.int k n=>.int k n
 |.bool b=>.bool b
 |.str s=>.str s
 |.row m sz xs=>.row m sz xs
def X.pT(r:Nat)(p:Path):List X->List X
 |[]=>[]
 |x::l=>x.eY r p::X.pT r p l
end
def rU(r:Nat)(p:Path):ah->ah
 |[]=>[]
 |(k,v)::s=>(k,v.eY r p)::rU r p s
def iy(r:Nat)(p:Path)(y:X)(s:ah):ah:=(r,X.putAt p (get (rU r p s) r) (y.eY r p))::rU r p s
def xx(r:Nat)(p:Path)(s:ah)(n:Nat)(x:X)(go:X->(X->(ah->Prop)->Prop)->Prop):Prop:=
 match x with
 |.ref _ _=>(match look s r p with
  |some (.row .own z xs)=>go (.row .own z xs) λy K=>match y with
   |.row .own z' ys=>z'=z/\K (iy r p (.row .own z ys) s)
   |_=>False
  |_=>False)
 |.ax _ _ i c=>(match look s r p with
  |some (.ptr .own cs)=>c+n<=cs.length/\go (.ptr .own ((cs.drop c).take n)) λy K=>match y with
   |.ptr .own ys=>ys.length=n/\K (iy r p (.ptr .own (cs.take c++ys++cs.drop (c+n))) s)
   |_=>False
  |some (.row .own z xs)=>(match xs[i]? with
   |some e=>c+n<=e.length/\go (.ptr .own ((e.drop c).take n)) λy K=>match y with
    |.ptr .own ys=>ys.length=n/\gX ys=true/\K (iy r p (.row .own z (xs.set i (e.take c++ys++e.drop (c+n)))) s)
    |_=>False
   |none=>False)
  |_=>False)
 |_=>False
def placeOf:X->Nat×Path
 |.ref r p=>(r,p)
 |.ax r p _ _=>(r,p)
 |_=>(0,[])
def X.bare:X->Bool
 |.ref _ _=>false
 |.ax _ _ _ _=>false
 |.cut _ _ _ _=>false
 |.ptr _ cs=>iX cs
 |.agg cs=>iX cs
 |.ak cs=>iX cs
 |.fn _ cs=>iX cs
 |_=>true
where
 iX:List X->Bool
 |[]=>true
 |x::l=>X.bare x && iX l
def nI(s1:ah):Option AV->List X
 |none=>[]
 |some x=>match av s1 x with
  |.fn _ cs=>fN s1 cs
  |_=>[]
def qY(s1:ah)(fv:Option AV)(f:FuncId):Prop:=match fv with
 |none=>True
 |some x=>match av s1 x with
  |.fn g _=>g=f
  |_=>False
def tM[Bs](P:Program)(f:FuncId)(d:Option Nat)(as:List (AV×PM))(fv:Option AV)(s:ah)(K:ah->Prop):Prop:=
 X.bare.iX (bR as s).1=true/\
 match dU as with
 |none=>qY (bR as s).2 fv f/\AC P f (gu (bR as s).2 .dead as (bR as s).1++nI (bR as s).2 fv) λr _=>K (fM d r (bR as s).2)
 |some (x,n)=>xx (placeOf (av (bR as s).2 x)).1 (placeOf (av (bR as s).2 x)).2 (bR as s).2 n (av (bR as s).2 x) λy back=>X.bare y=true/\qY (iN (placeOf (av (bR as s).2 x)).1 (placeOf (av (bR as s).2 x)).2 .dead (bR as s).2) fv f/\
   AC P f (gu (iN (placeOf (av (bR as s).2 x)).1 (placeOf (av (bR as s).2 x)).2 .dead (bR as s).2) y as (bR as s).1++nI (iN (placeOf (av (bR as s).2 x)).1 (placeOf (av (bR as s).2 x)).2 .dead (bR as s).2) fv)
    λq ps=>back (kF as ps) λs'=>K (fM d q s')
def DS(lo hi:Nat)(xs:List (List X)):List (List X):=xs.mapIdx λi e=>if lo<=i/\i<hi then e.map (λ_=>.dead) else e
def Ed(lo hi:Nat)(z:List X)(xs:List (List X)):List (List X):=xs.mapIdx λi e=>if lo<=i/\i<hi then z else e
def bY(x:X)(s:ah):X×ah:=match x with
 |.cut r p lo hi=>(match look s r p with
  |some (.row .own z xs)=>(.row .own z ((xs.take hi).drop lo),iy r p (.row .own z (DS lo hi xs)) s)
  |_=>(.dead,s))
 |x=>take .mv x s
def aB(P:Program)(f:FuncId):Bool:=match P.funcs[f]? with
 |some fn=> !(fn.name== "runtime.NumGoroutine") && !fn.body.isNone
 |none=>false
def me:List (List X)->Bool
 |(_::_)::_=>true
 |_=>false
def aP[Bs](P:Program)(o:cq)(s:ah)(K:ah->Prop):Prop:=
 match o with
 |.mv d x=>K (put d (av s x) s)
 |.aN d h x=>K (put d (take h (av s x) s).1 (take h (av s x) s).2)
 |.pick d c a b=>match av s c with
  |.bool t=>K (put d (BD t (av s a) (av s b)) s)
  |_=>False
 |.un d op x=>yN op (av s x)/\K (put d (M3 op (av s x)) s)
 |.bin d op x y=>vY op (av s x) (av s y)/\K (put d (IZ op (av s x) (av s y)) s)
 |.beq d neg x y=>match av s x,av s y with
  |.bool p,.bool q=>K (put d (.bool (xor neg (p==q))) s)
  |_,_=>False
 |.r6 d neg x=>match av s x with
  |.row _ _ xs=>∀b:Bool,(me xs=true->b=false)->K (put d (.bool (xor neg b)) s)
  |_=>False
 |.tC d neg ks x y=>match av s x,av s y with
  |.agg p,.agg q=>∃t,jN ks p q=some t/\K (put d (.bool (xor neg t)) s)
  |_,_=>False
 |.conv d k x=>match av s x with
  |.int _ n=>K (put d (.int k (k.wrap n)) s)
  |_=>False
 |.bytes d x=>match av s x with
  |.str t=>K (put d (.row .own 1 (t.data.toList.map λb=>[.int .u8 b.toNat])) s)
  |_=>False
 |.text d x=>∃xs,rowAt s (av s x)=some (1,xs)/\xs.length<=9223372036854775807/\∃l:List UInt8,xs=l.map (λb=>[.int .u8 b.toNat])/\K (put d (.str ⟨l.toArray⟩) s)
 |.box d h x=>0<(cellsOf (take h (av s x) s).1).length/\K (put d (.ptr .own (cellsOf (take h (av s x) s).1)) (take h (av s x) s).2)
 |.new d z=>K (put d (.ptr .own z) s)
 |.build d h z ps=>Hw h (takes h (ps.map (·.2)) s).1/\yG (ps.map (·.1.2)) (takes h (ps.map (·.2)) s).1/\K (put d (.agg (wC z (ps.map (·.1.1)) (takes h (ps.map (·.2)) s).1)) (takes h (ps.map (·.2)) s).2)
 |.lit d h sz ps=>(∀x∈(takes h ps s).1,(cellsOf x).length=sz/\gX (cellsOf x)=true)/\K (put d (.row .own sz ((takes h ps s).1.map cellsOf)) (takes h ps s).2)
 |.make d sz bytes z n=>match av s n with
  |.int _ i=>0<=i/\i*bytes<=140737488355328/\K (put d (.row .own sz (List.replicate i.toNat z)) s)
  |_=>False
 |.load d sz agg a=>∃cs,gw s (av s a)=some cs/\sz<=cs.length/\K (put d (bif agg then .agg (cs.take sz) else cs.headD .dead) s)
 |.store sz h a x=>(cellsOf (take h (av s x) s).1).length=sz/\(match av (take h (av s x) s).2 a with
  |.ax r p i c=>storable (take h (av s x) s).2 r p i c (cellsOf (take h (av s x) s).1)/\K (setCells r p i c (cellsOf (take h (av s x) s).1) (take h (av s x) s).2)
  |_=>False)
 |.dG d x=>match av s x with
  |.ax r p i c=>K (put d (.ax r p i c) s)
  |.ptr m cs=>K (put d (.ptr m cs) s)
  |.fn f cs=>K (put d (.fn f cs) s)
  |_=>False
 |.pn d x off=>match av s x with
  |.ax r p i c=>K (put d (.ax r p i (c+off)) s)
  |.ptr m cs=>K (put d (.ptr m (cs.drop off)) s)
  |_=>False
 |.rA d x off sz agg=>match av s x with
  |.agg cs=>off+sz<=cs.length/\K (put d (bif agg then .agg ((cs.drop off).take sz) else (cs.drop off).headD .dead) s)
  |_=>False
 |.eX d sz x i=>match av s i with
  |.int _ n=>0<=n/\(match av s x with
   |.row m z xs=>z=sz/\∃e,xs[n.toNat]?=some e/\K (put d (.ptr m e) s)
   |.ref r p=>(match look s r p with
    |some (.row _ z xs)=>z=sz/\n.toNat<xs.length/\K (put d (.ax r p n.toNat 0) s)
    |_=>False)
   |.cut r p lo hi=>(match look s r p with
    |some (.row _ z _)=>z=sz/\lo+n.toNat<hi/\K (put d (.ax r p (lo+n.toNat) 0) s)
    |_=>False)
   |_=>False)
  |_=>False
 |.dm d x i=>match av s x,av s i with
  |.str t,.int _ n=>0<=n/\∃b,t.data[n.toNat]?=some b/\K (put d (.int .u8 b.toNat) s)
  |_,_=>False
 |.qR d n sz agg x i=>match av s x,av s i with
  |.agg cs,.int _ j=>0<=j/\j<n/\cs.length=n*sz/\K (put d (bif agg then .agg ((cs.drop (j.toNat*sz)).take sz) else (cs.drop (j.toNat*sz)).headD .dead) s)
  |_,_=>False
 |.ext d x i=>match av s x with
  |.ak cs=>i<cs.length/\K (put d (cs.getD i .dead) s)
  |_=>False
 |.gd d x lo hi=>match av s x with
  |.str t=>0<=asNat s lo 0/\asNat s lo 0<=asNat s hi t.size/\asNat s hi t.size<=t.size/\K (put d (.str (t.extract (asNat s lo 0).toNat (asNat s hi t.size).toNat)) s)
  |_=>False
 |.mg d sz x lo hi=>∃xs,rowAt s (av s x)=some (sz,xs)/\0<=asNat s lo 0/\asNat s lo 0<=asNat s hi xs.length/\asNat s hi xs.length<=xs.length/\(match av s x with
  |.row m z _=>K (put d (.row m z ((xs.take (asNat s hi xs.length).toNat).drop (asNat s lo 0).toNat)) s)
  |.ref r p=>K (put d (.cut r p (asNat s lo 0).toNat (asNat s hi xs.length).toNat) s)
  |_=>False)
 |.mW d fz sz agg a=>∃cs,gw s (av s a)=some cs/\sz<=cs.length/\∃s',ghost fz d (put d (bif agg then .agg (cs.take sz) else cs.headD .dead) s)=some s'/\K s'
 |.wq sz z x=>match av s x with
  |.cut r p lo hi=>(match look s r p with
   |some (.row .own z' xs)=>z'=sz/\K (iy r p (.row .own z' (Ed lo hi z xs)) s)
   |_=>False)
  |_=>False
 |.qW d f x as=>match av s x with
  |.agg cs=>X.bare.iX (bT cs s).1=true/\AC P f (.agg (bT cs s).1::gu (bT cs s).2 .dead as (as.map λ_=>.dead)) λr ps=>match ps with
   |.agg ys::_=>gX ys=true/\∃s',mF cs ys (bT cs s).2=some s'/\K (fM d r s')
   |_=>False
  |_=>False
 |.nY d f cs=>K (put d (.fn f (cs.map (av s))) s)
 |.len d x=>∃z xs,rowAt s (av s x)=some (z,xs)/\K (put d (.int .i64 xs.length) s)
 |.sY d x=>match av s x with
  |.str t=>K (put d (.int .i64 t.size) s)
  |_=>False
 |.app d h sz bytes x y=>match (take .mv (av s x) s).1 with
  |.row .own z xs=>z=sz/\(match h with
   |.mv=>(match (bY (av (take .mv (av s x) s).2 y) (take .mv (av s x) s).2).1 with
    |.row .own z' ys=>z'=sz/\(xs.length+ys.length)*bytes<=140737488355328/\K (put d (.row .own z (xs++ys)) (bY (av (take .mv (av s x) s).2 y) (take .mv (av s x) s).2).2)
    |_=>False)
   |_=>∃ys,rowAt (take .mv (av s x) s).2 (av (take .mv (av s x) s).2 y)=some (sz,ys)/\(xs.length+ys.length)*bytes<=140737488355328/\scalars ys/\K (put d (.row .own z (xs++ys)) (take .mv (av s x) s).2))
  |_=>False
 |.mn d xs=>match xs.map (av s) with
  |[.int k a,.int k' b]=>k=k'/\K (put d (.int k (if b<a then b else a)) s)
  |_=>False
 |.mx d xs=>match xs.map (av s) with
  |[.int k a,.int k' b]=>k=k'/\K (put d (.int k (if b>a then b else a)) s)
  |_=>False
 |.call d f as=>tM P f d as none s K
 |.kg d x as=>match av s x with
  |.fn f _=>aB P f=true/\tM P f d as (some x) s K
  |_=>False
def cq.dst:cq->Option Nat
 |.mv d _|.aN d _ _|.pick d _ _ _|.un d _ _|.bin d _ _ _|.beq d _ _ _|.tC d _ _ _ _|.r6 d _ _|.conv d _ _|.bytes d _|.text d _|.box d _ _|.new d _|.build d _ _ _|.lit d _ _ _
 |.make d _ _ _ _|.load d _ _ _|.dG d _|.pn d _ _|.rA d _ _ _ _|.eX d _ _ _|.dm d _ _|.qR d _ _ _ _ _|.ext d _ _|.gd d _ _ _
 |.mg d _ _ _ _|.nY d _ _|.len d _|.sY d _|.app d _ _ _ _ _|.mn d _|.mx d _|.mW d _ _ _ _=>some d
 |.call d _ _=>d
 |.kg d _ _=>d
 |.qW d _ _ _=>d
 |.store _ _ _ _=>none
 |.wq _ _ _=>none
def oX[Bs](P:Program)(g:G)(s:ah)(K:ah->Prop):Prop:=match g with
 |⟨none,o⟩=>aP P o s K
 |⟨some (t,b),o⟩=>match get s t with
  |.bool v=>(v=b->aP P o ((t,.bool b)::s) K)/\(v= !b->K (fM o.dst (.ak []) ((t,.bool (!b))::s)))
  |.ak []=>K (fM o.dst (.ak []) s)
  |_=>False
def ke[Bs](P:Program):List G->ah->(Ex->ah->Prop)->Prop
 |[],s,Q=>Q .normal s
 |g::l,s,Q=>oX P g s λs'=>ke P l s' Q
def keep(ks:List Nat)(s:ah):ah:=ks.map λk=>(k,(get s k).only ks)
def ia[Bs](P:Program):DT->ah->(Ex->ah->Prop)->Prop
 |.nil ks,s,Q=>Q .normal (keep ks s)
 |.step _ g t,s,Q=>oX P g s λs'=>ia P t s' Q
 |.alt a b,s,Q=>ia P a s Q/\ia P b s Q
 |.kp ks t,s,Q=>ia P t (keep ks s) Q
def eL[Bs](P:Program):A->ah->(Ex->ah->Prop)->Prop
 |.skip,s,Q=>Q .normal s
 |.ret,s,Q=>Q .ret s
 |.exit id,s,Q=>Q (.exit id) s
 |.ops l,s,Q=>ke P l s Q
 |.draw t,s,Q=>ia P t s Q
 |.seq a b,s,Q=>eL P a s λe s'=>match e with
  |.normal=>eL P b s' Q
  |e=>Q e s'
 |.cond c a b,s,Q=>match av s c with
  |.bool t=>(t=true->eL P a s Q)/\(t=false->eL P b s Q)
  |_=>False
 |.block id b,s,Q=>eL P b s λe s'=>match e with
  |.exit i=>bif i==id then Q .normal s' else Q (.exit i) s'
  |e=>Q e s'
 |.loop b,s,Q=>∃I:Nat->ah->Prop,(∃n,I n s)/\∀n s',I n s'->eL P b s' λe s''=>match e with
  |.normal=>∃m,m<n/\I m s''
  |e=>Q e s''
 |.pk ks b,s,Q=>eL P b s λe s'=>match e with
  |.normal=>Q .normal (keep ks s')
  |e=>Q e s'
def zf[Bs](P:Program)(t:DT)(Q:Ex->ah->Prop):ah->Prop:=λs=>ia P t s Q
def IE[Bs](P:Program)(l:List G)(Q:Ex->ah->Prop):ah->Prop:=λs=>ke P l s Q
def Dn[Bs](P:Program)(b:A)(Q:Ex->ah->Prop):Ex->ah->Prop:=λe s'=>match e with
  |.normal=>eL P b s' Q
  |e=>Q e s'
def Dj(id:Nat)(Q:Ex->ah->Prop):Ex->ah->Prop:=λe s'=>match e with
  |.exit i=>bif i==id then Q .normal s' else Q (.exit i) s'
  |e=>Q e s'
end M
namespace M
open Go
variable [Bs]{P:Program}
@[simp] def akt(s:ah)(Q:Ex->ah->Prop):eL P .skip s Q=Q .normal s:=rfl
@[simp] def akr(s:ah)(Q:Ex->ah->Prop):eL P .ret s Q=Q .ret s:=rfl
@[simp] def akp(i:Nat)(s:ah)(Q:Ex->ah->Prop):eL P (.exit i) s Q=Q (.exit i) s:=rfl
@[simp] def akq(l:List G)(s:ah)(Q:Ex->ah->Prop):eL P (.ops l) s Q=ke P l s Q:=rfl
@[simp] def ako(t:DT)(s:ah)(Q:Ex->ah->Prop):eL P (.draw t) s Q=ia P t s Q:=rfl
@[simp] def alq(ks:List Nat)(s:ah)(Q:Ex->ah->Prop):ia P (.nil ks) s Q=Q .normal (keep ks s):=rfl
@[simp] def alr(i:Nat)(o:cq)(t:DT)(s:ah)(Q:Ex->ah->Prop):ia P (.step i ⟨none,o⟩ t) s Q=aP P o s (zf P t Q):=rfl
@[simp] def alo(i t:Nat)(b:Bool)(o:cq)(l:DT)(s:ah)(Q:Ex->ah->Prop):ia P (.step i ⟨some (t,b),o⟩ l) s Q=(match get s t with
  |.bool v=>(v=b->aP P o ((t,.bool b)::s) (zf P l Q))/\(v= !b->zf P l Q (fM o.dst (.ak []) ((t,.bool (!b))::s)))
  |.ak []=>zf P l Q (fM o.dst (.ak []) s)
  |_=>False):=rfl
@[simp] def aln(a b:DT)(s:ah)(Q:Ex->ah->Prop):ia P (.alt a b) s Q=(ia P a s Q/\ia P b s Q):=rfl
@[simp] def alp(ks:List Nat)(t:DT)(s:ah)(Q:Ex->ah->Prop):ia P (.kp ks t) s Q=ia P t (keep ks s) Q:=rfl
@[simp] def alm(t:DT)(Q:Ex->ah->Prop)(s:ah):zf P t Q s=ia P t s Q:=rfl
@[simp] def aks(a b:A)(s:ah)(Q:Ex->ah->Prop):eL P (.seq a b) s Q=eL P a s (Dn P b Q):=rfl
@[simp] def akm(i:Nat)(b:A)(s:ah)(Q:Ex->ah->Prop):eL P (.block i b) s Q=eL P b s (Dj i Q):=rfl
@[simp] def akn(c:AV)(a b:A)(s:ah)(Q:Ex->ah->Prop):eL P (.cond c a b) s Q=(match av s c with|.bool t=>(t=true->eL P a s Q)/\(t=false->eL P b s Q)|_=>False):=rfl
@[simp] def anx(b:A)(Q:Ex->ah->Prop)(s:ah):Dn P b Q .normal s=eL P b s Q:=rfl
@[simp] def anw(b:A)(Q:Ex->ah->Prop)(s:ah)(i:Nat):Dn P b Q (.exit i) s=Q (.exit i) s:=rfl
@[simp] def anz(b:A)(Q:Ex->ah->Prop)(s:ah):Dn P b Q .ret s=Q .ret s:=rfl
@[simp] def akD(i:Nat)(Q:Ex->ah->Prop)(s:ah):Dj i Q .normal s=Q .normal s:=rfl
@[simp] def akE(i:Nat)(Q:Ex->ah->Prop)(s:ah):Dj i Q .ret s=Q .ret s:=rfl
@[simp] def akC(i j:Nat)(Q:Ex->ah->Prop)(s:ah):Dj i Q (.exit j) s=(bif j==i then Q .normal s else Q (.exit j) s):=rfl
@[simp] def ang(s:ah)(Q:Ex->ah->Prop):ke P [] s Q=Q .normal s:=rfl
@[simp] def ane(o:cq)(l:List G)(s:ah)(Q:Ex->ah->Prop):ke P (⟨none,o⟩::l) s Q=aP P o s (IE P l Q):=rfl
@[simp] def anf(t:Nat)(b:Bool)(o:cq)(l:List G)(s:ah)(Q:Ex->ah->Prop):ke P (⟨some (t,b),o⟩::l) s Q=(match get s t with
  |.bool v=>(v=b->aP P o ((t,.bool b)::s) (IE P l Q))/\(v= !b->ke P l (fM o.dst (.ak []) ((t,.bool (!b))::s)) Q)
  |.ak []=>ke P l (fM o.dst (.ak []) s) Q
  |_=>False):=rfl
@[simp] def anc(l:List G)(Q:Ex->ah->Prop)(s:ah):IE P l Q s=ke P l s Q:=rfl
attribute [simp] aP get put fM rV X.iL av alias iV gK zq tD look X.sub X.step X.putAt X.aW iN Tx move take TX bT cellsOf gw rowAt res lq oh xL fN oa setCell setCells
 jN vY IZ yN M3 BD cO gX takes ki wC Hw yG storable asNat bR gu dU kF oY X.eY X.pT rU iy xx placeOf X.bare X.bare.iX nI qY tM X.md X.dS X.bV X.kill X.gA X.pfx cq.dst scalar X.only X.nj keep
end M
namespace M
open Go Go.RowKit
namespace C
variable {w w':World}{Z Z':Md->Nat->Nat->Prop}{S:Nat->Nat->Prop}
def fC:∀(c:C),c.ok w Z->∀b k,c.fp b k->b<w.heap.size
 |.row m sz A len cap e,h,b,k,hf=>by
  obtain⟨h1,h2,h3,h4,h5⟩:=h;rcases hf with ⟨hm,⟨o,hA⟩|⟨i,j,hi,hj,hf⟩⟩
  ·rcases h4 hm with ⟨hn,_⟩|⟨g,o',arr,t,fz,kj,hh,_⟩;·rw[hn] at hA;cases hA
   ·rw[kj] at hA;injection hA with hA
    injection hA with e1 e2
    subst e1;exact(j9.1 hh).1
  ·exact fC (e i j) (h3 i j hi hj).2.2.2 b k hf
 |.ptr m g o n c,h,b,k,hf=>by
  obtain⟨h1,h2,h3,h4⟩:=h;rcases hf with ⟨_,⟨rfl,_⟩|⟨j,hj,hf⟩⟩;·exact h2
  ·exact fC (c j) (h3 j hj).2.2 b k hf
 |.agg n c,h,b,k,hf=>by obtain⟨j,hj,hf⟩:=hf;exact fC (c j) (h.1 j hj).2 b k hf
 |.ak n c,h,b,k,hf=>by obtain⟨j,hj,hf⟩:=hf;exact fC (c j) (h.1 j hj).2 b k hf
 |.fn _ _ _,_,_,_,hf=>hf.elim
 |.dead _,_,_,_,hf=>hf.elim
 |.int _ _,_,_,_,hf=>hf.elim
 |.bool _,_,_,_,hf=>hf.elim
 |.str _,_,_,_,hf=>hf.elim
 |.ref _ _ _,_,_,_,hf=>hf.elim
 |.ax _ _ _ _ _,_,_,_,hf=>hf.elim
 |.cut _ _ _ _ _,_,_,_,hf=>hf.elim
def Qk{c:C}{m:Md}(hc:c.cell)(hf:c.fits m){b k:Nat}(h:c.fp b k):m=.own:=by
 cases c with
 |row m' sz A len cap e=>
  obtain⟨hm,_⟩:=h;subst hm;rcases hf with h|h|⟨_,h⟩;·exact h
  ·exact h.symm
  ·cases h
 |ptr m' g o n c=>
  obtain⟨hm,_⟩:=h;subst hm;rcases hf with h|h|⟨_,h⟩;·exact h
  ·exact h.symm
  ·cases h
 |agg n c=>exact hc.elim
 |ak n c=>exact hc.elim
 |_=>exact h.elim
def jV{m:Md}{sz:Nat}{A:Option Ad}{len cap:Nat}{e:Nat->Nat->C}{i j:Nat}(h0:(e i j).cell)(h1:(e i j).fits m)(hi:i<len)(hj:j<sz){b k:Nat}(hf:(e i j).fp b k):(C.row m sz A len cap e).fp b k:=
 ⟨Qk h0 h1 hf,.inr ⟨i,j,hi,hj,hf⟩⟩
def kC{m:Md}{g o n:Nat}{c:Nat->C}{j:Nat}(h0:(c j).cell)(h1:(c j).fits m)(hj:j<n){b k:Nat}(hf:(c j).fp b k):(C.ptr m g o n c).fp b k:=
 ⟨Qk h0 h1 hf,.inr ⟨j,hj,hf⟩⟩
def fG(hE:Ext S w w')(hZ:∀m b k,Z m b k->¬S b k):∀(c:C),(∀b k,c.fp b k->¬S b k)->c.ok w Z->c.ok w' Z
 |.row m sz A len cap e,hS,h=>by
  obtain⟨h1,h2,h3,h4,h5⟩:=h;refine⟨h1,λi j hi hj=>?_,λi j hi hj=>?_,λhm=>?_,h5⟩
  ·obtain⟨g,o,hA,hc,hz⟩:=h2 i j hi hj;refine⟨g,o,hA,hE.cell ?_ hc,hz⟩;by_cases hm:m=.own;·exact hS _ _ ⟨hm,.inl ⟨o,hA⟩⟩
   ·exact hZ _ _ _ (hz hm)
  ·obtain⟨a1,a2,a3,a4⟩:=h3 i j hi hj;exact⟨a1,a2,a3,fG hE hZ (e i j) (λb k hf=>hS b k (jV a1 a3 hi hj hf)) a4⟩
  ·rcases h4 hm with h|⟨g,o,arr,t,fz,hA,hh,hsz,hfr⟩;·exact .inl h
   ·have hg:g<w.heap.size:=(j9.1 hh).1;rcases hE.block g hg with e'|⟨a1,a2,t',lQ,e1,e2,e3,e4⟩;·exact .inr ⟨g,o,arr,t,fz,hA,e'.trans hh,hsz,λk hk hk'=>(hE.frozen hg).trans (hfr k hk hk')⟩
    ·rw[hh] at e1;injection e1 with e1
     injection e1 with q1 q2 q3
     subst q1;exact .inr ⟨g,o,a2,t',lQ,hA,e2,by omega,λk hk hk'=>(hE.frozen hg).trans (hfr k hk hk')⟩
 |.ptr m g o n c,hS,h=>by
  obtain⟨h1,h2,h3,h4⟩:=h;refine⟨λj hj=>?_,kL h2 hE.size,λj hj=>?_,h4⟩
  ·obtain⟨a1,a2,a3⟩:=h1 j hj;refine⟨hE.cell ?_ a1,a2,λhm=>(hE.frozen h2).trans (a3 hm)⟩;by_cases hm:m=.own;·exact hS _ _ ⟨hm,.inl ⟨rfl,by omega,by omega⟩⟩
   ·exact hZ _ _ _ (a2 hm)
  ·obtain⟨a1,a3,a4⟩:=h3 j hj;exact⟨a1,a3,fG hE hZ (c j) (λb k hf=>hS b k (kC a1 a3 hj hf)) a4⟩
 |.agg n c,hS,h=>⟨λj hj=>⟨(h.1 j hj).1,fG hE hZ (c j) (λb k hf=>hS b k ⟨j,hj,hf⟩) (h.1 j hj).2⟩,h.2⟩
 |.ak n c,hS,h=>⟨λj hj=>⟨(h.1 j hj).1,fG hE hZ (c j) (λb k hf=>hS b k ⟨j,hj,hf⟩) (h.1 j hj).2⟩,h.2⟩
 |.fn f n c,hS,h=>λj hj=>⟨fG hE hZ (c j) (λb k hf=>((h j hj).2 b k hf).elim) (h j hj).1,(h j hj).2⟩
 |.dead _,_,h=>h
 |.int _ _,_,h=>h
 |.bool _,_,h=>h
 |.str _,_,h=>h
 |.ref _ _ _,_,h=>h
 |.ax _ _ _ _ _,_,h=>h
 |.cut _ _ _ _ _,_,h=>h
def gE(hZ:∀m b k,Z m b k->Z' m b k):∀(c:C),c.ok w Z->c.ok w Z'
 |.row m sz A len cap e,h=>by
  obtain⟨h1,h2,h3,h4,h5⟩:=h;refine⟨h1,λi j hi hj=>?_,λi j hi hj=>?_,h4,h5⟩;·obtain⟨g,o,hA,hc,hz⟩:=h2 i j hi hj;exact⟨g,o,hA,hc,λhm=>hZ _ _ _ (hz hm)⟩
  ·obtain⟨a1,a2,a3,a4⟩:=h3 i j hi hj;exact⟨a1,a2,a3,gE hZ (e i j) a4⟩
 |.ptr m g o n c,h=>by
  obtain⟨h1,h2,h3,h4⟩:=h;refine⟨λj hj=>?_,h2,λj hj=>?_,h4⟩;·obtain⟨a1,a2,a3⟩:=h1 j hj;exact⟨a1,λhm=>hZ _ _ _ (a2 hm),a3⟩
  ·obtain⟨a1,a3,a4⟩:=h3 j hj;exact⟨a1,a3,gE hZ (c j) a4⟩
 |.agg n c,h=>⟨λj hj=>⟨(h.1 j hj).1,gE hZ (c j) (h.1 j hj).2⟩,h.2⟩
 |.ak n c,h=>⟨λj hj=>⟨(h.1 j hj).1,gE hZ (c j) (h.1 j hj).2⟩,h.2⟩
 |.fn f n c,h=>λj hj=>⟨gE hZ (c j) (h j hj).1,(h j hj).2⟩
 |.dead _,h=>h
 |.int _ _,h=>h
 |.bool _,h=>h
 |.str _,h=>h
 |.ref _ _ _,h=>h
 |.ax _ _ _ _ _,h=>h
 |.cut _ _ _ _ _,h=>h
def step:C->Nat×Nat->Option C
 |.row _ sz _ len _ e,q=>if q.1<len/\q.2<sz then some (e q.1 q.2) else none
 |.ptr _ _ _ n c,q=>if q.1=0/\q.2<n then some (c q.2) else none
 |.agg n c,q=>if q.1=0/\q.2<n then some (c q.2) else none
 |.ak n c,q=>if q.1=0/\q.2<n then some (c q.2) else none
 |_,_=>none
def sub(c:C):Path->Option C
 |[]=>some c
 |q::p=>(c.step q).bind (·.sub p)
def bW(f:Nat->C)(j:Nat)(y:C):Nat->C:=λi=>if i=j then y else f i
def aW:C->Nat×Nat->C->C
 |.row m sz A len cap e,q,y=>.row m sz A len cap (λi j=>if i=q.1/\j=q.2 then y else e i j)
 |.ptr m g o n c,q,y=>.ptr m g o n (bW c q.2 y)
 |.agg n c,q,y=>.agg n (bW c q.2 y)
 |.ak n c,q,y=>.ak n (bW c q.2 y)
 |c,_,_=>c
def putAt:Path->C->C->C
 |[],_,y=>y
 |q::p,c,y=>match c.step q with
  |some z=>c.aW q (putAt p z y)
  |none=>c
def cU{α:Type}(f:Nat->α)(n i:Nat):((List.range n).map f)[i]?=if i<n then some (f i) else none:=by
 rw[cR];by_cases h:i<n;·rw[tj h,au h];rfl
 ·rw[kQ (by simpa using h),aC h];rfl
def TN(c:C)(q:Nat×Nat):c.er.step q=(c.step q).map er:=by
 cases c with
 |row m sz A len cap e=>
  simp only[er,X.step,step,cU];by_cases h1:q.1<len
  ·by_cases h2:q.2<sz;·simp[h1,h2,cU]
   ·simp[h1,h2,cU]
  ·simp[h1]
 |ptr m g o n c=>simp only[er,X.step,step,cU];cases h0:q.1==0<;>by_cases h1:q.2<n<;>simp_all
 |agg n c=>simp only[er,X.step,step,cU];cases h0:q.1==0<;>by_cases h1:q.2<n<;>simp_all
 |ak n c=>simp only[er,X.step,step,cU];cases h0:q.1==0<;>by_cases h1:q.2<n<;>simp_all
 |_=>rfl
def gG:∀(p:Path) (c:C),c.er.sub p=(c.sub p).map er
 |[],c=>rfl
 |q::p,c=>by
  simp only[X.sub,sub,TN];cases h:c.step q with
  |none=>rfl
  |some d=>simpa using gG p d
def Bp{α:Type}(f g:Nat->α)(n j:Nat)(y:α)(h:∀i,i<n->g i=if i=j then y else f i):((List.range n).map f).set j y=(List.range n).map g:=by
 apply hO;intro i;rw[vN,cU,cU];simp only[cZ,vQ];by_cases hi:i<n
 ·by_cases hj:j=i;·subst hj;simp[hi,h j hi]
  ·have:i≠j:=λe=>hj e.symm;simp[hi,hj,h i hi,this]
 ·by_cases hj:j=i;·subst hj;simp[hi]
  ·simp[hi,hj]
def afL(c:C)(q:Nat×Nat)(y:C):(c.aW q y).er=c.er.aW q y.er:=by
 cases c with
 |row m sz A len cap e=>
  simp only[aW,er,X.aW];congr 1;apply hO;intro i;rw[vM,cU,cU];by_cases hi:i<len
  ·rw[au hi,au hi];show some _=some _;congr 1;by_cases hq:q.1=i;·subst hq;simp only[cY];symm;apply Bp;intro j hj;by_cases hj':j=q.2<;>simp[hj']
   ·have nR:i≠q.1:=λe=>hq e.symm;simp[hq,nR]
  ·simp[hi]
 |ptr m g o n c=>simp only[aW,er,X.aW];congr 1;symm;apply Bp;intro i hi;unfold bW;split<;>rfl
 |agg n c=>simp only[aW,er,X.aW];congr 1;symm;apply Bp;intro i hi;unfold bW;split<;>rfl
 |ak n c=>simp only[aW,er,X.aW];congr 1;symm;apply Bp;intro i hi;unfold bW;split<;>rfl
 |_=>rfl
def Lx:∀(p:Path) (c y:C),(putAt p c y).er=X.putAt p c.er y.er
 |[],c,y=>rfl
 |q::p,c,y=>by
  simp only[putAt,X.putAt,TN];cases h:c.step q with
  |none=>rfl
  |some d=>simp only[cg,afL,Lx p d y]
end C
end M
namespace M
open Go Go.RowKit
namespace C
variable {w w':World}{Z Z':Md->Nat->Nat->Prop}{S:Nat->Nat->Prop}
def ML{c z:C}{q:Nat×Nat}(h:c.step q=some z)(ho:c.ok w Z){b k:Nat}(hf:z.fp b k):c.fp b k:=by
 cases c with
 |row m sz A len cap e=>
  simp only[step] at h;split at h
  ·rename_i hq;injection h with h
   subst h;obtain⟨a1,a2,a3,a4⟩:=ho.2.2.1 _ _ hq.1 hq.2;exact jV a1 a3 hq.1 hq.2 hf
  ·cases h
 |ptr m g o n c=>
  simp only[step] at h;split at h
  ·rename_i hq;injection h with h
   subst h;obtain⟨a1,a3,a4⟩:=ho.2.2.1 _ hq.2;exact kC a1 a3 hq.2 hf
  ·cases h
 |agg n c=>
  simp only[step] at h;split at h
  ·rename_i hq;injection h with h
   subst h;exact⟨q.2,hq.2,hf⟩
  ·cases h
 |ak n c=>
  simp only[step] at h;split at h
  ·rename_i hq;injection h with h
   subst h;exact⟨q.2,hq.2,hf⟩
  ·cases h
 |_=>simp[step] at h
def vw{c z:C}{q:Nat×Nat}(h:c.step q=some z)(ho:c.ok w Z):z.ok w Z:=by
 cases c with
 |row m sz A len cap e=>
  simp only[step] at h;split at h
  ·rename_i hq;injection h with h
   subst h;exact(ho.2.2.1 _ _ hq.1 hq.2).2.2.2
  ·cases h
 |ptr m g o n c=>
  simp only[step] at h;split at h
  ·rename_i hq;injection h with h
   subst h;exact(ho.2.2.1 _ hq.2).2.2
  ·cases h
 |agg n c=>
  simp only[step] at h;split at h
  ·rename_i hq;injection h with h
   subst h;exact(ho.1 _ hq.2).2
  ·cases h
 |ak n c=>
  simp only[step] at h;split at h
  ·rename_i hq;injection h with h
   subst h;exact(ho.1 _ hq.2).2
  ·cases h
 |_=>simp[step] at h
def gY:∀(p:Path) {c d:C},c.sub p=some d->c.ok w Z->d.ok w Z
 |[],c,d,h,ho=>by simp only[sub] at h;injection h with h;subst h;exact ho
 |q::p,c,d,h,ho=>by
  simp only[sub] at h;cases hs:c.step q with
  |none=>rw[hs] at h;cases h
  |some z=>rw[hs] at h;exact gY p h (vw hs ho)
def gH:∀(p:Path) {c d:C},c.sub p=some d->c.ok w Z->∀{b k:Nat},d.fp b k->c.fp b k
 |[],c,d,h,_,b,k,hf=>by simp only[sub] at h;injection h with h;subst h;exact hf
 |q::p,c,d,h,ho,b,k,hf=>by
  simp only[sub] at h;cases hs:c.step q with
  |none=>rw[hs] at h;cases h
  |some z=>rw[hs] at h;exact ML hs ho (gH p h (vw hs ho) hf)
structure hU (c c':C):Prop where
 val:c'.val=c.val
 cell:c.cell->c'.cell
 fY:c.fY->c'.fY
 cO:c.cO->c'.cO
 fits:∀m,c.fits m->c'.fits m
def hU.aW(c:C)(q:Nat×Nat)(z z':C)(hs:c.step q=some z)(hv:z'.val=z.val):hU c (c.aW q z'):=by
 have list:∀(n:Nat) (f:Nat->C),f q.2=z->((List.range n).map λj=>(bW f q.2 z' j).val)=((List.range n).map λj=>(f j).val):=by
  intro n f hf;apply b7;intro j _;unfold bW;split;·rename_i e;subst e;rw[hv,hf]
  ·rfl
 cases c with
 |row m sz A len cap e=>exact⟨rfl,λh=>h,λh=>h,λh=>h,λm h=>h⟩
 |ptr m g o n c=>exact⟨rfl,λh=>h,λh=>h,λh=>h,λm h=>h⟩
 |agg n c=>
  simp only[step] at hs;split at hs
  ·injection hs with hs
   exact⟨by simp only[C.aW,C.val];rw[list n c hs],λh=>h,λh=>h,λh=>h,λm h=>h⟩
  ·cases hs
 |ak n c=>
  simp only[step] at hs;split at hs
  ·injection hs with hs
   exact⟨by simp only[C.aW,C.val];rw[list n c hs],λh=>h,λh=>h,λh=>h,λm h=>h⟩
  ·cases hs
 |_=>simp[step] at hs
def Bz(hM:∀m b k,Z m b k->Z' m b k)(hE:Ext S w w')(hZ:∀m b k,Z m b k->¬S b k):∀(p:Path) (c d d':C),c.ok w Z->c.sub p=some d->d'.ok w' Z'->hU d d'->
  (∀b k,S b k->d.fp b k\/¬c.fp b k)->(∀b k,d'.fp b k->d.fp b k\/¬c.fp b k)->
  (putAt p c d').ok w' Z'/\(∀b k,(putAt p c d').fp b k->d'.fp b k\/(c.fp b k/\¬d.fp b k))/\hU c (putAt p c d')
 |[],c,d,d',hc,hs,hd,hl,hS,hF=>by
  simp only[sub] at hs;injection hs with hs
  subst hs;exact⟨hd,λb k h=>.inl h,hl⟩
 |q::p,c,d,d',hc,hs,hd,hl,hS,hF=>by
  simp only[sub] at hs;cases hst:c.step q with
  |none=>rw[hst] at hs;cases hs
  |some z=>
   rw[hst] at hs;have hs':z.sub p=some d:=hs;obtain⟨i1,i2,i3⟩:=Bz hM hE hZ p z d d' (vw hst hc) hs' hd hl (λb k h=>(hS b k h).imp id (λhn hz=>hn (ML hst hc hz))) (λb k h=>(hF b k h).imp id (λhn hz=>hn (ML hst hc hz)));simp only[putAt,hst];generalize fE:putAt p z d'=z' at i1 i2 i3;have rJ:=hU.aW c q z z' hst i3.val;have kW:∀{b k},d.fp b k->z.fp b k:=λh=>gH p hs' (vw hst hc) h
   have Ey:∀(y:C),(∀b k,y.fp b k->c.fp b k)->(∀b k,y.fp b k->¬z.fp b k)->∀b k,y.fp b k->¬S b k:=λy hy hyz b k Rx Ab=>by
    rcases hS b k Ab with h|h;·exact hyz b k Rx (kW h)
    ·exact h (hy b k Rx)
   cases c with
   |row m sz A len cap e=>
    simp only[step] at hst;split at hst
    ·rename_i hq;injection hst with hst
     obtain⟨h1,h2,h3,h4,h5⟩:=hc;have fJ:∀b k,z.fp b k->(m=.own->∀o,A≠some (b,o,none))/\∀i' j',i'<len->j'<sz->(q.1,q.2)≠(i',j')->¬(e i' j').fp b k:=λb k h=>h5 q.1 q.2 hq.1 hq.2 b k (by rw[hst];exact h)
     have hval:∀i j,(if i=q.1/\j=q.2 then z' else e i j).val=(e i j).val:=by
      intro i j;split;·rename_i h;obtain⟨rfl,rfl⟩:=h;rw[hst];exact i3.val
      ·rfl
     have k7:∀b k,z'.fp b k->(m=.own->∀o,A≠some (b,o,none))/\∀i' j',i'<len->j'<sz->(q.1,q.2)≠(i',j')->¬(e i' j').fp b k:=by
      intro b k h;rcases i2 b k h with h|⟨h,_⟩
      ·rcases hF b k h with h|h;·exact fJ b k (kW h)
       ·exact⟨λhm o hA=>h ⟨hm,.inl ⟨o,hA⟩⟩,λi' j' hi hj _ hf=>h (jV (h3 i' j' hi hj).1 (h3 i' j' hi hj).2.2.1 hi hj hf)⟩
      ·exact fJ b k h
     refine⟨⟨h1,λi j hi hj=>?_,λi j hi hj=>?_,λhm=>?_,λi j hi hj b k hf=>?_⟩,λb k hf=>?_,rJ⟩
     ·obtain⟨g,o,hA,hcell,hz⟩:=h2 i j hi hj;refine⟨g,o,hA,?_,λhm=>hM _ _ _ (hz hm)⟩;rw[hval];refine hE.cell ?_ hcell;by_cases hm:m=.own
      ·intro Ab;rcases hS _ _ Ab with h|h;·exact(fJ _ _ (kW h)).1 hm o hA
       ·exact h ⟨hm,.inl ⟨o,hA⟩⟩
      ·exact hZ _ _ _ (hz hm)
     ·obtain⟨a1,a2,a3,a4⟩:=h3 i j hi hj;by_cases hij:i=q.1/\j=q.2;·obtain⟨rfl,rfl⟩:=hij;simp only[yX,cY];rw[hst] at a1 a2 a3;exact⟨i3.cell a1,i3.cO a2,i3.fits _ a3,i1⟩
      ·simp only[aC hij];refine⟨a1,a2,a3,gE hM _ (fG hE hZ _ (Ey _ (λb k hf=>jV a1 a3 hi hj hf) λb k hf jz=>?_) a4)⟩;exact(fJ b k jz).2 i j hi hj (λe=>hij (by simpa using (jE _ _ _ _▸e.symm:i=q.1/\j=q.2))) hf
     ·rcases h4 hm with h|⟨g,o,arr,t,fz,hA,hh,hsz,hfr⟩;·exact .inl h
      ·have hg:g<w.heap.size:=(j9.1 hh).1;rcases hE.block g hg with e'|⟨a1,a2,t',lQ,e1,e2,e3,e4⟩;·exact .inr ⟨g,o,arr,t,fz,hA,e'.trans hh,hsz,λk hk hk'=>(hE.frozen hg).trans (hfr k hk hk')⟩
       ·rw[hh] at e1;injection e1 with e1
        injection e1 with q1 q2 q3
        subst q1;exact .inr ⟨g,o,a2,t',lQ,hA,e2,by omega,λk hk hk'=>(hE.frozen hg).trans (hfr k hk hk')⟩
     ·by_cases hij:i=q.1/\j=q.2;·obtain⟨rfl,rfl⟩:=hij;simp only[yX,cY] at hf;refine⟨(k7 b k hf).1,λi' j' hi' hj' hne=>?_⟩;show ¬(if i'=q.1/\j'=q.2 then z' else e i' j').fp b k;rw[aC (λh=>hne (by rw[h.1,h.2]))];exact(k7 b k hf).2 i' j' hi' hj' hne
      ·simp only[aC hij] at hf;refine⟨(h5 i j hi hj b k hf).1,λi' j' hi' hj' hne=>?_⟩;show ¬(if i'=q.1/\j'=q.2 then z' else e i' j').fp b k;by_cases hij':i'=q.1/\j'=q.2;·obtain⟨rfl,rfl⟩:=hij';simp only[yX,cY];intro hf';exact(k7 b k hf').2 i j hi hj (λe=>hij (by simpa using (jE _ _ _ _▸e.symm:i=q.1/\j=q.2))) hf
       ·rw[aC hij'];exact(h5 i j hi hj b k hf).2 i' j' hi' hj' hne
     ·rcases hf with ⟨hm,h|⟨i,j,hi,hj,hf⟩⟩;·refine .inr ⟨⟨hm,.inl h⟩,λhd=>?_⟩;obtain⟨o,hA⟩:=h;exact(fJ b k (kW hd)).1 hm o hA
      ·by_cases hij:i=q.1/\j=q.2
       ·obtain⟨rfl,rfl⟩:=hij;simp only[yX,cY] at hf;rcases i2 b k hf with h|⟨h,hn⟩;·exact .inl h
        ·exact .inr ⟨⟨hm,.inr ⟨_,_,hi,hj,by rw[hst];exact h⟩⟩,hn⟩
       ·simp only[aC hij] at hf;exact .inr ⟨⟨hm,.inr ⟨i,j,hi,hj,hf⟩⟩,λhd=>(fJ b k (kW hd)).2 i j hi hj (λe=>hij (by simpa using (jE _ _ _ _▸e.symm:i=q.1/\j=q.2))) hf⟩
    ·cases hst
   |ptr m g o n c=>
    simp only[step] at hst;split at hst
    ·rename_i hq;injection hst with hst
     obtain⟨h1,h2,h3,h4⟩:=hc;have fJ:∀b k,z.fp b k->(m=.own->¬(b=g/\o<=k/\k<o+n))/\∀j',j'<n->q.2≠j'->¬(c j').fp b k:=λb k h=>h4 q.2 hq.2 b k (by rw[hst];exact h)
     have hval:∀j,(bW c q.2 z' j).val=(c j).val:=by
      intro j;unfold bW;split;·rename_i h;subst h;rw[hst];exact i3.val
      ·rfl
     have k7:∀b k,z'.fp b k->(m=.own->¬(b=g/\o<=k/\k<o+n))/\∀j',j'<n->q.2≠j'->¬(c j').fp b k:=by
      intro b k h;rcases i2 b k h with h|⟨h,_⟩
      ·rcases hF b k h with h|h;·exact fJ b k (kW h)
       ·exact⟨λhm hA=>h ⟨hm,.inl hA⟩,λj' hj _ hf=>h (kC (h3 j' hj).1 (h3 j' hj).2.1 hj hf)⟩
      ·exact fJ b k h
     refine⟨⟨λj hj=>?_,kL h2 hE.size,λj hj=>?_,λj hj b k hf=>?_⟩,λb k hf=>?_,rJ⟩
     ·obtain⟨a1,a2,a3⟩:=h1 j hj;refine⟨?_,λhm=>hM _ _ _ (a2 hm),λhm=>(hE.frozen h2).trans (a3 hm)⟩;rw[hval];refine hE.cell ?_ a1;by_cases hm:m=.own
      ·intro Ab;rcases hS _ _ Ab with h|h;·exact(fJ _ _ (kW h)).1 hm ⟨rfl,by omega,by omega⟩
       ·exact h ⟨hm,.inl ⟨rfl,by omega,by omega⟩⟩
      ·exact hZ _ _ _ (a2 hm)
     ·obtain⟨a1,a3,a4⟩:=h3 j hj;unfold bW;by_cases hij:j=q.2;·subst hij;simp only[cY];rw[hst] at a1 a3;exact⟨i3.cell a1,i3.fits _ a3,i1⟩
      ·simp only[aC hij];refine⟨a1,a3,gE hM _ (fG hE hZ _ (Ey _ (λb k hf=>kC a1 a3 hj hf) λb k hf jz=>?_) a4)⟩;exact(fJ b k jz).2 j hj (λe=>hij e.symm) hf
     ·unfold bW at hf⊢;by_cases hij:j=q.2;·subst hij;simp only[cY] at hf;refine⟨(k7 b k hf).1,λj' hj' hne=>?_⟩;rw[aC (λh=>hne h.symm)];exact(k7 b k hf).2 j' hj' hne
      ·simp only[aC hij] at hf;refine⟨(h4 j hj b k hf).1,λj' hj' hne=>?_⟩;by_cases hij':j'=q.2;·subst hij';simp only[cY];intro hf';exact(k7 b k hf').2 j hj (λe=>hij e.symm) hf
       ·rw[aC hij'];exact(h4 j hj b k hf).2 j' hj' hne
     ·rcases hf with ⟨hm,h|⟨j,hj,hf⟩⟩;·refine .inr ⟨⟨hm,.inl h⟩,λhd=>?_⟩;exact(fJ b k (kW hd)).1 hm h
      ·unfold bW at hf;by_cases hij:j=q.2
       ·subst hij;simp only[cY] at hf;rcases i2 b k hf with h|⟨h,hn⟩;·exact .inl h
        ·exact .inr ⟨⟨hm,.inr ⟨_,hj,by rw[hst];exact h⟩⟩,hn⟩
       ·simp only[aC hij] at hf;exact .inr ⟨⟨hm,.inr ⟨j,hj,hf⟩⟩,λhd=>(fJ b k (kW hd)).2 j hj (λe=>hij e.symm) hf⟩
    ·cases hst
   |agg n c=>
    simp only[step] at hst;split at hst
    ·rename_i hq;injection hst with hst
     obtain⟨h3,h4⟩:=hc;have fJ:∀b k,z.fp b k->∀j',j'<n->q.2≠j'->¬(c j').fp b k:=λb k h=>h4 q.2 hq.2 b k (by rw[hst];exact h)
     have k7:∀b k,z'.fp b k->∀j',j'<n->q.2≠j'->¬(c j').fp b k:=by
      intro b k h;rcases i2 b k h with h|⟨h,_⟩
      ·rcases hF b k h with h|h;·exact fJ b k (kW h)
       ·exact λj' hj _ hf=>h ⟨j',hj,hf⟩
      ·exact fJ b k h
     refine⟨⟨λj hj=>?_,λj hj b k hf=>?_⟩,λb k hf=>?_,rJ⟩
     ·obtain⟨a1,a4⟩:=h3 j hj;unfold bW;by_cases hij:j=q.2;·subst hij;simp only[cY];rw[hst] at a1;exact⟨i3.cell a1,i1⟩
      ·simp only[aC hij];refine⟨a1,gE hM _ (fG hE hZ _ (Ey _ (λb k hf=>⟨j,hj,hf⟩) λb k hf jz=>?_) a4)⟩;exact fJ b k jz j hj (λe=>hij e.symm) hf
     ·unfold bW at hf⊢;by_cases hij:j=q.2;·subst hij;simp only[cY] at hf;intro j' hj' hne;rw[aC (λh=>hne h.symm)];exact k7 b k hf j' hj' hne
      ·simp only[aC hij] at hf;intro j' hj' hne;by_cases hij':j'=q.2;·subst hij';simp only[cY];intro hf';exact k7 b k hf' j hj (λe=>hij e.symm) hf
       ·rw[aC hij'];exact h4 j hj b k hf j' hj' hne
     ·obtain⟨j,hj,hf⟩:=hf;unfold bW at hf;by_cases hij:j=q.2
      ·subst hij;simp only[cY] at hf;rcases i2 b k hf with h|⟨h,hn⟩;·exact .inl h
       ·exact .inr ⟨⟨_,hj,by rw[hst];exact h⟩,hn⟩
      ·simp only[aC hij] at hf;exact .inr ⟨⟨j,hj,hf⟩,λhd=>fJ b k (kW hd) j hj (λe=>hij e.symm) hf⟩
    ·cases hst
   |ak n c=>
    simp only[step] at hst;split at hst
    ·rename_i hq;injection hst with hst
     obtain⟨h3,h4⟩:=hc;have fJ:∀b k,z.fp b k->∀j',j'<n->q.2≠j'->¬(c j').fp b k:=λb k h=>h4 q.2 hq.2 b k (by rw[hst];exact h)
     have k7:∀b k,z'.fp b k->∀j',j'<n->q.2≠j'->¬(c j').fp b k:=by
      intro b k h;rcases i2 b k h with h|⟨h,_⟩
      ·rcases hF b k h with h|h;·exact fJ b k (kW h)
       ·exact λj' hj _ hf=>h ⟨j',hj,hf⟩
      ·exact fJ b k h
     refine⟨⟨λj hj=>?_,λj hj b k hf=>?_⟩,λb k hf=>?_,rJ⟩
     ·obtain⟨a1,a4⟩:=h3 j hj;unfold bW;by_cases hij:j=q.2;·subst hij;simp only[cY];rw[hst] at a1;exact⟨i3.fY a1,i1⟩
      ·simp only[aC hij];refine⟨a1,gE hM _ (fG hE hZ _ (Ey _ (λb k hf=>⟨j,hj,hf⟩) λb k hf jz=>?_) a4)⟩;exact fJ b k jz j hj (λe=>hij e.symm) hf
     ·unfold bW at hf⊢;by_cases hij:j=q.2;·subst hij;simp only[cY] at hf;intro j' hj' hne;rw[aC (λh=>hne h.symm)];exact k7 b k hf j' hj' hne
      ·simp only[aC hij] at hf;intro j' hj' hne;by_cases hij':j'=q.2;·subst hij';simp only[cY];intro hf';exact k7 b k hf' j hj (λe=>hij e.symm) hf
       ·rw[aC hij'];exact h4 j hj b k hf j' hj' hne
     ·obtain⟨j,hj,hf⟩:=hf;unfold bW at hf;by_cases hij:j=q.2
      ·subst hij;simp only[cY] at hf;rcases i2 b k hf with h|⟨h,hn⟩;·exact .inl h
       ·exact .inr ⟨⟨_,hj,by rw[hst];exact h⟩,hn⟩
      ·simp only[aC hij] at hf;exact .inr ⟨⟨j,hj,hf⟩,λhd=>fJ b k (kW hd) j hj (λe=>hij e.symm) hf⟩
    ·cases hst
   |_=>simp[step] at hst
end C
end M
namespace M
open Go Go.RowKit
namespace X
def xg(r:Nat)(p:Path){α:Type}(f:α->X):∀l:List α,gA r p (l.map f)=l.map λa=>(f a).kill r p
 |[]=>rfl
 |a::l=>by simp only[bn,gA,xg r p f l]
def BA(ks:List Nat){α:Type}(f:α->X):∀l:List α,nj ks (l.map f)=l.map λa=>(f a).only ks
 |[]=>rfl
 |a::l=>by simp only[bn,nj,BA ks f l]
end X
namespace C
variable {w w':World}{Z Z':Md->Nat->Nat->Prop}{S:Nat->Nat->Prop}
def aA(t:Nat->Path->Bool):C->C
 |.ref v s q=>bif t s q then .dead v else .ref v s q
 |.ax v s q i c=>bif t s q then .dead v else .ax v s q i c
 |.cut v s q lo hi=>bif t s q then .dead v else .cut v s q lo hi
 |.ptr m g o n c=>.ptr m g o n λj=>(c j).aA t
 |.agg n c=>.agg n λj=>(c j).aA t
 |.ak n c=>.ak n λj=>(c j).aA t
 |.fn f n c=>.fn f n λj=>(c j).aA t
 |c=>c
def bG(r:Nat)(p:Path):Nat->Path->Bool:=λs q=>s==r && X.pfx p q
def others(ks:List Nat):Nat->Path->Bool:=λs _=> !ks.contains s
def nV(r:Nat)(p:Path):∀c:C,(c.aA (bG r p)).er=c.er.kill r p
 |.ref v s q=>by simp only[aA,er,X.kill,bG];cases s==r && X.pfx p q<;>rfl
 |.ax v s q i c=>by simp only[aA,er,X.kill,bG];cases s==r && X.pfx p q<;>rfl
 |.cut v s q i c=>by simp only[aA,er,X.kill,bG];cases s==r && X.pfx p q<;>rfl
 |.ptr m g o n c=>by simp only[aA,er,X.kill,X.xg];congr 1;exact b7 λj _=>nV r p (c j)
 |.agg n c=>by simp only[aA,er,X.kill,X.xg];congr 1;exact b7 λj _=>nV r p (c j)
 |.ak n c=>by simp only[aA,er,X.kill,X.xg];congr 1;exact b7 λj _=>nV r p (c j)
 |.fn f n c=>by simp only[aA,er,X.kill,X.xg];congr 1;exact b7 λj _=>nV r p (c j)
 |.dead _=>by simp only[aA,er,X.kill]
 |.int _ _=>by simp only[aA,er,X.kill]
 |.bool _=>by simp only[aA,er,X.kill]
 |.str _=>by simp only[aA,er,X.kill]
 |.row _ _ _ _ _ _=>by simp only[aA,er,X.kill]
def BB(ks:List Nat):∀c:C,(c.aA (others ks)).er=c.er.only ks
 |.ref v s q=>by simp only[aA,er,X.only,others];cases ks.contains s<;>rfl
 |.ax v s q i c=>by simp only[aA,er,X.only,others];cases ks.contains s<;>rfl
 |.cut v s q i c=>by simp only[aA,er,X.only,others];cases ks.contains s<;>rfl
 |.ptr m g o n c=>by simp only[aA,er,X.only,X.BA];congr 1;exact b7 λj _=>BB ks (c j)
 |.agg n c=>by simp only[aA,er,X.only,X.BA];congr 1;exact b7 λj _=>BB ks (c j)
 |.ak n c=>by simp only[aA,er,X.only,X.BA];congr 1;exact b7 λj _=>BB ks (c j)
 |.fn f n c=>by simp only[aA,er,X.only,X.BA];congr 1;exact b7 λj _=>BB ks (c j)
 |.dead _=>by simp only[aA,er,X.only]
 |.int _ _=>by simp only[aA,er,X.only]
 |.bool _=>by simp only[aA,er,X.only]
 |.str _=>by simp only[aA,er,X.only]
 |.row _ _ _ _ _ _=>by simp only[aA,er,X.only]
section
variable (t:Nat->Path->Bool)
def jh:∀c:C,(c.aA t).val=c.val
 |.ref v s q=>by simp only[aA];cases t s q<;>rfl
 |.ax v s q i c=>by simp only[aA];cases t s q<;>rfl
 |.cut v s q i c=>by simp only[aA];cases t s q<;>rfl
 |.ptr m g o n c=>rfl
 |.agg n c=>by simp only[aA,val];congr 2;exact b7 λj _=>jh (c j)
 |.ak n c=>by simp only[aA,val];congr 2;exact b7 λj _=>jh (c j)
 |.fn f n c=>by simp only[aA,val];congr 2;exact b7 λj _=>jh (c j)
 |.dead _=>rfl
 |.int _ _=>rfl
 |.bool _=>rfl
 |.str _=>rfl
 |.row _ _ _ _ _ _=>rfl
def cG:∀(c:C) (b k:Nat),(c.aA t).fp b k↔c.fp b k
 |.ref v s q,b,k=>by simp only[aA];cases t s q<;>exact j8
 |.ax v s q i c,b,k=>by simp only[aA];cases t s q<;>exact j8
 |.cut v s q i c,b,k=>by simp only[aA];cases t s q<;>exact j8
 |.ptr m g o n c,b,k=>Ij λ_=>or_congr_right (NJ λj=>Ij λ_=>cG (c j) b k)
 |.agg n c,b,k=>NJ λj=>Ij λ_=>cG (c j) b k
 |.ak n c,b,k=>NJ λj=>Ij λ_=>cG (c j) b k
 |.fn f n c,b,k=>j8
 |.dead _,_,_=>j8
 |.int _ _,_,_=>j8
 |.bool _,_,_=>j8
 |.str _,_,_=>j8
 |.row _ _ _ _ _ _,_,_=>j8
def FM(c:C)(h:c.cell):(c.aA t).cell:=by
 cases c with
 |ref v s q=>simp only[aA];cases t s q<;>exact h
 |ax v s q i c=>simp only[aA];cases t s q<;>exact h
 |cut v s q i c=>simp only[aA];cases t s q<;>exact h
 |agg=>exact h.elim
 |ak=>exact h.elim
 |_=>exact h
def aeS(c:C)(h:c.fY):(c.aA t).fY:=by
 cases c with
 |ref v s q=>simp only[aA];cases t s q<;>exact h
 |ax v s q i c=>simp only[aA];cases t s q<;>exact h
 |cut v s q i c=>simp only[aA];cases t s q<;>exact h
 |ak=>exact h.elim
 |_=>exact h
def aeR(m:Md)(c:C)(h:c.fits m):(c.aA t).fits m:=by
 cases c with
 |ref v s q=>simp only[aA];cases t s q<;>trivial
 |ax v s q i c=>simp only[aA];cases t s q<;>trivial
 |cut v s q i c=>simp only[aA];cases t s q<;>trivial
 |_=>exact h
def xF(c:C)(h:c.cO):c.aA t=c:=by
 cases c with
 |ref v s q=>exact h.elim
 |ax v s q i c=>exact h.elim
 |cut v s q i c=>exact h.elim
 |ptr=>exact h.elim
 |agg=>exact h.elim
 |ak=>exact h.elim
 |fn=>exact h.elim
 |_=>rfl
def l5:∀c:C,c.ok w Z->(c.aA t).ok w Z
 |.ref v s q,h=>by simp only[aA];cases t s q<;>trivial
 |.ax v s q i c,h=>by simp only[aA];cases t s q<;>trivial
 |.cut v s q i c,h=>by simp only[aA];cases t s q<;>trivial
 |.ptr m g o n c,h=>by
  obtain⟨h1,h2,h3,h4⟩:=h;refine⟨λj hj=>?_,h2,λj hj=>⟨FM t _ (h3 j hj).1,aeR t _ _ (h3 j hj).2.1,l5 (c j) (h3 j hj).2.2⟩,λj hj b k hf=>?_⟩;·rw[jh];exact h1 j hj
  ·rw[cG] at hf;exact⟨(h4 j hj b k hf).1,λj' hj' hne=>by rw[cG];exact(h4 j hj b k hf).2 j' hj' hne⟩
 |.agg n c,h=>⟨λj hj=>⟨FM t _ (h.1 j hj).1,l5 (c j) (h.1 j hj).2⟩,λj hj b k hf j' hj' hne=>by rw[cG] at hf⊢;exact h.2 j hj b k hf j' hj' hne⟩
 |.ak n c,h=>⟨λj hj=>⟨aeS t _ (h.1 j hj).1,l5 (c j) (h.1 j hj).2⟩,λj hj b k hf j' hj' hne=>by rw[cG] at hf⊢;exact h.2 j hj b k hf j' hj' hne⟩
 |.fn f n c,h=>λj hj=>⟨l5 (c j) (h j hj).1,λb k hf=>by rw[cG] at hf;exact(h j hj).2 b k hf⟩
 |.dead _,h=>h
 |.int _ _,h=>h
 |.bool _,h=>h
 |.str _,h=>h
 |.row _ _ _ _ _ _,h=>h
def jg:∀(q:Path) (c y:C),c.ok w Z->c.sub q=some y->(c.aA t).sub q=some (y.aA t)
 |[],c,y,ho,h=>by simp only[sub] at h⊢;injection h with h;rw[h]
 |q::p,c,y,ho,h=>by
  simp only[sub] at h⊢;cases hs:c.step q with
  |none=>rw[hs] at h;cases h
  |some z=>
   rw[hs] at h;have hz:(z.aA t).sub p=some (y.aA t):=jg p z y (vw hs ho) h;suffices hst:(c.aA t).step q=some (z.aA t) by rw[hst];exact hz
   cases c with
   |row m sz A len cap e=>
    simp only[step] at hs;split at hs
    ·rename_i hq;injection hs with hs
     have:=xF t z (by rw[<-hs];exact(ho.2.2.1 _ _ hq.1 hq.2).2.1);simp only[aA,step,au hq,hs,this]
    ·cases hs
   |ptr m g o n c=>
    simp only[step] at hs;split at hs
    ·rename_i hq;injection hs with hs
     simp only[aA,step,au hq,hs]
    ·cases hs
   |agg n c=>
    simp only[step] at hs;split at hs
    ·rename_i hq;injection hs with hs
     simp only[aA,step,au hq,hs]
    ·cases hs
   |ak n c=>
    simp only[step] at hs;split at hs
    ·rename_i hq;injection hs with hs
     simp only[aA,step,au hq,hs]
    ·cases hs
   |_=>simp[step] at hs
end
inductive gm:C->C->Prop where
 |row (m m':Md) (sz:Nat) (A:Option Ad) (len cap:Nat) (e e':Nat->Nat->C):gm (.row m sz A len cap e) (.row m' sz A len cap e')
 |ptr (m m':Md) (g o n:Nat) (c c':Nat->C):gm (.ptr m g o n c) (.ptr m' g o n c')
def gm.off(t:Nat->Path->Bool){y z:C}(h:gm y z):gm y (z.aA t):=by
 cases h with
 |row=>exact .row ..
 |ptr=>exact .ptr ..
def gm.trans{x y z:C}(h:gm x y)(h':gm y z):gm x z:=by cases h<;>cases h'<;>constructor
def free(t:Nat->Path->Bool):C->Prop
 |.ref _ s q=>t s q=false
 |.ax _ s q _ _=>t s q=false
 |.cut _ s q _ _=>t s q=false
 |.ptr _ _ _ n c=>∀j,j<n->(c j).free t
 |.agg n c=>∀j,j<n->(c j).free t
 |.ak n c=>∀j,j<n->(c j).free t
 |.fn _ n c=>∀j,j<n->(c j).free t
 |_=>True
def gD(t:Nat->Path->Bool):∀c:C,(c.aA t).free t
 |.ref v s q=>by simp only[aA];cases h:t s q<;>simp[free,h]
 |.ax v s q i c=>by simp only[aA];cases h:t s q<;>simp[free,h]
 |.cut v s q i c=>by simp only[aA];cases h:t s q<;>simp[free,h]
 |.ptr m g o n c=>λj _=>gD t (c j)
 |.agg n c=>λj _=>gD t (c j)
 |.ak n c=>λj _=>gD t (c j)
 |.fn f n c=>λj _=>gD t (c j)
 |.dead _=>trivial
 |.int _ _=>trivial
 |.bool _=>trivial
 |.str _=>trivial
 |.row _ _ _ _ _ _=>trivial
def rf(G:Nat->C):C->Prop
 |.ref v s p=>∃y z,(G s).sub p=some y/\gm z y/\y.val=v/\∃m sz A len cap e,z=.row m sz A len cap e
 |.ax v s p i c=>∃y,(G s).sub p=some y/\((∃m sz g o len cap e,y=.row m sz (some (g,o,none)) len cap e/\v=.pointer (some ⟨g,o+i*sz+c,none⟩))\/∃m g o n cc,y=.ptr m g o n cc/\i=0/\v=.pointer (some ⟨g,o+c,none⟩))
 |.cut v s p lo hi=>∃m sz A len cap e A' cap',(G s).sub p=some (.row m sz A len cap e)/\v=.slice (Option.map (λq:Ad=>⟨q.1,q.2.1,q.2.2⟩) A') (hi - lo) cap'/\lo<=hi/\hi<=len/\hi - lo<=cap'/\(lo<hi->A'=A.map λq=>jq (lo*sz) q)/\lo+cap'=cap/\((A'=A/\cap'=0)\/A'=A.map λq=>jq (lo*sz) q)
 |.ptr _ _ _ n c=>∀j,j<n->(c j).rf G
 |.agg n c=>∀j,j<n->(c j).rf G
 |.ak n c=>∀j,j<n->(c j).rf G
 |.fn _ n c=>∀j,j<n->(c j).rf G
 |_=>True
def lu{G G':Nat->C}(t:Nat->Path->Bool)(h:∀s q y,t s q=false->(G s).sub q=some y->(∃z,gm y z/\(G' s).sub q=some z)\/∀z,¬gm z y):∀c:C,c.free t->c.rf G->c.rf G'
 |.ref v s p,hf,hr=>by
  obtain⟨y,z,hs,hF,hv,m,sz,A,len,cap,e,rfl⟩:=hr;rcases h s p y hf hs with ⟨z',fE,hs'⟩|hno;·refine⟨z',_,hs',hF.trans fE,?_,m,sz,A,len,cap,e,rfl⟩;cases hF;cases fE;exact hv
  ·exact(hno _ hF).elim
 |.ax v s p i c,hf,hr=>by
  obtain⟨y,hs,hy⟩:=hr;rcases h s p y hf hs with ⟨z',fE,hs'⟩|hno
  ·refine⟨z',hs',?_⟩;rcases hy with ⟨m,sz,g,o,len,cap,e,rfl,hv⟩|⟨m,g,o,n,cc,rfl,hv⟩;·cases fE;exact .inl ⟨_,_,_,_,_,_,_,rfl,hv⟩
   ·cases fE;exact .inr ⟨_,_,_,_,_,rfl,hv⟩
  ·rcases hy with ⟨m,sz,g,o,len,cap,e,rfl,hv⟩|⟨m,g,o,n,cc,rfl,hv⟩;·exact(hno _ (.row m m sz (some (g,o,none)) len cap e e)).elim
   ·exact(hno _ (.ptr m m g o n cc cc)).elim
 |.cut v s p lo hi,hf,hr=>by
  obtain⟨m,sz,A,len,cap,e,A',cap',hs,hv⟩:=hr;rcases h s p _ hf hs with ⟨z',fE,hs'⟩|hno;·cases fE;exact⟨_,_,_,_,_,_,A',cap',hs',hv⟩
  ·exact(hno _ (.row m m sz A len cap e e)).elim
 |.ptr m g o n c,hf,hr=>λj hj=>lu t h (c j) (hf j hj) (hr j hj)
 |.agg n c,hf,hr=>λj hj=>lu t h (c j) (hf j hj) (hr j hj)
 |.ak n c,hf,hr=>λj hj=>lu t h (c j) (hf j hj) (hr j hj)
 |.fn f n c,hf,hr=>λj hj=>lu t h (c j) (hf j hj) (hr j hj)
 |.dead _,_,_=>trivial
 |.int _ _,_,_=>trivial
 |.bool _,_,_=>trivial
 |.str _,_,_=>trivial
 |.row _ _ _ _ _ _,_,_=>trivial
def nh{G:Nat->C}(t:Nat->Path->Bool):∀c:C,c.rf G->(c.aA t).rf G
 |.ref v s q,h=>by simp only[aA];cases t s q<;>first|exact h|trivial
 |.ax v s q i c,h=>by simp only[aA];cases t s q<;>first|exact h|trivial
 |.cut v s q i c,h=>by simp only[aA];cases t s q<;>first|exact h|trivial
 |.ptr m g o n c,h=>λj hj=>nh t (c j) (h j hj)
 |.agg n c,h=>λj hj=>nh t (c j) (h j hj)
 |.ak n c,h=>λj hj=>nh t (c j) (h j hj)
 |.fn f n c,h=>λj hj=>nh t (c j) (h j hj)
 |.dead _,_=>trivial
 |.int _ _,_=>trivial
 |.bool _,_=>trivial
 |.str _,_=>trivial
 |.row _ _ _ _ _ _,_=>trivial
def self(y z:C)(t:Path)(h:z.sub t=some y):(∃z',gm y z'/\z.sub t=some z')\/∀z,¬gm z y:=by
 cases y with
 |row m sz A len cap e=>exact .inl ⟨_,.row m m sz A len cap e e,h⟩
 |ptr m g o n c=>exact .inl ⟨_,.ptr m m g o n c c,h⟩
 |_=>exact .inr λz hz=>by cases hz
def HA:∀(p q:Path) (c d' y:C),X.pfx p q=false->c.sub q=some y->(∃z,gm y z/\(putAt p c d').sub q=some z)\/∀z,¬gm z y
 |[],q,c,d',y,h,hs=>by simp[X.pfx] at h
 |r::p,[],c,d',y,h,hs=>by
  simp only[sub] at hs;injection hs with hs
  subst hs;simp only[putAt,sub];cases hst:c.step r with
  |none=>
   cases c with
   |row m sz A len cap e=>exact .inl ⟨_,.row m m sz A len cap e _,rfl⟩
   |ptr m g o n c=>exact .inl ⟨_,.ptr m m g o n c _,rfl⟩
   |_=>exact .inr λz hz=>by cases hz
  |some z=>
   cases c with
   |row m sz A len cap e=>exact .inl ⟨_,.row m m sz A len cap e _,rfl⟩
   |ptr m g o n c=>exact .inl ⟨_,.ptr m m g o n c _,rfl⟩
   |_=>exact .inr λz hz=>by cases hz
 |r::p,q::t,c,d',y,h,hs=>by
  simp only[sub] at hs⊢;cases cA:c.step q with
  |none=>rw[cA] at hs;cases hs
  |some z=>
   rw[cA] at hs;have hs':z.sub t=some y:=hs;simp only[putAt];cases kY:c.step r with
   |none=>simp only[cA];exact self y z t hs'
   |some z0=>
    simp only;by_cases EK:r.1=q.1/\r.2=q.2
    ·have ac0:r=q:=by cases r;cases q;simp only at EK;rw[EK.1,EK.2]
     subst ac0;rw[cA] at kY;injection kY with kY
     subst kY;have hp:X.pfx p t=false:=by simpa [X.pfx] using h
     have:(c.aW r (putAt p z d')).step r=some (putAt p z d'):=by
      cases c with
      |row m sz A len cap e=>
       simp only[step] at cA;split at cA;·rename_i hq;simp[aW,step,hq]
       ·cases cA
      |ptr m g o n c=>
       simp only[step] at cA;split at cA;·rename_i hq;simp[aW,step,hq,bW]
       ·cases cA
      |agg n c=>
       simp only[step] at cA;split at cA;·rename_i hq;simp[aW,step,hq,bW]
       ·cases cA
      |ak n c=>
       simp only[step] at cA;split at cA;·rename_i hq;simp[aW,step,hq,bW]
       ·cases cA
      |_=>simp[step] at cA
     rw[this];exact HA p t z d' y hp hs'
    ·by_cases h2:r.2=q.2
     ·have h1:r.1≠q.1:=λe=>EK ⟨e,h2⟩;cases c with
      |row m sz A len cap e=>
       simp only[step] at cA;split at cA
       ·rename_i hq;have:((C.row m sz A len cap e).aW r (putAt p z0 d')).step q=some z:=by simp only[aW,step,au hq];rw[aC (λe=>h1 e.1.symm)];exact cA
        rw[this];exact self y z t hs'
       ·cases cA
      |ptr m g o n c=>
       simp only[step] at cA kY;split at cA
       ·split at kY;·rename_i hq hr;exact(h1 (hr.1.trans hq.1.symm)).elim
        ·cases kY
       ·cases cA
      |agg n c=>
       simp only[step] at cA kY;split at cA
       ·split at kY;·rename_i hq hr;exact(h1 (hr.1.trans hq.1.symm)).elim
        ·cases kY
       ·cases cA
      |ak n c=>
       simp only[step] at cA kY;split at cA
       ·split at kY;·rename_i hq hr;exact(h1 (hr.1.trans hq.1.symm)).elim
        ·cases kY
       ·cases cA
      |_=>simp[step] at cA
     ·have:(c.aW r (putAt p z0 d')).step q=some z:=by
       cases c with
       |row m sz A len cap e=>
        simp only[step] at cA;split at cA;·rename_i hq;simp only[aW,step,au hq];rw[aC (λe=>h2 e.2.symm)];exact cA
        ·cases cA
       |ptr m g o n c=>
        simp only[step] at cA;split at cA;·rename_i hq;simp only[aW,step,au hq,bW];rw[aC (λe=>h2 e.symm)];exact cA
        ·cases cA
       |agg n c=>
        simp only[step] at cA;split at cA;·rename_i hq;simp only[aW,step,au hq,bW];rw[aC (λe=>h2 e.symm)];exact cA
        ·cases cA
       |ak n c=>
        simp only[step] at cA;split at cA;·rename_i hq;simp only[aW,step,au hq,bW];rw[aC (λe=>h2 e.symm)];exact cA
        ·cases cA
       |_=>simp[step] at cA
      rw[this];exact self y z t hs'
end C
end M
namespace M
open Go Go.RowKit
def QE(r:Nat)(p:Path)(t:Nat):∀s:ah,get (rV r p s) t=(get s t).kill r p
 |[]=>rfl
 |(k,v)::s=>by
  simp only[rV,get];cases k==t with
  |true=>rfl
  |false=>exact QE r p t s
def wG(k:Nat)(v:X)(s:ah)(t:Nat):get ((k,v)::s) t=if t=k then v else get s t:=by
 simp only[get];by_cases h:t=k;·subst h;simp
 ·have:(k==t)=false:=by simpa using λe=>h e.symm
  rw[this,aC h];rfl
structure Inv (w:World) (zl zb:Nat->Nat->Prop) (G:Nat->C) (s:ah):Prop where
 er:∀t,(G t).er=get s t
 ok:∀t,(G t).ok w (Zf zl zb)
 sep:∀t u,t≠u->∀b k,(G t).fp b k->¬(G u).fp b k
 fz:∀t b k,(G t).fp b k->¬zl b k/\¬zb b k
 rf:∀t,(G t).rf G
 cB:∀b k,zl b k\/zb b k->b<w.heap.size
def IJ{zl zb:Nat->Nat->Prop}{n:Nat}(h:∀b k,zl b k\/zb b k->b<n):∀m b k,Zf zl zb m b k->b<n
 |.own,b,k,hz=>hz.elim
 |.sl,b,k,hz=>h b k (.inl hz)
 |.af,b,k,hz=>h b k hz
namespace Inv
variable {w w':World}{zl zb:Nat->Nat->Prop}{G:Nat->C}{s:ah}
def zc(h:Inv w zl zb G s)(t:Nat):∀m b k,Zf zl zb m b k->¬(G t).fp b k
 |.own,b,k,hz=>hz.elim
 |.sl,b,k,hz=>λhf=>(h.fz t b k hf).1 hz
 |.af,b,k,hz=>λhf=>by
  rcases hz with hz|hz;·exact(h.fz t b k hf).1 hz
  ·exact(h.fz t b k hf).2 hz
def off(h:Inv w zl zb G s)(f:Nat->Path->Bool){s':ah}(hs:∀t,((G t).aA f).er=get s' t):Inv w zl zb (λt=>(G t).aA f) s' where
 er:=hs
 ok:=λt=>C.l5 f _ (h.ok t)
 sep:=λt u hne b k hf=>by rw[C.cG] at hf⊢;exact h.sep t u hne b k hf
 fz:=λt b k hf=>by rw[C.cG] at hf;exact h.fz t b k hf
 rf:=λt=>C.lu f (λs' q y hf hs=>by
   rcases C.self y _ q hs with ⟨z,hz,Aq⟩|hno;·exact .inl ⟨_,hz.off f,C.jg f q _ _ (h.ok s') Aq⟩
   ·exact .inr hno) _ (C.gD f _) (C.nh f _ (h.rf t))
 cB:=h.cB
def kill(h:Inv w zl zb G s)(r:Nat)(p:Path):Inv w zl zb (λt=>(G t).aA (C.bG r p)) (rV r p s):=
 h.off _ λt=>by rw[C.nV,QE,h.er]
def world(h:Inv w zl zb G s){S:Nat->Nat->Prop}(hE:Ext S w w')(hS:∀b k,S b k->w.heap.size<=b):Inv w' zl zb G s where
 er:=h.er
 ok:=λt=>C.fG hE (λm b k hz hs=>by have:=IJ h.cB m b k hz;have:=hS b k hs;omega) _ (λb k hf hs=>by have:=C.fC _ (h.ok t) b k hf;have:=hS b k hs;omega) (h.ok t)
 sep:=h.sep
 fz:=h.fz
 rf:=h.rf
 cB:=λb k hz=>kL (h.cB b k hz) hE.size
def yO(h:Inv w zl zb G s){d:Nat}(hd:(get s d).iL=false):∀c:C,c.rf G->c.free (C.bG d [])
 |.ref v r p,hr=>by
  obtain⟨y,z,hs,hF,_⟩:=hr;simp only[C.free,C.bG,X.pfx,NF];by_cases e:r=d;·subst e;exact(no h hd hs (by cases hF<;>rfl)).elim
  ·simpa using e
 |.ax v r p i c,hr=>by
  obtain⟨y,hs,hy⟩:=hr;simp only[C.free,C.bG,X.pfx,NF];by_cases e:r=d;·subst e;refine(no h hd hs ?_).elim;rcases hy with ⟨m,sz,g,o,len,cap,e,rfl,hv⟩|⟨m,g,o,n,cc,rfl,hv⟩<;>rfl
  ·simpa using e
 |.cut v r p lo hi,hr=>by
  obtain⟨m,sz,A,len,cap,e,A',cap',hs,_⟩:=hr;simp only[C.free,C.bG,X.pfx,NF];by_cases e:r=d;·subst e;exact(no h hd hs rfl).elim
  ·simpa using e
 |.ptr m g o n c,hr=>λj hj=>yO h hd (c j) (hr j hj)
 |.agg n c,hr=>λj hj=>yO h hd (c j) (hr j hj)
 |.ak n c,hr=>λj hj=>yO h hd (c j) (hr j hj)
 |.fn f n c,hr=>λj hj=>yO h hd (c j) (hr j hj)
 |.dead _,_=>trivial
 |.int _ _,_=>trivial
 |.bool _,_=>trivial
 |.str _,_=>trivial
 |.row _ _ _ _ _ _,_=>trivial
where
 no {r:Nat} {p:Path} {y:C} (h:Inv w zl zb G s) (hd:(get s r).iL=false) (hs:(G r).sub p=some y) (hy:y.er.iL=true):False:=by
  rw[<-h.er] at hd
  cases p with
  |nil=>
   simp only[C.sub] at hs
   injection hs with hs
   rw[hs,hy] at hd
   cases hd
  |cons q p=>
   simp only[C.sub] at hs
   cases hc:G r with
   |row=>rw[hc] at hd;simp[C.er,X.iL] at hd
   |ptr=>rw[hc] at hd;simp[C.er,X.iL] at hd
   |agg=>rw[hc] at hd;simp[C.er,X.iL] at hd
   |ak=>rw[hc] at hd;simp[C.er,X.iL] at hd
   |_=>rw[hc] at hs;simp[C.step] at hs
end Inv
def fH(G:Nat->C)(d:Nat)(c:C):Nat->C:=λt=>if t=d then c else G t
def dD(G:Nat->C)(d:Nat)(c:C):fH G d c d=c:=by simp[fH]
def cX(G:Nat->C){d t:Nat}(c:C)(h:t≠d):fH G d c t=G t:=by simp[fH,h]
namespace Inv
variable {w w':World}{zl zb:Nat->Nat->Prop}{G:Nat->C}{s:ah}
def S1(h:Inv w zl zb G s)(d:Nat)(c:C)(hfree:∀t,t≠d->(G t).free (C.bG d []))(hok:c.ok w (Zf zl zb))(hsep:∀t,t≠d->∀b k,c.fp b k->¬(G t).fp b k)
  (hfz:∀b k,c.fp b k->¬zl b k/\¬zb b k)(hrf:c.rf G)(ja:c.free (C.bG d [])):Inv w zl zb (fH G d c) ((d,c.er)::s) where
 er:=λt=>by
  rw[wG];by_cases e:t=d;·subst e;rw[dD,au rfl]
  ·rw[cX _ _ e,aC e];exact h.er t
 ok:=λt=>by
  by_cases e:t=d;·subst e;rw[dD];exact hok
  ·rw[cX _ _ e];exact h.ok t
 sep:=λt u hne b k hf=>by
  by_cases e:t=d;·subst e;rw[dD] at hf;rw[cX _ _ (λe=>hne e.symm)];exact hsep u (λe=>hne e.symm) b k hf
  ·rw[cX _ _ e] at hf;by_cases e':u=d;·subst e';rw[dD];exact λhc=>hsep t e b k hc hf
   ·rw[cX _ _ e'];exact h.sep t u hne b k hf
 fz:=λt b k hf=>by
  by_cases e:t=d;·subst e;rw[dD] at hf;exact hfz b k hf
  ·rw[cX _ _ e] at hf;exact h.fz t b k hf
 rf:=λt=>by
  have key:∀c':C,c'.free (C.bG d [])->c'.rf G->c'.rf (fH G d c):=λc' hf hr=>C.lu (C.bG d []) (λs' q y hk hs=>by
   have hne:s'≠d:=by intro e;subst e;simp[C.bG,X.pfx] at hk
   rw[cX _ _ hne];exact C.self y _ q hs) c' hf hr
  by_cases e:t=d;·subst e;rw[dD];exact key c ja hrf
  ·rw[cX _ _ e];exact key _ (hfree t e) (h.rf t)
 cB:=h.cB
def put(h:Inv w zl zb G s)(d:Nat)(c:C)(hok:c.ok w (Zf zl zb))(hsep:∀t,t≠d->∀b k,c.fp b k->¬(G t).fp b k)
  (hfz:∀b k,c.fp b k->¬zl b k/\¬zb b k)(hrf:c.rf G):
  ∃G',Inv w zl zb G' (M.put d c.er s)/\(G' d).val=c.val/\(∀t,t≠d->(G' t).val=(G t).val)/\(∀b k,(G' d).fp b k->c.fp b k)/\∀t,t≠d->∀b k,(G' t).fp b k->(G t).fp b k:=by
 unfold M.put;cases hr:(get s d).iL with
 |false=>refine⟨fH G d c,h.S1 d c (λt _=>h.yO hr _ (h.rf t)) hok hsep hfz hrf (h.yO hr _ hrf),by rw[dD],λt e=>by rw[cX _ _ e],λb k hf=>by rwa [dD] at hf,λt e b k hf=>by rwa [cX _ _ e] at hf⟩
 |true=>
  have h1:=h.kill d []
  have hc:(c.aA (C.bG d [])).rf λt=>(G t).aA (C.bG d []):=C.lu (C.bG d []) (λs' q y hf hs=>by
   rcases C.self y _ q hs with ⟨z,hz,Aq⟩|hno;·exact .inl ⟨_,hz.off _,C.jg _ q _ _ (h.ok s') Aq⟩
   ·exact .inr hno) _ (C.gD _ _) (C.nh _ _ hrf)
  have h2:=h1.S1 d (c.aA (C.bG d [])) (λt _=>C.gD _ _) (C.l5 _ _ hok) (λt e b k hf=>by rw[C.cG] at hf⊢;exact hsep t e b k hf) (λb k hf=>by rw[C.cG] at hf;exact hfz b k hf) hc (C.gD _ _);rw[C.nV] at h2;refine⟨_,h2,by rw[dD,C.jh],λt e=>by rw[cX _ _ e,C.jh],λb k hf=>by rw[dD,C.cG] at hf;exact hf,λt e b k hf=>by rw[cX _ _ e,C.cG] at hf;exact hf⟩
def Hp(h:Inv w zl zb G s)(r:Nat)(p q:Path)(d d' y:C){S:Nat->Nat->Prop}(hq:C.putAt q (G r) y=C.putAt p (G r) d')(hfree:∀t,(G t).free (C.bG r q))(hE:Ext S w w')(hsub:(G r).sub p=some d)
  (hS:∀b k,S b k->d.fp b k\/w.heap.size<=b)(hok:d'.ok w' (Zf zl zb))(hl:C.hU d d')(hrf:y.rf G)(hdf:y.free (C.bG r q))
  (cr:∀b k,d'.fp b k->d.fp b k\/((∀t,¬(G t).fp b k)/\¬zl b k/\¬zb b k)):
  (Inv w' zl zb (fH G r (C.putAt p (G r) d')) ((r,X.putAt q (get s r) y.er)::s)/\(∀t,(fH G r (C.putAt p (G r) d') t).val=(G t).val)/\
   ∀t b k,(fH G r (C.putAt p (G r) d') t).fp b k->(t=r/\d'.fp b k)\/(G t).fp b k)/\∀c':C,c'.free (C.bG r q)->c'.rf G->c'.rf (fH G r (C.putAt p (G r) d')):=by
 have aZ:∀{b k},d.fp b k->(G r).fp b k:=λhf=>C.gH p hsub (h.ok r) hf
 have hZ:∀m b k,Zf zl zb m b k->¬S b k:=λm b k hz hs=>by
  rcases hS b k hs with hs|hs;·exact h.zc r m b k hz (aZ hs)
  ·have:=IJ h.cB m b k hz;omega
 obtain⟨i1,i2,i3⟩:=C.Bz (λ_ _ _ h=>h) hE hZ p (G r) d d' (h.ok r) hsub hok hl (λb k hs=>(hS b k hs).imp id λhb hf=>by have:=C.fC _ (h.ok r) b k hf;omega) (λb k hf=>(cr b k hf).imp id λhn=>hn.1 r);have Ke:∀b k,(C.putAt p (G r) d').fp b k->d'.fp b k\/(G r).fp b k:=λb k hf=>(i2 b k hf).imp id λhh=>hh.1
 have hr':∀t,t≠r->∀b k,(C.putAt p (G r) d').fp b k->¬(G t).fp b k:=λt e b k hf=>by
  rcases Ke b k hf with hf|hf
  ·rcases cr b k hf with hf|hf;·exact h.sep r t (λe'=>e e'.symm) b k (aZ hf)
   ·exact hf.1 t
  ·exact h.sep r t (λe'=>e e'.symm) b k hf
 have key:∀c':C,c'.free (C.bG r q)->c'.rf G->c'.rf (fH G r (C.putAt p (G r) d')):=λc' hf hr=>C.lu (C.bG r q) (λs' q' y' hk hs=>by
  by_cases e:s'=r;·subst e;rw[dD,<-hq];exact C.HA q q' (G s') y y' (by simpa [C.bG] using hk) hs
  ·rw[cX _ _ e];exact C.self y' _ q' hs) c' hf hr
 refine⟨⟨⟨λt=>?_,λt=>?_,λt u hne b k hf=>?_,λt b k hf=>?_,λt=>?_,λb k hz=>kL (h.cB b k hz) hE.size⟩,λt=>?_,λt b k hf=>?_⟩,key⟩
 ·rw[wG];by_cases e:t=r;·subst e;rw[dD,au rfl,<-hq,C.Lx,h.er]
  ·rw[cX _ _ e,aC e];exact h.er t
 ·by_cases e:t=r;·subst e;rw[dD];exact i1
  ·rw[cX _ _ e];refine C.fG hE hZ _ (λb k hf hs=>?_) (h.ok t);rcases hS b k hs with hs|hs;·exact h.sep t r e b k hf (aZ hs)
   ·have:=C.fC _ (h.ok t) b k hf;omega
 ·by_cases e:t=r;·subst e;rw[dD] at hf;rw[cX _ _ (λe=>hne e.symm)];exact hr' u (λe=>hne e.symm) b k hf
  ·rw[cX _ _ e] at hf;by_cases e':u=r;·subst e';rw[dD];exact λhc=>hr' t e b k hc hf
   ·rw[cX _ _ e'];exact h.sep t u hne b k hf
 ·by_cases e:t=r
  ·subst e;rw[dD] at hf;rcases Ke b k hf with hf|hf
   ·rcases cr b k hf with hf|hf;·exact h.fz t b k (aZ hf)
    ·exact hf.2
   ·exact h.fz t b k hf
  ·rw[cX _ _ e] at hf;exact h.fz t b k hf
 ·by_cases e:t=r
  ·subst e;rw[dD]
   have inner:∀(p':Path) (c':C),c'.free (C.bG t q)->c'.rf G->(C.putAt p' c' y).rf (fH G t (C.putAt p (G t) d')):=by
    intro p';induction p' with
    |nil=>intro c' _ _;exact key y hdf hrf
    |cons x p' ih=>
     intro c' ja jS;simp only[C.putAt];cases hst:c'.step x with
     |none=>exact key c' ja jS
     |some z=>
      cases c' with
      |row m sz A len cap e=>trivial
      |ptr m g o n c=>
       simp only[C.step] at hst;split at hst
       ·rename_i hq;injection hst with hst
        intro j hj;simp only[C.bW];split;·exact ih z (by rw[<-hst];exact ja _ hq.2) (by rw[<-hst];exact jS _ hq.2)
        ·exact key _ (ja j hj) (jS j hj)
       ·cases hst
      |agg n c=>
       simp only[C.step] at hst;split at hst
       ·rename_i hq;injection hst with hst
        intro j hj;simp only[C.bW];split;·exact ih z (by rw[<-hst];exact ja _ hq.2) (by rw[<-hst];exact jS _ hq.2)
        ·exact key _ (ja j hj) (jS j hj)
       ·cases hst
      |ak n c=>
       simp only[C.step] at hst;split at hst
       ·rename_i hq;injection hst with hst
        intro j hj;simp only[C.bW];split;·exact ih z (by rw[<-hst];exact ja _ hq.2) (by rw[<-hst];exact jS _ hq.2)
        ·exact key _ (ja j hj) (jS j hj)
       ·cases hst
      |_=>simp[C.step] at hst
   rw[<-hq] at*;exact inner q (G t) (hfree t) (h.rf t)
  ·rw[cX _ _ e];exact key _ (hfree t) (h.rf t)
 ·by_cases e:t=r;·subst e;rw[dD];exact i3.val
  ·rw[cX _ _ e]
 ·by_cases e:t=r;·subst e;rw[dD] at hf;exact(Ke b k hf).imp (λhh=>⟨rfl,hh⟩) id
  ·rw[cX _ _ e] at hf;exact .inr hf
def Tw(h:Inv w zl zb G s)(r:Nat)(p:Path)(d d':C){S:Nat->Nat->Prop}(hfree:∀t,(G t).free (C.bG r p))(hE:Ext S w w')(hsub:(G r).sub p=some d)
  (hS:∀b k,S b k->d.fp b k\/w.heap.size<=b)(hok:d'.ok w' (Zf zl zb))(hl:C.hU d d')(hrf:d'.rf G)(hdf:d'.free (C.bG r p))
  (cr:∀b k,d'.fp b k->d.fp b k\/((∀t,¬(G t).fp b k)/\¬zl b k/\¬zb b k)):
  (Inv w' zl zb (fH G r (C.putAt p (G r) d')) ((r,X.putAt p (get s r) d'.er)::s)/\(∀t,(fH G r (C.putAt p (G r) d') t).val=(G t).val)/\
   ∀t b k,(fH G r (C.putAt p (G r) d') t).fp b k->(t=r/\d'.fp b k)\/(G t).fp b k)/\∀c':C,c'.free (C.bG r p)->c'.rf G->c'.rf (fH G r (C.putAt p (G r) d')):=
 h.Hp r p p d d' d' rfl hfree hE hsub hS hok hl hrf hdf cr
def qZ{c:C}(h:c.cell):c.val.oneCell'=true:=by
 cases c with
 |agg=>exact h.elim
 |ak=>exact h.elim
 |dead=>exact h
 |ref=>exact h
 |ax=>exact h
 |cut=>exact h
 |_=>rfl
def FA(d:C):C.hU d (.dead d.val) where
 val:=rfl
 cell:=λh=>qZ h
 fY:=λ_=>trivial
 cO:=λ_=>trivial
 fits:=λ_ _=>trivial
def vz(h:Inv w zl zb G s)(r:Nat)(p:Path)(y:C)(hsub:(G r).sub p=some y):
  ∃(c:C) (G':Nat->C),c.er=y.er.kill r p/\c.val=y.val/\Inv w zl zb G' (iN r p .dead s)/\c.ok w (Zf zl zb)/\c.rf G'/\(c.cell↔y.cell)/\(y.cO->c=y)/\(∀t b k,c.fp b k->¬(G' t).fp b k)/\(∀b k,c.fp b k->(G r).fp b k)/\
   (∀t,(G' t).val=(G t).val)/\(∀t b k,(G' t).fp b k->(G t).fp b k)/\∀b k,c.fp b k↔y.fp b k:=by
 have h1:=h.kill r p;have hs1:((G r).aA (C.bG r p)).sub p=some (y.aA (C.bG r p)):=C.jg _ p _ _ (h.ok r) hsub;have pN:=C.gY p hsub (h.ok r);obtain⟨⟨i1,i2,i3⟩,_⟩:=h1.Tw r p (y.aA (C.bG r p)) (.dead (y.aA (C.bG r p)).val) (S:=λ_ _=>False) (λt=>C.gD _ _) (Ext.refl _ _) hs1 (λ_ _ hf=>hf.elim) trivial (FA _) trivial trivial (λ_ _ hf=>hf.elim);have acW:y.rf G:=CI p (h.ok r) hsub (h.rf r);refine⟨y.aA (C.bG r p),_,C.nV r p y,C.jh _ y,i1,C.l5 _ _ pN,?_,?_,λhs=>C.xF _ _ hs,?_,?_,λt=>(i2 t).trans (C.jh _ _),λt b k hf=>?_,λb k=>C.cG _ y b k⟩
 ·refine C.lu (C.bG r p) (λs' q z hk hs=>?_) _ (C.gD _ _) (C.nh _ _ acW);by_cases e:s'=r
  ·subst e;rw[dD];rcases C.self z _ q hs with ⟨z',fE,hs'⟩|hno
   ·have hs2:=C.jg (C.bG s' p) q _ _ (h.ok s') hs';rcases C.HA p q _ (.dead (y.aA (C.bG s' p)).val) _ (by simpa [C.bG] using hk) hs2 with ⟨z'',ac9,Aq⟩|hno;·exact .inl ⟨z'',(fE.off _).trans ac9,Aq⟩
    ·exact(hno _ ((fE.off _))).elim
   ·exact .inr hno
  ·rw[cX _ _ e];rcases C.self z _ q hs with ⟨z',fE,hs'⟩|hno;·exact .inl ⟨_,fE.off _,C.jg _ q _ _ (h.ok s') hs'⟩
   ·exact .inr hno
 ·cases y with
  |ref v s q=>simp only[C.aA];cases C.bG r p s q<;>exact j8
  |ax v s q i c=>simp only[C.aA];cases C.bG r p s q<;>exact j8
  |cut v s q i c=>simp only[C.aA];cases C.bG r p s q<;>exact j8
  |_=>exact j8
 ·intro t b k hf hf';rw[C.cG] at hf;have Ky:=C.gH p hsub (h.ok r) hf;have hG':Inv w zl zb (fH (λt=>(G t).aA (C.bG r p)) r (C.putAt p ((G r).aA (C.bG r p)) (.dead (y.aA (C.bG r p)).val))) (iN r p .dead s):=i1;by_cases e:t=r
  ·subst e;rw[dD] at hf';obtain⟨_,j2,_⟩:=C.Bz (λ_ _ _ h=>h) (Ext.refl (λ_ _=>False) w) (λm b k _ hs=>hs) p ((G t).aA (C.bG t p)) _ (.dead (y.aA (C.bG t p)).val) (h1.ok t) hs1 trivial (FA _) (λ_ _ hs=>hs.elim) (λ_ _ hs=>hs.elim);rcases j2 b k hf' with hh|⟨_,hn⟩;·exact hh
   ·exact hn (by rw[C.cG];exact hf)
  ·rw[cX _ _ e,C.cG] at hf';exact h.sep r t (λe'=>e e'.symm) b k Ky hf'
 ·intro b k hf;rw[C.cG] at hf;exact C.gH p hsub (h.ok r) hf
 ·rcases i3 t b k hf with ⟨_,hh⟩|hh;·exact hh.elim
  ·rwa [C.cG] at hh
where
 CI:∀(p:Path) {c d:C},c.ok w (Zf zl zb)->c.sub p=some d->c.rf G->d.rf G
  |[],c,d,_,h,hr=>by simp only[C.sub] at h;injection h with h;subst h;exact hr
  |q::p,c,d,ho,h,hr=>by
   simp only[C.sub] at h
   cases hs:c.step q with
   |none=>rw[hs] at h;cases h
   |some z=>
    rw[hs] at h
    refine CI p (C.vw hs ho) h ?_
    cases c with
    |row m sz A len cap e=>
     simp only[C.step] at hs
     split at hs
     ·rename_i hq
      injection hs with hs
      have:=(ho.2.2.1 _ _ hq.1 hq.2).2.1
      rw[hs] at this
      cases z with
      |ref=>exact this.elim
      |ax=>exact this.elim
      |cut=>exact this.elim
      |ptr=>exact this.elim
      |agg=>exact this.elim
      |ak=>exact this.elim
      |fn=>exact this.elim
      |_=>trivial
     ·cases hs
    |ptr m g o n c=>
     simp only[C.step] at hs
     split at hs
     ·rename_i hq
      injection hs with hs
      rw[<-hs]
      exact hr _ hq.2
     ·cases hs
    |agg n c=>
     simp only[C.step] at hs
     split at hs
     ·rename_i hq
      injection hs with hs
      rw[<-hs]
      exact hr _ hq.2
     ·cases hs
    |ak n c=>
     simp only[C.step] at hs
     split at hs
     ·rename_i hq
      injection hs with hs
      rw[<-hs]
      exact hr _ hq.2
     ·cases hs
    |_=>simp[C.step] at hs
end Inv
end M
namespace M
open Go Go.RowKit
def Ext.setCell(w:World)(g k:Nat)(v:Value):Ext (λb i=>b=g/\i=k) w (w.setCell ⟨g,k,none⟩ v):=by
 refine⟨rfl,rfl,rfl,by simp[World.setCell],λb hb=>?_⟩;simp only[World.setCell,Vi];by_cases e:g=b
 ·subst e;rw[au rfl];cases hh:w.heap[g]? with
  |none=>exact .inl rfl
  |some o=>
   cases o with
   |cells arr t fz=>
    refine .inr ⟨arr,arr.setIfInBounds k v,t,fz,rfl,?_,by simp,λi hi=>?_⟩;·simp
    ·rw[N0];intro e;exact hi ⟨rfl,e.symm⟩
   |_=>exact .inl (by simp)
 ·rw[aC e];exact .inl rfl
def Pm(w:World)(g k:Nat)(v u:Value)(h:w.cell? ⟨g,k,none⟩=some u):(w.setCell ⟨g,k,none⟩ v).cell? ⟨g,k,none⟩=some v:=by
 simp only[World.cell?] at h⊢;simp only[World.setCell,Vi,au];cases hh:w.heap[g]? with
 |none=>simp[hh] at h
 |some o=>
  cases o with
  |cells arr t fz=>
   simp[hh] at h⊢
   have hk:k<arr.size:=by
    rcases gI k arr.size with h'|h';·exact h'
    ·simp[kP h'] at h
   simp[hk]
  |_=>simp[hh] at h
def Lt{sz i j i' j':Nat}(hj:j<sz)(hj':j'<sz)(h:i*sz+j=i'*sz+j'):i=i'/\j=j':=by
 have h1:i=i':=by
  have e1:(i*sz+j) / sz=i:=by rw[qH,Nat.mul_add_div (by omega),Nat.div_eq_of_lt hj];rfl
  have e2:(i'*sz+j') / sz=i':=by rw[qH,Nat.mul_add_div (by omega),Nat.div_eq_of_lt hj'];rfl
  rw[<-e1,<-e2,h]
 subst h1;exact⟨rfl,by omega⟩
def Ls:∀(p q:Path),X.pfx p q=true->∃t,q=p++t
 |[],q,_=>⟨q,rfl⟩
 |x::p,[],h=>by simp[X.pfx] at h
 |x::p,y::q,h=>by simp only[X.pfx,az,eu] at h;obtain⟨⟨h1,h2⟩,h3⟩:=h;obtain⟨t,rfl⟩:=Ls p q h3;exact⟨t,by rw[fR];congr 1;cases x;cases y;simp only at h1 h2;rw[h1,h2]⟩
namespace C
variable {w:World}{Z:Md->Nat->Nat->Prop}
def BH:∀(p:Path) {c d o y:C} {x:Nat×Nat},c.sub p=some d->d.step x=some o->putAt (p++[x]) c y=putAt p c (d.aW x y)
 |[],c,d,o,y,x,h,hs=>by
  simp only[sub] at h;injection h with h
  subst h;simp[putAt,hs]
 |q::p,c,d,o,y,x,h,hs=>by
  simp only[sub] at h;cases hst:c.step q with
  |none=>rw[hst] at h;cases h
  |some z=>rw[hst] at h;simp only[fR,putAt,hst,BH p h hs]
def sZ:∀(p:Path) {c d o:C} {x:Nat×Nat},c.sub p=some d->d.step x=some o->c.sub (p++[x])=some o
 |[],c,d,o,x,h,hs=>by
  simp only[sub] at h;injection h with h
  subst h;simp[sub,hs]
 |q::p,c,d,o,x,h,hs=>by
  simp only[sub] at h;cases hst:c.step q with
  |none=>rw[hst] at h;cases h
  |some z=>rw[hst] at h;simp only[fR,sub,hst,gj];exact sZ p h hs
def Hz:∀(p q:Path) {c d:C},c.sub p=some d->c.sub (p++q)=d.sub q
 |[],q,c,d,h=>by simp only[sub] at h;injection h with h;subst h;rfl
 |x::p,q,c,d,h=>by
  simp only[sub] at h;cases hst:c.step x with
  |none=>rw[hst] at h;cases h
  |some z=>rw[hst] at h;simp only[fR,sub,hst,gj];exact Hz p q h
def agC{c z:C}{x:Nat×Nat}(h:c.step x=some z)(y:C):(c.aW x y).step x=some y:=by
 cases c with
 |row m sz A len cap e=>
  simp only[step] at h⊢;split at h;·rename_i hq;simp[aW,step,hq]
  ·cases h
 |ptr m g o n c=>
  simp only[step] at h⊢;split at h;·rename_i hq;simp[aW,step,hq,bW]
  ·cases h
 |agg n c=>
  simp only[step] at h⊢;split at h;·rename_i hq;simp[aW,step,hq,bW]
  ·cases h
 |ak n c=>
  simp only[step] at h⊢;split at h;·rename_i hq;simp[aW,step,hq,bW]
  ·cases h
 |_=>simp[step] at h
def HB:∀(p:Path) {c d d':C},c.sub p=some d->(putAt p c d').sub p=some d'
 |[],c,d,d',h=>rfl
 |q::p,c,d,d',h=>by
  simp only[sub] at h;cases hst:c.step q with
  |none=>rw[hst] at h;cases h
  |some z=>rw[hst] at h;simp only[putAt,hst,sub,agC hst,gj];exact HB p h
def Th{sz g o len cap:Nat}{e:Nat->Nat->C}{i j:Nat}{y:C}(h:(C.row .own sz (some (g,o,none)) len cap e).ok w Z)(hi:i<len)(hj:j<sz)(hy:y.ok w Z)(hc:y.cell)(hs:y.cO)
  (hZ:∀m k,¬Z m g k)(hd:∀b k,y.fp b k->¬(C.row .own sz (some (g,o,none)) len cap e).fp b k):
  ((C.row .own sz (some (g,o,none)) len cap e).aW (i,j) y).ok (w.setCell ⟨g,o+i*sz+j,none⟩ y.val) Z/\
   ∀b k,((C.row .own sz (some (g,o,none)) len cap e).aW (i,j) y).fp b k->(C.row .own sz (some (g,o,none)) len cap e).fp b k\/y.fp b k:=by
 have hE:=Ext.setCell w g (o+i*sz+j) y.val;have Ac:∀m b k,Z m b k->¬(b=g/\k=o+i*sz+j):=λm b k hz hh=>by obtain⟨rfl,_⟩:=hh;exact hZ m k hz
 have ku:∀i' j',i'<len->j'<sz->∀b k,(e i' j').fp b k->b≠g:=λi' j' hi' hj' b k hf hb=>by subst hb;exact(h.2.2.2.2 i' j' hi' hj' b k hf).1 rfl o rfl
 have Az:∀b k,y.fp b k->b≠g:=λb k hf hb=>by subst hb;exact hd b k hf ⟨rfl,.inl ⟨o,rfl⟩⟩
 obtain⟨h1,h2,h3,h4,h5⟩:=h;refine⟨⟨h1,λi' j' hi' hj'=>?_,λi' j' hi' hj'=>?_,λ_=>?_,λi' j' hi' hj' b k hf=>?_⟩,λb k hf=>?_⟩
 ·obtain⟨g',o',hA,hcell,hz⟩:=h2 i' j' hi' hj';injection hA with hA
  injection hA with e1 e2
  injection e2 with e2
  subst e1;subst e2;refine⟨g,o,rfl,?_,hz⟩;show _=some (if i'=i/\j'=j then y else e i' j').val;by_cases hij:i'=i/\j'=j;·obtain⟨rfl,rfl⟩:=hij;rw[au ⟨rfl,rfl⟩];exact Pm w g _ _ _ hcell
  ·rw[aC hij];refine hE.cell (λhh=>hij ?_) hcell;exact Lt hj' hj (by omega)
 ·show (if i'=i/\j'=j then y else e i' j').cell/\(if i'=i/\j'=j then y else e i' j').cO/\(if i'=i/\j'=j then y else e i' j').fits .own/\(if i'=i/\j'=j then y else e i' j').ok _ Z;by_cases hij:i'=i/\j'=j;·rw[au hij];refine⟨hc,hs,?_,fG hE Ac _ (λb k hf hh=>Az b k hf hh.1) hy⟩;cases y<;>first|trivial|exact .inl rfl
  ·rw[aC hij];obtain⟨a1,a2,a3,a4⟩:=h3 i' j' hi' hj';exact⟨a1,a2,a3,fG hE Ac _ (λb k hf hh=>ku i' j' hi' hj' b k hf hh.1) a4⟩
 ·rcases h4 rfl with h|⟨g',o',arr,t,fz,hA,hh,hsz,hfr⟩;·exact .inl h
  ·injection hA with hA
   injection hA with e1 e2
   injection e2 with e2
   subst e1;subst e2;have hg:g<w.heap.size:=(j9.1 hh).1;rcases hE.block g hg with e'|⟨a1,a2,t',lQ,e1,e2,e3,e4⟩;·exact .inr ⟨g,o,arr,t,fz,rfl,e'.trans hh,hsz,λk hk hk'=>(hE.frozen hg).trans (hfr k hk hk')⟩
   ·rw[hh] at e1;injection e1 with e1
    injection e1 with q1 q2 q3
    subst q1;exact .inr ⟨g,o,a2,t',lQ,rfl,e2,by omega,λk hk hk'=>(hE.frozen hg).trans (hfr k hk hk')⟩
 ·have hf':(if i'=i/\j'=j then y else e i' j').fp b k:=hf;by_cases hij:i'=i/\j'=j
  ·rw[au hij] at hf';refine⟨λ_ o' hA=>?_,λi2 j2 hi2 hj2 hne=>?_⟩
   ·injection hA with hA
    injection hA with e1 e2
    exact Az b k hf' e1.symm
   ·show ¬(if i2=i/\j2=j then y else e i2 j2).fp b k;rw[aC (λhh=>hne (by rw[hij.1,hij.2,hh.1,hh.2]))];intro hk;exact hd b k hf' (jV (h3 i2 j2 hi2 hj2).1 (h3 i2 j2 hi2 hj2).2.2.1 hi2 hj2 hk)
  ·rw[aC hij] at hf';refine⟨(h5 i' j' hi' hj' b k hf').1,λi2 j2 hi2 hj2 hne=>?_⟩;show ¬(if i2=i/\j2=j then y else e i2 j2).fp b k;by_cases hij2:i2=i/\j2=j;·rw[au hij2];intro hk;exact hd b k hk (jV (h3 i' j' hi' hj').1 (h3 i' j' hi' hj').2.2.1 hi' hj' hf')
   ·rw[aC hij2];exact(h5 i' j' hi' hj' b k hf').2 i2 j2 hi2 hj2 hne
 ·obtain⟨_,hf|⟨i',j',hi',hj',hf⟩⟩:=hf;·exact .inl ⟨rfl,.inl hf⟩
  ·have hf':(if i'=i/\j'=j then y else e i' j').fp b k:=hf;by_cases hij:i'=i/\j'=j;·rw[au hij] at hf';exact .inr hf'
   ·rw[aC hij] at hf';exact .inl (jV (h3 i' j' hi' hj').1 (h3 i' j' hi' hj').2.2.1 hi' hj' hf')
def SY{g o n:Nat}{c:Nat->C}{j:Nat}{y:C}(h:(C.ptr .own g o n c).ok w Z)(hj:j<n)(hy:y.ok w Z)(hc:y.cell)
  (hZ:∀m k,o<=k->k<o+n->¬Z m g k)(hd:∀b k,y.fp b k->¬(C.ptr .own g o n c).fp b k):
  ((C.ptr .own g o n c).aW (0,j) y).ok (w.setCell ⟨g,o+j,none⟩ y.val) Z/\
   ∀b k,((C.ptr .own g o n c).aW (0,j) y).fp b k->(C.ptr .own g o n c).fp b k\/y.fp b k:=by
 have hE:=Ext.setCell w g (o+j) y.val;have Ac:∀m b k,Z m b k->¬(b=g/\k=o+j):=λm b k hz hh=>by obtain⟨rfl,rfl⟩:=hh;exact hZ m _ (by omega) (by omega) hz
 have ku:∀j',j'<n->∀b k,(c j').fp b k->¬(b=g/\k=o+j):=λj' hj' b k hf hb=>by exact(h.2.2.2 j' hj' b k hf).1 rfl ⟨hb.1,by omega,by omega⟩
 have Az:∀b k,y.fp b k->¬(b=g/\o<=k/\k<o+n):=λb k hf hb=>hd b k hf ⟨rfl,.inl hb⟩;obtain⟨h1,h2,h3,h4⟩:=h;refine⟨⟨λj' hj'=>?_,kL h2 hE.size,λj' hj'=>?_,λj' hj' b k hf=>?_⟩,λb k hf=>?_⟩
 ·obtain⟨a1,a2,a3⟩:=h1 j' hj';refine⟨?_,a2,λhm=>(hE.frozen h2).trans (a3 hm)⟩;simp only[bW];by_cases hij:j'=j;·subst hij;rw[au rfl];exact Pm w g _ _ _ a1
  ·rw[aC hij];exact hE.cell (λhh=>hij (by omega)) a1
 ·simp only[bW];by_cases hij:j'=j;·rw[au hij];refine⟨hc,?_,fG hE Ac _ (λb k hf hh=>Az b k hf ⟨hh.1,by omega,by omega⟩) hy⟩;cases y<;>first|trivial|exact .inl rfl
  ·rw[aC hij];obtain⟨a1,a3,a4⟩:=h3 j' hj';exact⟨a1,a3,fG hE Ac _ (λb k hf hh=>ku j' hj' b k hf hh) a4⟩
 ·simp only[bW] at hf⊢;by_cases hij:j'=j;·rw[au hij] at hf;refine⟨λ_ hA=>Az b k hf hA,λj2 hj2 hne=>?_⟩;rw[aC (λhh=>hne (by rw[hij,hh]))];intro hk;exact hd b k hf (kC (h3 j2 hj2).1 (h3 j2 hj2).2.1 hj2 hk)
  ·rw[aC hij] at hf;refine⟨λ_=>(h4 j' hj' b k hf).1 rfl,λj2 hj2 hne=>?_⟩;by_cases hij2:j2=j;·rw[au hij2];intro hk;exact hd b k hk (kC (h3 j' hj').1 (h3 j' hj').2.1 hj' hf)
   ·rw[aC hij2];exact(h4 j' hj' b k hf).2 j2 hj2 hne
 ·obtain⟨_,hf|⟨j',hj',hf⟩⟩:=hf;·exact .inl ⟨rfl,.inl hf⟩
  ·simp only[bW] at hf;by_cases hij:j'=j;·rw[au hij] at hf;exact .inr hf
   ·rw[aC hij] at hf;exact .inl (kC (h3 j' hj').1 (h3 j' hj').2.1 hj' hf)
end C
inductive fe (d:C) (i c:Nat) (y:C):Nat->Nat->Prop where
 |row {sz g o len cap e} (h:d=.row .own sz (some (g,o,none)) len cap e) (hi:i<len) (hc:c<sz) (hs:y.cO):fe d i c y g (o+i*sz+c)
 |ptr {g o n f} (h:d=.ptr .own g o n f) (hi:i=0) (hc:c<n):fe d i c y g (o+c)
def fe.off(f:Nat->Path->Bool){d y:C}{i c g k:Nat}(h:fe d i c y g k):fe (d.aA f) i c y g k:=by
 cases h with
 |row h hi hc hs=>subst h;exact .row rfl hi hc hs
 |ptr h hi hc=>subst h;exact .ptr rfl hi hc
def fe.aW{d y y0 z:C}{i c g k i' c' g' k':Nat}(h:fe d i c y g k)(h':fe d i' c' y0 g' k'):fe (d.aW (i,c) z) i' c' y0 g' k':=by
 cases h' with
 |row h' hi' iH hs'=>subst h';exact .row rfl hi' iH hs'
 |ptr h' hi' iH=>subst h';exact .ptr rfl hi' iH
namespace Inv
variable {w w':World}{zl zb:Nat->Nat->Prop}{G:Nat->C}{s:ah}
def store(h:Inv w zl zb G s)(r:Nat)(p:Path)(i c:Nat)(d y:C)(g k:Nat)(hsub:(G r).sub p=some d)(hsp:fe d i c y g k)(hy:y.ok w (Zf zl zb))(hcell:y.cell)(hrf:y.rf G)
  (hsep:∀t b k,y.fp b k->¬(G t).fp b k)(hfz:∀b k,y.fp b k->¬zl b k/\¬zb b k):
  ∃G',Inv (w.setCell ⟨g,k,none⟩ y.val) zl zb G' (setCell r p i c y.er s)/\(∀t,(G' t).val=(G t).val)/\(∀t b k,(G' t).fp b k->y.fp b k\/(G t).fp b k)/\d.fp g k/\(∃v,w.cell? ⟨g,k,none⟩=some v)/\w.frozen? ⟨g,k,none⟩=false/\
   (∀c':C,c'.rf G->(bif oa r p i c s then c'.aA (C.bG r (p++[(i,c)])) else c').rf G')/\
   ∃d',(G' r).sub p=some d'/\∀i' c' y' g' k',fe d i' c' y' g' k'->fe d' i' c' y' g' k':=by
 have wH:=C.gY p hsub (h.ok r)
 obtain⟨old,hold⟩:∃old,d.step (i,c)=some old:=by
  cases hsp with
  |row hd hi hc hs=>subst hd;exact⟨_,au (And.intro hi hc)⟩
  |ptr hd hi hc=>subst hd;exact⟨_,au (And.intro hi hc)⟩
 have Kh:d.fp g k:=by
  cases hsp with
  |row hd hi hc hs=>subst hd;exact⟨rfl,.inl ⟨_,rfl⟩⟩
  |ptr hd hi hc=>subst hd;exact⟨rfl,.inl ⟨rfl,by omega,by omega⟩⟩
 have aZ:∀{b k},d.fp b k->(G r).fp b k:=λhf=>C.gH p hsub (h.ok r) hf;have Ez:∀m b k,d.fp b k->¬Zf zl zb m b k:=λm b k hf hz=>h.zc r m b k hz (aZ hf);have Aw:∀b k,y.fp b k->¬d.fp b k:=λb k hf hd=>hsep r b k hf (aZ hd)
 have hnew:(d.aW (i,c) y).ok (w.setCell ⟨g,k,none⟩ y.val) (Zf zl zb)/\∀b k,(d.aW (i,c) y).fp b k->d.fp b k\/y.fp b k:=by
  cases hsp with
  |row hd hi hc hs=>subst hd;exact C.Th wH hi hc hy hcell hs (λm k hz=>Ez m _ k ⟨rfl,.inl ⟨_,rfl⟩⟩ hz) Aw
  |ptr hd hi hc=>subst hd;subst hi;exact C.SY wH hc hy hcell (λm k h1 h2 hz=>Ez m _ k ⟨rfl,.inl ⟨rfl,h1,h2⟩⟩ hz) Aw
 have hread:(∃v,w.cell? ⟨g,k,none⟩=some v)/\w.frozen? ⟨g,k,none⟩=false:=by
  cases hsp with
  |row hd hi hc hs=>
   rename_i sz o len cap e;subst hd;obtain⟨h1,h2,h3,h4,h5⟩:=wH;obtain⟨g',o',hA,hcl,_⟩:=h2 i c hi hc;injection hA with hA
   injection hA with e1 e2
   injection e2 with e2
   subst e1;subst e2;refine⟨⟨_,hcl⟩,?_⟩;rcases h4 rfl with ⟨hn,_⟩|⟨g',o',arr,t,fz,hA,hh,hsz,hfr⟩;·cases hn
   ·injection hA with hA
    injection hA with e1 e2
    injection e2 with e2
    subst e1;subst e2;refine hfr _ (by omega) ?_;have:(i+1)*sz<=cap*sz:=nD _ (by omega);rw[e8] at this;omega
  |ptr hd hi hc=>subst hd;obtain⟨a1,_,a3⟩:=wH.1 c hc;exact⟨⟨_,a1⟩,a3 rfl⟩
 have hE:=Ext.setCell w g k y.val;have hS:∀b i',b=g/\i'=k->d.fp b i'\/w.heap.size<=b:=λb i' hh=>.inl (by rw[hh.1,hh.2];exact Kh);have hq:=C.sZ p hsub hold;have acF:look s r (p++[(i,c)])=some old.er:=by simp only[look];rw[<-h.er,C.gG,hq];rfl
 have like:∀(d:C) (y:C),C.hU d (d.aW (i,c) y)\/(∃n f,d=.agg n f)\/(∃n f,d=.ak n f):=by
  intro d y;cases d with
  |row=>exact .inl ⟨rfl,λh=>h,λh=>h,λh=>h,λ_ h=>h⟩
  |ptr=>exact .inl ⟨rfl,λh=>h,λh=>h,λh=>h,λ_ h=>h⟩
  |agg n f=>exact .inr (.inl ⟨n,f,rfl⟩)
  |ak n f=>exact .inr (.inr ⟨n,f,rfl⟩)
  |_=>exact .inl ⟨rfl,λh=>h,λh=>h,λh=>h,λ_ h=>h⟩
 have rJ:∀y,C.hU d (d.aW (i,c) y):=by
  intro y;rcases like d y with hl|⟨n,f,hd⟩|⟨n,f,hd⟩;·exact hl
  ·cases hsp with
   |row hd'=>rw[hd] at hd';cases hd'
   |ptr hd'=>rw[hd] at hd';cases hd'
  ·cases hsp with
   |row hd'=>rw[hd] at hd';cases hd'
   |ptr hd'=>rw[hd] at hd';cases hd'
 have wM:oa r p i c s=old.er.iL:=by unfold oa;rw[acF]
 unfold setCell;rw[wM];cases hr:old.er.iL with
 |false=>
  have hno:∀c':C,c'.rf G->c'.free (C.bG r (p++[(i,c)])):=by
   intro c'
   have none:∀(q:Path) (z:C),X.pfx (p++[(i,c)]) q=true->(G r).sub q=some z->(∀m sz A len cap e,z≠.row m sz A len cap e)/\∀m g o n f,z≠.ptr m g o n f:=by
    intro q z hp hz;obtain⟨q',rfl⟩:=Ls _ _ hp;rw[C.Hz _ _ hq] at hz;cases q' with
    |nil=>
     simp only[C.sub] at hz;injection hz with hz
     subst hz;constructor;·intro m sz A len cap e e';rw[e'] at hr;simp[C.er,X.iL] at hr
     ·intro m g o n f e';rw[e'] at hr;simp[C.er,X.iL] at hr
    |cons x q'=>cases old<;>first|(simp[C.er,X.iL] at hr;done)|(simp[C.sub,C.step] at hz;done)
   induction c' with
   |ref v r' q=>
    intro hrf;obtain⟨y,z,hs,hF,hv,m,sz,A,len,cap,e,rfl⟩:=hrf;simp only[C.free,C.bG];cases hk:(r'==r && X.pfx (p++[(i,c)]) q) with
    |false=>rfl
    |true=>simp only[az,eu] at hk;obtain⟨rfl,hk⟩:=hk;cases hF;exact((none q _ hk hs).1 _ _ _ _ _ _ rfl).elim
   |ax v r' q i' c'=>
    intro hrf;obtain⟨y,hs,hy⟩:=hrf;simp only[C.free,C.bG];cases hk:(r'==r && X.pfx (p++[(i,c)]) q) with
    |false=>rfl
    |true=>
     simp only[az,eu] at hk;obtain⟨rfl,hk⟩:=hk;rcases hy with ⟨m,sz,g,o,len,cap,e,rfl,hv⟩|⟨m,g,o,n,cc,rfl,hv⟩;·exact((none q _ hk hs).1 _ _ _ _ _ _ rfl).elim
     ·exact((none q _ hk hs).2 _ _ _ _ _ rfl).elim
   |cut v r' q lo hi=>
    intro hrf;obtain⟨m,sz,A,len,cap,e,A',cap',hs,_⟩:=hrf;simp only[C.free,C.bG];cases hk:(r'==r && X.pfx (p++[(i,c)]) q) with
    |false=>rfl
    |true=>simp only[az,eu] at hk;obtain⟨rfl,hk⟩:=hk;exact((none q _ hk hs).1 _ _ _ _ _ _ rfl).elim
   |ptr m g o n f ih=>exact λhrf j hj=>ih j (hrf j hj)
   |agg n f ih=>exact λhrf j hj=>ih j (hrf j hj)
   |ak n f ih=>exact λhrf j hj=>ih j (hrf j hj)
   |fn _ n f ih=>exact λhrf j hj=>ih j (hrf j hj)
   |_=>exact λ_=>trivial
  obtain⟨⟨i1,i2,i3⟩,i4⟩:=h.Hp r p (p++[(i,c)]) d (d.aW (i,c) y) y (C.BH p hsub hold) (λt=>hno _ (h.rf t)) hE hsub hS hnew.1 (rJ y) hrf (hno _ hrf)
   (λb k hf=>(hnew.2 b k hf).imp id λhf=>⟨λt=>hsep t b k hf,hfz b k hf⟩)
  refine⟨_,i1,i2,λt b k hf=>?_,Kh,hread.1,hread.2,λc' hr=>i4 c' (hno c' hr) hr,_,by rw[dD];exact C.HB p hsub,λi' c' y' g' k' hs=>fe.aW hsp hs⟩;rcases i3 t b k hf with ⟨ht,hf'⟩|hf';·subst ht;exact(hnew.2 b k hf').symm.imp id aZ
  ·exact .inr hf'
 |true=>
  have h1:=h.kill r (p++[(i,c)]);let f:=C.bG r (p++[(i,c)]);have Kt:((G r).aA f).sub p=some (d.aA f):=C.jg f p _ _ (h.ok r) hsub;have acL:(d.aA f).step (i,c)=some (old.aA f):=by have:=C.jg f [(i,c)] d old wH (by simp[C.sub,hold]);simpa [C.sub] using this
  have hval:∀b k,(y.aA f).fp b k↔y.fp b k:=λb k=>C.cG f y b k
  have hnew1:((d.aA f).aW (i,c) (y.aA f)).ok (w.setCell ⟨g,k,none⟩ y.val) (Zf zl zb)/\∀b k,((d.aA f).aW (i,c) (y.aA f)).fp b k->(d.aA f).fp b k\/(y.aA f).fp b k:=by
   have Rw:∀b k,(y.aA f).fp b k->¬(d.aA f).fp b k:=λb k hf hd=>Aw b k ((hval b k).1 hf) ((C.cG f d b k).1 hd);have Q9:=C.l5 f d wH;have hy1:=C.l5 f y hy;have hc1:=C.FM f y hcell;rw[<-C.jh f y];cases hsp with
   |row hd hi hc hs=>subst hd;have e1:C.aA f y=y:=C.xF f y hs;exact C.Th Q9 hi hc hy1 hc1 (by rw[e1];exact hs) (λm k hz=>Ez m _ k ⟨rfl,.inl ⟨_,rfl⟩⟩ hz) Rw
   |ptr hd hi hc=>subst hd;subst hi;exact C.SY Q9 hc hy1 hc1 (λm k h1 h2 hz=>Ez m _ k ⟨rfl,.inl ⟨rfl,h1,h2⟩⟩ hz) Rw
  have acD:C.hU (d.aA f) ((d.aA f).aW (i,c) (y.aA f)):=by
   rcases like (d.aA f) (y.aA f) with hl|⟨n,f',hd⟩|⟨n,f',hd⟩;·exact hl
   ·cases hsp with
    |row hd'=>rw[hd'] at hd;cases hd
    |ptr hd'=>rw[hd'] at hd;cases hd
   ·cases hsp with
    |row hd'=>rw[hd'] at hd;cases hd
    |ptr hd'=>rw[hd'] at hd;cases hd
  have acX:(y.aA f).rf λt=>(G t).aA f:=C.lu f (λs' q z hk hs=>by
   rcases C.self z _ q hs with ⟨z',fE,hs'⟩|hno;·exact .inl ⟨_,fE.off f,C.jg f q _ _ (h.ok s') hs'⟩
   ·exact .inr hno) _ (C.gD f _) (C.nh f _ hrf)
  obtain⟨⟨i1,i2,i3⟩,i4⟩:=h1.Hp r p (p++[(i,c)]) (d.aA f) _ (y.aA f) (C.BH p Kt acL) (λt=>C.gD _ _) hE Kt (λb k hh=>(hS b k hh).imp (λhh=>(C.cG f d b k).2 hh) id) hnew1.1 acD acX (C.gD _ _)
   (λb k hf=>(hnew1.2 b k hf).imp id λhf=>⟨λt hf'=>hsep t b k ((hval b k).1 hf) ((C.cG f _ b k).1 hf'),hfz b k ((hval b k).1 hf)⟩)
  rw[C.nV] at i1
  refine⟨_,i1,λt=>(i2 t).trans (C.jh f _),λt b k hf=>?_,Kh,hread.1,hread.2,λc' hr=>i4 _ (C.gD f c') (C.lu f (λs' q z hk hs=>by
   rcases C.self z _ q hs with ⟨z',fE,hs'⟩|hno;·exact .inl ⟨_,fE.off f,C.jg f q _ _ (h.ok s') hs'⟩
   ·exact .inr hno) _ (C.gD f _) (C.nh f _ hr)),_,by rw[dD];exact C.HB p Kt,λi' c' y' g' k' hs=>fe.aW (fe.off f hsp) (fe.off f hs)⟩
  rcases i3 t b k hf with ⟨ht,hf'⟩|hf'
  ·subst ht;rcases hnew1.2 b k hf' with hf'|hf';·exact .inr (aZ ((C.cG f d b k).1 hf'))
   ·exact .inl ((hval b k).1 hf')
  ·exact .inr ((C.cG f _ b k).1 hf')
end Inv
end M
namespace M
open Go Go.RowKit
structure Ctx where
 w0:World
 F0:Nat->Nat->Prop
 oT:Nat->Nat->Prop
 zb:Nat->Nat->Prop
 nt:Nat
 args:List Value
abbrev base:Nat:=100000
structure Tr [B:Bs] (c:Ctx) (w:World) (zl:Nat->Nat->Prop) (G:Nat->C):Prop where
 ext:Ext c.F0 c.w0 w
 dom:∀t b k,(G t).fp b k->c.F0 b k\/c.w0.heap.size<=b
 oT:∀b k,c.oT b k->zl b k
 zl:∀b k,zl b k->c.oT b k\/c.F0 b k\/c.w0.heap.size<=b
 gl:Dl c.w0 c.oT c.zb
 z7:∀b k,b<B.W0.heap.size->¬c.F0 b k
structure St [Bs] (c:Ctx) (G:Nat->C) (zl:Nat->Nat->Prop) (s:ah) (a:Act) (w:World):Prop where
 inv:Inv w zl c.zb G s
 val:∀t,t<base->(G t).val=a.tmps.getD t undef
 size:a.tmps.size=c.nt
 small:c.nt<=base
 defers:a.defers=[]
 tr:Tr c w zl G
 args:∀i v,c.args[i]?=some v->(G (base+i)).val=v
namespace C
def iV(n:Nat)(p:Path):C->C
 |.row .own sz A len cap e=>.ref (C.row .own sz A len cap e).val n p
 |.ptr .own g o m c=>.ax (C.ptr .own g o m c).val n p 0 0
 |x=>x
def gK(n:Nat)(p:Path):C->C
 |.agg m c=>.agg m λj=>(c j).iV n (p++[(0,j)])
 |x=>x.iV n p
def alias(n:Nat)(p:Path):C->C
 |.ak m c=>.ak m λj=>(c j).gK n (p++[(0,j)])
 |x=>x.gK n p
def IM(n:Nat)(p:Path)(c:C):(c.iV n p).er=M.iV n p c.er:=by
 cases c with
 |row m=>cases m<;>rfl
 |ptr m=>cases m<;>rfl
 |_=>rfl
def vW(n:Nat)(p:Path)(i:Nat):∀(l:List Nat) (k:Nat) (f:Nat->C),l=(List.range l.length).map (· +k)->M.tD n p i k (l.map λj=>(f j).er)=l.map λj=>((f j).iV n (p++[(i,j)])).er
 |[],k,f,h=>rfl
 |x::l,k,f,h=>by
  have hx:x=k:=by simp only[cu,C4,bn,mC] at h;exact(Ip h).1
  have hl:l=(List.range l.length).map (· +(k+1)):=by simp only[cu,C4,bn,mC,cH] at h;have:=(Ip h).2;rw[this];simp only[cZ,vQ];apply b7;intro j _;show j+1+k=j+(k+1);omega
  simp only[bn,M.tD];rw[vW n p i l (k+1) f hl,IM,hx]
def S5(m:Nat):List.range m=(List.range (List.range m).length).map (· +0):=by simp
def Dq(n:Nat)(p:Path)(c:C):(c.gK n p).er=M.gK n p c.er:=by
 cases c with
 |agg m c=>simp only[gK,er,M.gK];rw[vW n p 0 (List.range m) 0 c (S5 m)]
 |row m=>exact IM n p _
 |ptr m=>exact IM n p _
 |_=>rfl
def Oe(n:Nat)(p:Path):∀(l:List Nat) (k:Nat) (f:Nat->C),l=(List.range l.length).map (· +k)->M.zq n p k (l.map λj=>(f j).er)=l.map λj=>((f j).gK n (p++[(0,j)])).er
 |[],k,f,h=>rfl
 |x::l,k,f,h=>by
  have hx:x=k:=by simp only[cu,C4,bn,mC] at h;exact(Ip h).1
  have hl:l=(List.range l.length).map (· +(k+1)):=by simp only[cu,C4,bn,mC,cH] at h;have:=(Ip h).2;rw[this];simp only[cZ,vQ];apply b7;intro j _;show j+1+k=j+(k+1);omega
  simp only[bn,M.zq];rw[Oe n p l (k+1) f hl,Dq,hx]
def Oh(n:Nat)(p:Path)(c:C):(c.alias n p).er=M.alias n p c.er:=by
 cases c with
 |ak m c=>simp only[alias,er,M.alias];rw[Oe n p (List.range m) 0 c (S5 m)]
 |row m sz A len cap e=>exact Dq n p (.row m sz A len cap e)
 |ptr m g o k c=>exact Dq n p (.ptr m g o k c)
 |agg m c=>exact Dq n p (.agg m c)
 |_=>rfl
def zo(n:Nat)(p:Path)(c:C):(c.iV n p).val=c.val:=by
 cases c with
 |row m=>cases m<;>rfl
 |ptr m=>cases m<;>rfl
 |_=>rfl
def Dr(n:Nat)(p:Path)(c:C):(c.gK n p).val=c.val:=by
 cases c with
 |agg m c=>simp only[gK,val];congr 2;exact b7 λj _=>zo _ _ _
 |row m=>exact zo n p _
 |ptr m=>exact zo n p _
 |_=>rfl
def Oi(n:Nat)(p:Path)(c:C):(c.alias n p).val=c.val:=by
 cases c with
 |ak m c=>simp only[alias,val];congr 2;exact b7 λj _=>Dr _ _ _
 |row m sz A len cap e=>exact Dr n p (.row m sz A len cap e)
 |ptr m g o k c=>exact Dr n p (.ptr m g o k c)
 |agg m c=>exact Dr n p (.agg m c)
 |_=>rfl
variable {w:World}{Z:Md->Nat->Nat->Prop}{G:Nat->C}
def zk(n:Nat)(p:Path)(c:C)(hc:(∀m f,c≠.agg m f)/\∀m f,c≠.ak m f)(b k:Nat):¬(c.iV n p).fp b k:=by
 cases c with
 |row m=>cases m<;>first|exact λh=>h|exact λh=>by cases h.1
 |ptr m=>cases m<;>first|exact λh=>h|exact λh=>by cases h.1
 |agg m f=>exact(hc.1 m f rfl).elim
 |ak m f=>exact(hc.2 m f rfl).elim
 |_=>exact λh=>h
def Jm{c:C}(h:c.cell):(∀m f,c≠.agg m f)/\∀m f,c≠.ak m f:=by constructor<;>(intro m f e;subst e;exact h)
def zm(n:Nat)(p:Path)(c:C)(h:c.ok w Z):(c.iV n p).ok w Z:=by
 cases c with
 |row m=>cases m<;>first|trivial|exact h
 |ptr m=>cases m<;>first|trivial|exact h
 |_=>exact h
def IL(n:Nat)(p:Path)(c:C)(h:c.cell):(c.iV n p).cell:=by
 cases c with
 |row m=>cases m<;>first|rfl|exact h
 |ptr m=>cases m<;>first|rfl|exact h
 |_=>exact h
def zn(n:Nat)(p:Path)(c:C)(hs:(G n).sub p=some c)(h:c.rf G):(c.iV n p).rf G:=by
 cases c with
 |row m sz A len cap e=>cases m<;>first|exact⟨_,_,hs,.row .own .own sz A len cap e e,rfl,_,_,_,_,_,_,rfl⟩|trivial
 |ptr m g o k c=>cases m<;>first|exact⟨_,hs,.inr ⟨_,_,_,_,_,rfl,rfl,by simp[val]⟩⟩|exact h
 |_=>exact h
def Sn{n:Nat}{f:Nat->C}(h:∀j,j<n->∀b k,¬(f j).fp b k):∀j,j<n->∀b k,(f j).fp b k->∀j',j'<n->j≠j'->¬(f j').fp b k:=λj hj b k hf=>(h j hj b k hf).elim
def Dp(n:Nat)(p:Path)(c:C)(hnt:∀m f,c≠.ak m f)(hs:(G n).sub p=some c)(ho:c.ok w Z)(hr:c.rf G):(c.gK n p).ok w Z/\(c.gK n p).rf G/\∀b k,¬(c.gK n p).fp b k:=by
 cases c with
 |agg m f=>have cr:∀j,j<m->∀b k,¬((f j).iV n (p++[(0,j)])).fp b k:=λj hj=>zk _ _ _ (Jm (ho.1 j hj).1);refine⟨⟨λj hj=>⟨IL _ _ _ (ho.1 j hj).1,zm _ _ _ (ho.1 j hj).2⟩,Sn cr⟩,λj hj=>zn _ _ _ ?_ (hr j hj),λb k ⟨j,hj,hf⟩=>cr j hj b k hf⟩;exact sZ p hs (by simp[step,hj])
 |ak m f=>exact(hnt m f rfl).elim
 |row m sz A len cap e=>exact⟨zm n p _ ho,zn n p _ hs hr,zk n p _ ⟨λ_ _ e=>(by cases e),λ_ _ e=>(by cases e)⟩⟩
 |ptr m g o k c=>exact⟨zm n p _ ho,zn n p _ hs hr,zk n p _ ⟨λ_ _ e=>(by cases e),λ_ _ e=>(by cases e)⟩⟩
 |_=>exact⟨ho,hr,λb k hf=>hf⟩
def WW(n:Nat)(p:Path)(c:C)(h:c.fY):(c.gK n p).fY:=by
 cases c with
 |ak=>exact h.elim
 |row m=>cases m<;>trivial
 |ptr m=>cases m<;>trivial
 |_=>trivial
def Og(n:Nat)(c:C)(hs:G n=c)(ho:c.ok w Z)(hr:c.rf G):(c.alias n []).ok w Z/\(c.alias n []).rf G/\∀b k,¬(c.alias n []).fp b k:=by
 have hs':(G n).sub []=some c:=by rw[hs];rfl
 cases c with
 |ak m f=>
  have key:∀j,j<m->((f j).gK n ([]++[(0,j)])).ok w Z/\((f j).gK n ([]++[(0,j)])).rf G/\∀b k,¬((f j).gK n ([]++[(0,j)])).fp b k:=λj hj=>
   Dp n _ (f j) (λm' f' e=>by have:=(ho.1 j hj).1;rw[e] at this;exact this) (sZ [] hs' (by simp[step,hj])) (ho.1 j hj).2 (hr j hj)
  refine⟨⟨λj hj=>⟨?_,(key j hj).1⟩,Sn λj hj=>(key j hj).2.2⟩,λj hj=>(key j hj).2.1,λb k ⟨j,hj,hf⟩=>(key j hj).2.2 b k hf⟩;exact WW _ _ _ (ho.1 j hj).1
 |row m sz A len cap e=>exact Dp n [] _ (λ_ _ e=>(by cases e)) hs' ho hr
 |ptr m g o k c=>exact Dp n [] _ (λ_ _ e=>(by cases e)) hs' ho hr
 |agg m c=>exact Dp n [] _ (λ_ _ e=>(by cases e)) hs' ho hr
 |_=>exact⟨ho,hr,λb k hf=>hf⟩
end C
end M
namespace M
open Go Go.RowKit
variable [Bs]
namespace C
def plain:C->Prop
 |.dead v=>v.oneCell'=true
 |.int _ _=>True
 |.bool _=>True
 |.str _=>True
 |.row _ _ _ _ _ _=>True
 |_=>False
def lg{c:C}(h:c.plain):c.cell:=by cases c<;>first|exact h|exact h.elim
def BE{c:C}(h:c.plain):c.cO:=by cases c<;>first|exact h|exact h.elim|trivial
def oc{c:C}(h:c.plain)(G:Nat->C):c.rf G:=by cases c<;>first|exact h.elim|trivial
def Lv{c:C}(h:c.plain)(t:Nat->Path->Bool):c.aA t=c:=xF t c (BE h)
def aeT(t:Nat->Path->Bool)(v:Value)(s:Nat)(q:Path)(x:Nat×Nat):(C.aA t (.ref v s q)).step x=none:=by simp only[aA];cases t s q<;>rfl
def aeP(t:Nat->Path->Bool)(v:Value)(s:Nat)(q:Path)(i c:Nat)(x:Nat×Nat):(C.aA t (.ax v s q i c)).step x=none:=by simp only[aA];cases t s q<;>rfl
def aeQ(t:Nat->Path->Bool)(v:Value)(s:Nat)(q:Path)(i c:Nat)(x:Nat×Nat):(C.aA t (.cut v s q i c)).step x=none:=by simp only[aA];cases t s q<;>rfl
def TO{c z:C}{x:Nat×Nat}(h:c.step x=some z)(y:C):(c.aW x y).step x=some y:=by
 cases c with
 |row m sz A len cap e=>
  simp only[step] at h⊢;split at h;·rename_i hq;simp[aW,step,hq]
  ·cases h
 |ptr m g o n c=>
  simp only[step] at h⊢;split at h;·rename_i hq;simp[aW,step,hq,bW]
  ·cases h
 |agg n c=>
  simp only[step] at h⊢;split at h;·rename_i hq;simp[aW,step,hq,bW]
  ·cases h
 |ak n c=>
  simp only[step] at h⊢;split at h;·rename_i hq;simp[aW,step,hq,bW]
  ·cases h
 |_=>simp[step] at h
def TR:∀(p q:Path) (c d y:C),c.sub p=some d->(putAt p c (.dead d.val)).sub q=some y->∃y',c.sub q=some y'/\y'.val=y.val/\(y'.plain->y.plain)
 |[],[],c,d,y,h,hy=>by
  simp only[sub] at h;injection h with h
  subst h;simp only[putAt,sub] at hy;injection hy with hy
  subst hy;exact⟨_,rfl,rfl,λhp=>Inv.qZ (lg hp)⟩
 |[],q::t,c,d,y,h,hy=>by simp[putAt,sub,step] at hy
 |x::p,[],c,d,y,h,hy=>by
  simp only[sub] at h;cases hst:c.step x with
  |none=>rw[hst] at h;cases h
  |some z=>
   rw[hst] at h;simp only[putAt,hst,sub] at hy;injection hy with hy
   subst hy;have hv:=(SH p z d h);exact⟨c,rfl,((hU.aW c x z _ hst hv).val).symm,λhp=>by cases c<;>first|exact hp.elim|trivial|(simp[step] at hst)⟩
 |x::p,q::t,c,d,y,h,hy=>by
  simp only[sub] at h;cases hst:c.step x with
  |none=>rw[hst] at h;cases h
  |some z=>
   rw[hst] at h;simp only[putAt,hst] at hy;simp only[sub] at hy⊢;by_cases Av:x=q;·subst Av;rw[hst];have hs:(c.aW x (putAt p z (.dead d.val))).step x=some (putAt p z (.dead d.val)):=TO hst _;rw[hs] at hy;exact TR p t z d y h hy
   ·have hs:(c.aW x (putAt p z (.dead d.val))).step q=c.step q:=by
     cases c with
     |row m sz A len cap e=>
      simp only[step,aW];split;·rw[aC];intro hh;exact Av (by cases x;cases q;simp only at hh;rw[hh.1,hh.2])
      ·rfl
     |ptr m g o n c=>
      simp only[step] at hst;split at hst
      ·rename_i hx;simp only[step,aW,bW];split;·rename_i hq;rw[aC];intro hh;exact Av (by cases x;cases q;simp only at hh hx hq;rw[hh,hx.1,hq.1])
       ·rfl
      ·cases hst
     |agg n c=>
      simp only[step] at hst;split at hst
      ·rename_i hx;simp only[step,aW,bW];split;·rename_i hq;rw[aC];intro hh;exact Av (by cases x;cases q;simp only at hh hx hq;rw[hh,hx.1,hq.1])
       ·rfl
      ·cases hst
     |ak n c=>
      simp only[step] at hst;split at hst
      ·rename_i hx;simp only[step,aW,bW];split;·rename_i hq;rw[aC];intro hh;exact Av (by cases x;cases q;simp only at hh hx hq;rw[hh,hx.1,hq.1])
       ·rfl
      ·cases hst
     |_=>simp[step] at hst
    rw[hs] at hy;cases hq:c.step q with
    |none=>rw[hq] at hy;cases hy
    |some z'=>rw[hq] at hy;exact⟨y,hy,rfl,λhp=>hp⟩
where
 SH:∀(p:Path) (z d:C),z.sub p=some d->(putAt p z (.dead d.val)).val=z.val
  |[],z,d,h=>by simp only[sub] at h;injection h with h;subst h;rfl
  |x::p,z,d,h=>by
   simp only[sub] at h
   cases hst:z.step x with
   |none=>rw[hst] at h;cases h
   |some z'=>
    rw[hst] at h
    simp only[putAt,hst]
    exact(hU.aW z x z' _ hst (SH p z' d h)).val
end C
structure fB (w:World) (zl zb:Nat->Nat->Prop) (G:Nat->C) (c:C) (G':Nat->C) (s':ah):Prop where
 inv:Inv w zl zb G' s'
 ok:c.ok w (Zf zl zb)
 rf:c.rf G'
 sep:∀t b k,c.fp b k->¬(G' t).fp b k
 fz:∀b k,c.fp b k->¬zl b k/\¬zb b k
 val:∀t,(G' t).val=(G t).val
 dom:∀b k,c.fp b k->∃t,(G t).fp b k
 mono:∀t b k,(G' t).fp b k->(G t).fp b k
variable {w:World}{zl zb:Nat->Nat->Prop}{G:Nat->C}{s:ah}
def fB.self(h:Inv w zl zb G s){c:C}(ho:c.ok w (Zf zl zb))(hr:c.rf G)(hn:∀b k,¬c.fp b k):fB w zl zb G c G s:=
 ⟨h,ho,hr,λt b k hf=>(hn b k hf).elim,λb k hf=>(hn b k hf).elim,λ_=>rfl,λb k hf=>(hn b k hf).elim,λ_ _ _ hf=>hf⟩
def weak(G:Nat->C)(v:Value)(r:Nat)(p:Path):Prop:=∀y,(G r).sub p=some y->y.val=v/\y.plain
def CQ{v:Value}{r:Nat}{p:Path}(h:(C.ref v r p).rf G):weak G v r p:=by
 obtain⟨y,z,hs,hF,hv,m,sz,A,len,cap,e,rfl⟩:=h;intro y' hy';rw[hs] at hy';injection hy' with hy'
 subst hy';cases hF;exact⟨hv,trivial⟩
def Sk(h:Inv w zl zb G s){v:Value}{r:Nat}{p:Path}(hw:weak G v r p)(hv:v.oneCell'=true):
  ∃c G',c.er=(move r p s).1/\c.val=v/\c.plain/\fB w zl zb G c G' (move r p s).2/\∀v' r' p',weak G v' r' p'->weak G' v' r' p':=by
 unfold move look;rw[<-h.er,C.gG];cases hs:(G r).sub p with
 |none=>exact⟨.dead v,G,rfl,rfl,hv,fB.self h trivial trivial (λ_ _ hf=>hf),λ_ _ _ hh=>hh⟩
 |some y=>
  obtain⟨nS,hyp⟩:=hw y hs;have h1:=h.kill r p;have hs1:((G r).aA (C.bG r p)).sub p=some (y.aA (C.bG r p)):=C.jg _ p _ _ (h.ok r) hs;rw[C.Lv hyp] at hs1;have pN:=C.gY p hs (h.ok r);obtain⟨⟨i1,i2,i3⟩,_⟩:=h1.Tw r p y (.dead y.val) (S:=λ_ _=>False) (λt=>C.gD _ _) (Ext.refl _ _) hs1 (λ_ _ hf=>hf.elim) trivial (Inv.FA _) trivial trivial (λ_ _ hf=>hf.elim);refine⟨y,_,?_,nS,hyp,⟨i1,pN,C.oc hyp _,?_,λb k hf=>h.fz r b k (C.gH p hs (h.ok r) hf),λt=>(i2 t).trans (C.jh _ _),λb k hf=>⟨r,C.gH p hs (h.ok r) hf⟩,λt b k hf=>?_⟩,λv' r' p' hw' y' hy'=>?_⟩;·show y.er=y.er.kill r p;rw[<-C.nV,C.Lv hyp]
  ·intro t b k hf hf';have Ky:=C.gH p hs (h.ok r) hf;by_cases e:t=r
   ·subst e;rw[dD] at hf';obtain⟨_,j2,_⟩:=C.Bz (λ_ _ _ h=>h) (Ext.refl (λ_ _=>False) w) (λm b k _ hs=>hs) p ((G t).aA (C.bG t p)) y (.dead y.val) (h1.ok t) hs1 trivial (Inv.FA _) (λ_ _ hs=>hs.elim) (λ_ _ hs=>hs.elim);rcases j2 b k hf' with hh|⟨_,hn⟩;·exact hh
    ·exact hn hf
   ·rw[cX _ _ e,C.cG] at hf';exact h.sep r t (λe'=>e e'.symm) b k Ky hf'
  ·rcases i3 t b k hf with ⟨_,hh⟩|hh;·exact hh.elim
   ·rwa [C.cG] at hh
  ·by_cases e:r'=r;·subst e;rw[dD] at hy';obtain⟨y1,a1,a2,a3⟩:=C.TR p p' _ _ _ hs1 hy';obtain⟨y2,b1,b2,b3⟩:=SG (C.bG r' p) p' _ (h.ok r') a1;obtain⟨c1,c2⟩:=hw' y2 b1;exact⟨by rw[<-a2,<-b2,c1],a3 (b3 c2)⟩
   ·rw[cX _ _ e] at hy';obtain⟨y2,b1,b2,b3⟩:=SG (C.bG r p) p' _ (h.ok r') hy';obtain⟨c1,c2⟩:=hw' y2 b1;exact⟨by rw[<-b2,c1],b3 c2⟩
where
 SG (t:Nat->Path->Bool):∀(q:Path) (c:C) {y:C},c.ok w (Zf zl zb)->(c.aA t).sub q=some y->∃y',c.sub q=some y'/\y'.val=y.val/\(y'.plain->y.plain):=by
  intro q c y ho hy
  cases hc:c.sub q with
  |some y'=>
   have:=C.jg t q c y' ho hc
   rw[hy] at this
   injection this with this
   subst this
   exact⟨y',rfl,(C.jh _ _).symm,λhp=>by rw[C.Lv hp];exact hp⟩
  |none=>
   exfalso
   induction q generalizing c with
   |nil=>simp[C.sub] at hc
   |cons x q ih=>
    simp only[C.sub] at hc hy
    have hstep:∀z,(c.aA t).step x=some z->∃z',c.step x=some z'/\z'.aA t=z:=by
     intro z hz
     cases c with
     |row m sz A len cap e=>
      simp only[C.aA,C.step] at hz⊢
      split at hz
      ·rename_i hq
       injection hz with hz
       rw[au hq]
       exact⟨_,rfl,by rw[<-hz];exact C.xF t _ (ho.2.2.1 _ _ hq.1 hq.2).2.1⟩
      ·cases hz
     |ptr m g o n c=>
      simp only[C.aA,C.step] at hz⊢
      split at hz
      ·rename_i hq
       injection hz with hz
       rw[au hq]
       exact⟨_,rfl,hz⟩
      ·cases hz
     |agg n c=>
      simp only[C.aA,C.step] at hz⊢
      split at hz
      ·rename_i hq
       injection hz with hz
       rw[au hq]
       exact⟨_,rfl,hz⟩
      ·cases hz
     |ak n c=>
      simp only[C.aA,C.step] at hz⊢
      split at hz
      ·rename_i hq
       injection hz with hz
       rw[au hq]
       exact⟨_,rfl,hz⟩
      ·cases hz
     |ref v s q=>rw[C.aeT] at hz;cases hz
     |ax v s q i c=>rw[C.aeP] at hz;cases hz
     |cut v s q i c=>rw[C.aeQ] at hz;cases hz
     |_=>simp[C.aA,C.step] at hz
    cases hz:(c.aA t).step x with
    |none=>rw[hz] at hy;cases hy
    |some z=>
     rw[hz] at hy
     obtain⟨z',fE,e⟩:=hstep z hz
     rw[fE] at hc
     subst e
     exact ih z' (C.vw fE ho) hy hc
end M
namespace M
open Go Go.RowKit
variable [Bs]
variable {w:World}{zl zb:Nat->Nat->Prop}{G:Nat->C}{s:ah}
structure zi (w:World) (zl zb:Nat->Nat->Prop) (G:Nat->C) (c:C):Prop where
 cell:c.cell
 ok:c.ok w (Zf zl zb)
 cM:∀b k,¬c.fp b k
 weak:∀v r p,c=.ref v r p->weak G v r p
structure bF (w:World) (zl zb:Nat->Nat->Prop) (G:Nat->C) (l':List C) (G':Nat->C) (s':ah):Prop where
 inv:Inv w zl zb G' s'
 all:∀c∈l',c.ok w (Zf zl zb)/\(∀t b k,c.fp b k->¬(G' t).fp b k)/\(∀b k,c.fp b k->¬zl b k/\¬zb b k)/\∀b k,c.fp b k->∃t,(G t).fp b k
 apart:l'.Pairwise λa b=>∀x k,a.fp x k->¬b.fp x k
 val:∀t,(G' t).val=(G t).val
 mono:∀t b k,(G' t).fp b k->(G t).fp b k
def bF.cons{c:C}{G1 G':Nat->C}{s1 s':ah}{l':List C}(h:fB w zl zb G c G1 s1)(hl:bF w zl zb G1 l' G' s'):bF w zl zb G (c::l') G' s' where
 inv:=hl.inv
 all:=λx hx=>by
  rcases b9.1 hx with rfl|hx;·exact⟨h.ok,λt b k hf hf'=>h.sep t b k hf (hl.mono t b k hf'),h.fz,h.dom⟩
  ·obtain⟨a1,a2,a3,a4⟩:=hl.all x hx;exact⟨a1,a2,a3,λb k hf=>by obtain⟨t,ht⟩:=a4 b k hf;exact⟨t,h.mono t b k ht⟩⟩
 apart:=eZ.2 ⟨λx hx b k hf hf'=>by obtain⟨t,ht⟩:=(hl.all x hx).2.2.2 b k hf';exact h.sep t b k hf ht,hl.apart⟩
 val:=λt=>(hl.val t).trans (h.val t)
 mono:=λt b k hf=>h.mono t b k (hl.mono t b k hf)
def bF.nil(h:Inv w zl zb G s):bF w zl zb G [] G s:=⟨h,λ_ hx=>(by cases hx),List.Pairwise.nil,λ_=>rfl,λ_ _ _ hf=>hf⟩
def val_one{c:C}(h:c.cell):c.val.oneCell'=true:=Inv.qZ h
def CL:∀(l:List C) (G:Nat->C) (s:ah),Inv w zl zb G s->(∀c∈l,zi w zl zb G c)->
  ∃l' G',l'.map C.er=(bT (l.map C.er) s).1/\l'.map C.val=l.map C.val/\(∀c∈l',c.plain)/\bF w zl zb G l' G' (bT (l.map C.er) s).2/\∀v' r' p',weak G v' r' p'->weak G' v' r' p'
 |[],G,s,h,hc=>⟨[],G,rfl,rfl,λ_ hx=>(by cases hx),bF.nil h,λ_ _ _ hh=>hh⟩
 |c::l,G,s,h,hc=>by
  have h0:=hc c (bq ..);have hl0:∀x∈l,zi w zl zb G x:=λx hx=>hc x (bO _ hx)
  have ji:∀d:C,d.plain->d.val=c.val->d.er=(bT (c.er::l.map C.er) s).1.headD .dead->(bT (c.er::l.map C.er) s).2=(bT (l.map C.er) s).2->(bT (c.er::l.map C.er) s).1.tail=(bT (l.map C.er) s).1->(bT (c.er::l.map C.er) s).1≠[]->d.ok w (Zf zl zb)->(∀b k,¬d.fp b k)->
    ∃l' G',l'.map C.er=(bT ((c::l).map C.er) s).1/\l'.map C.val=(c::l).map C.val/\(∀c∈l',c.plain)/\bF w zl zb G l' G' (bT ((c::l).map C.er) s).2/\∀v' r' p',weak G v' r' p'->weak G' v' r' p':=by
   intro d hp hv he h2 h3 h4 ho hn;obtain⟨l',G',e1,e2,e3,e4,e5⟩:=CL l G s h hl0;refine⟨d::l',G',?_,?_,?_,?_,e5⟩
   ·simp only[bn];rw[he,e1,<-h3];cases hh:(bT (c.er::l.map C.er) s).1 with
    |nil=>exact(h4 hh).elim
    |cons a t=>rfl
   ·simp only[bn,hv,e2]
   ·intro x hx;rcases b9.1 hx with rfl|hx;·exact hp
    ·exact e3 x hx
   ·simp only[bn];rw[h2];exact bF.cons (fB.self h ho (C.oc hp G) hn) e4
  have dead:∀v,v=c.val->C.plain (.dead v):=λv hv=>by subst hv;exact val_one h0.cell
  cases c with
  |ref v r p=>
   obtain⟨c',G1,f1,f2,f3,f4,f5⟩:=Sk h (h0.weak v r p rfl) h0.cell;obtain⟨l',G',e1,e2,e3,e4,e5⟩:=CL l G1 (move r p s).2 f4.inv (λx hx=>by obtain⟨a1,a2,a3,a4⟩:=hl0 x hx;exact⟨a1,a2,a3,λv' r' p' e=>f5 _ _ _ (a4 v' r' p' e)⟩)
   refine⟨c'::l',G',?_,?_,?_,bF.cons f4 e4,λ_ _ _ hh=>e5 _ _ _ (f5 _ _ _ hh)⟩;·simp only[bn,C.er,bT];rw[f1,e1]
   ·simp only[bn,f2,e2];rfl
   ·intro x hx;rcases b9.1 hx with rfl|hx;·exact f3
    ·exact e3 x hx
  |ax v r p i k=>exact ji (.dead v) (dead v rfl) rfl rfl rfl rfl (by simp[bT,C.er]) trivial (λ_ _ h=>h)
  |cut v r p i k=>exact ji (.dead v) (dead v rfl) rfl rfl rfl rfl (by simp[bT,C.er]) trivial (λ_ _ h=>h)
  |fn f n g=>exact ji (.dead _) (dead _ rfl) rfl rfl rfl rfl (by simp[bT,C.er]) trivial (λ_ _ h=>h)
  |ptr m g o n f=>exact ji (.dead _) (dead _ rfl) rfl rfl rfl rfl (by simp[bT,C.er]) trivial (λ_ _ h=>h)
  |agg n f=>exact h0.cell.elim
  |ak n f=>exact h0.cell.elim
  |dead v=>exact ji (.dead v) (dead v rfl) rfl rfl rfl rfl (by simp[bT,C.er]) trivial (λ_ _ h=>h)
  |int k n=>exact ji (.int k n) trivial rfl rfl rfl rfl (by simp[bT,C.er]) trivial (λ_ _ h=>h)
  |bool b=>exact ji (.bool b) trivial rfl rfl rfl rfl (by simp[bT,C.er]) trivial (λ_ _ h=>h)
  |str t=>exact ji (.str t) trivial rfl rfl rfl rfl (by simp[bT,C.er]) h0.ok (λ_ _ h=>h)
  |row m sz A len cap e=>exact ji (.row m sz A len cap e) trivial rfl rfl rfl rfl (by simp[bT,C.er]) h0.ok h0.cM
def gJ(l:List C):C:=.agg l.length λj=>l.getD j (.dead undef)
def l9{α β:Type}(l:List α)(d:α)(f:α->β):((List.range l.length).map λj=>f (l.getD j d))=l.map f:=by
 apply hO;intro i;rw[C.cU,cR];by_cases h:i<l.length;·rw[au h,cm h];simp[iT,cm h]
 ·rw[aC h,kQ (by omega)];rfl
def vV(l:List C):(gJ l).er=.agg (l.map C.er):=by simp only[gJ,C.er,l9]
def zj(l:List C):(gJ l).val=.agg (l.map C.val).toArray:=by simp only[gJ,C.val,l9]
def cI{α:Type}{l:List α}{j:Nat}(h:j<l.length)(d:α):l.getD j d∈l:=by rw[iT,cm h];exact cy h
def xI{l:List C}(h:l.Pairwise λa b=>∀x k,a.fp x k->¬b.fp x k)(d:C){i j:Nat}(hi:i<l.length)(hj:j<l.length)(hne:i≠j){b k:Nat}(hf:(l.getD i d).fp b k):¬(l.getD j d).fp b k:=by
 rw[iT,cm hi] at hf;rw[iT,cm hj];rcases Nat.lt_or_gt_of_ne hne with hlt|hlt;·exact qG.1 h i j hi hj hlt b k hf
 ·exact λhf'=>qG.1 h j i hj hi hlt b k hf' hf
def qQ(l:List C)(b k:Nat):(gJ l).fp b k↔∃c∈l,c.fp b k:=by
 constructor;·rintro ⟨j,hj,hf⟩;exact⟨_,cI hj _,hf⟩
 ·rintro ⟨c,hc,hf⟩;obtain⟨j,hj,rfl⟩:=vO hc;refine⟨j,hj,?_⟩;show (l.getD j (C.dead undef)).fp b k;rw[iT,cm hj];exact hf
def C.flat(c:C):Prop:=c.plain\/∃l:List C,c=gJ l/\∀x∈l,x.plain
structure ew (w:World) (zl zb:Nat->Nat->Prop) (G:Nat->C) (c:C):Prop where
 ok:c.ok w (Zf zl zb)
 rf:c.rf G
 cM:∀b k,¬c.fp b k
def LK{v:Value}{r:Nat}{p:Path}(h:(C.ref v r p).rf G):v.oneCell'=true:=by obtain⟨y,z,hs,hF,hv,m,sz,A,len,cap,e,rfl⟩:=h;cases hF;rw[<-hv];rfl
def PI{Z:Md->Nat->Nat->Prop}{sz:Nat}{A A':Option Ad}{len cap lo hi cap':Nat}{e:Nat->Nat->C}(h:(C.row .own sz A len cap e).ok w Z)(hlo:lo<=hi)(hhi:hi<=len)(hcap:hi - lo<=cap')
  (hc:lo+cap'=cap)(hA:(A'=A/\cap'=0)\/A'=A.map λq=>jq (lo*sz) q):
  (C.row .own sz A' (hi - lo) cap' λi j=>e (i+lo) j).ok w Z/\(∀b k,(C.row .own sz A' (hi - lo) cap' λi j=>e (i+lo) j).fp b k->(C.row .own sz A len cap e).fp b k)/\
   (C.row .own sz A' (hi - lo) cap' λi j=>e (i+lo) j).er=.row .own sz ((((List.range len).map λi=>(List.range sz).map λj=>(e i j).er).take hi).drop lo):=by
 obtain⟨h1,h2,h3,h4,h5⟩:=h
 have hb:∀b o,A'=some (b,o,none)->∃o',A=some (b,o',none):=λb o ho=>by
  rcases hA with ⟨hA,_⟩|hA;·exact⟨o,by rw[<-hA,ho]⟩
  ·cases A with
   |none=>rw[hA] at ho;cases ho
   |some q=>
    rcases h4 rfl with ⟨q1,_⟩|⟨g,o',_,_,_,q1,_⟩;·cases q1
    ·rw[hA,q1,cg,oW] at ho;injection ho with ho
     injection ho with ho _
     exact⟨o',by rw[q1,ho]⟩
 have hlt:hi - lo≠0->A'=A.map λq=>jq (lo*sz) q:=λhne=>hA.elim (λ⟨_,h0⟩=>(by omega)) id;refine⟨⟨hcap,λi j hi' hj=>?_,λi j hi' hj=>h3 (i+lo) j (by omega) hj,λ_=>?_,λi j hi' hj b k hf=>?_⟩,λb k hf=>?_,?_⟩;·obtain⟨g,o,q1,q2,q3⟩:=h2 (i+lo) j (by omega) hj;refine⟨g,o+lo*sz,by rw[hlt (by omega),q1,cg,oW],?_,λhm=>(hm rfl).elim⟩;rw[show o+lo*sz+i*sz+j=o+(i+lo)*sz+j by rw[e8];omega];exact q2
 ·rcases h4 rfl with ⟨q1,q2⟩|⟨g,o,arr,t,fz,q1,q2,q3,q4⟩;·refine .inl ⟨?_,by omega⟩;rcases hA with ⟨hA,_⟩|hA<;>rw[hA,q1];rfl
  ·refine .inr ?_;rcases hA with ⟨hA,h0⟩|hA;·exact⟨g,o,arr,t,fz,by rw[hA,q1],q2,by rw[h0];omega,λk hk1 hk2=>by rw[h0] at hk2;omega⟩
   ·have hm:lo*sz+cap'*sz=cap*sz:=by rw[<-e8,hc]
    exact⟨g,o+lo*sz,arr,t,fz,by rw[hA,q1,cg,oW],q2,by omega,λk hk1 hk2=>q4 k (by omega) (by omega)⟩
 ·obtain⟨a1,a2⟩:=h5 (i+lo) j (by omega) hj b k hf;refine⟨λ_ o ho=>?_,λi' j' hi2 hj2 hne=>a2 (i'+lo) j' (by omega) hj2 (λe=>hne ?_)⟩;·obtain⟨o',ho'⟩:=hb b o ho;exact a1 rfl o' ho'
  ·injection e with e1 e2
   rw[e2,show i=i' by omega]
 ·obtain⟨_,⟨o,ho⟩|⟨i,j,hi',hj,hf⟩⟩:=hf;·obtain⟨o',ho'⟩:=hb b o ho;exact⟨rfl,.inl ⟨o',ho'⟩⟩
  ·exact⟨rfl,.inr ⟨i+lo,j,by omega,hj,hf⟩⟩
 ·simp only[C.er,<-oL,<-lE,vG];rw[nC hhi];congr 1;apply hO;intro i;rw[C.cU,cR,oS];by_cases hh:i<hi - lo;·rw[au hh,tj (by omega),oP];rfl
  ·rw[aC hh,kQ (by simp;omega)];rfl
def aen(h:Inv w zl zb G s){v:Value}{r:Nat}{p:Path}{lo hi:Nat}(hr:(C.cut v r p lo hi).rf G):
  ∃c G',c.er=(xw r p lo hi s).1/\c.val=v/\((C.cut v r p lo hi).cell->c.cell)/\fB w zl zb G c G' (xw r p lo hi s).2:=by
 have hr':=hr;obtain⟨m,sz,A,len,cap,e,A',cap',hs,hv,hlo,hhi,hcap,kj,hc,hAA⟩:=hr;unfold xw look;rw[<-h.er,C.gG,hs];cases m with
 |own=>obtain⟨c,G',c1,c2,c3,c4,c5,c6,c7,c8,c9,I2,I3,c12⟩:=h.vz r p _ hs;obtain rfl:=c7 trivial;obtain⟨i1,i2,i3⟩:=PI c4 hlo hhi hcap hc hAA;refine⟨.row .own sz A' (hi - lo) cap' λi j=>e (i+lo) j,G',i3,?_,λ_=>trivial,⟨c3,i1,trivial,λt b k hf=>c8 t b k (i2 b k hf),λb k hf=>h.fz r b k (c9 b k (i2 b k hf)),I2,λb k hf=>⟨r,c9 b k (i2 b k hf)⟩,I3⟩⟩;rw[hv];rfl
 |sl=>exact⟨.cut v r p lo hi,G,rfl,rfl,λhh=>hh,fB.self h trivial hr' λ_ _ hh=>hh⟩
 |af=>exact⟨.cut v r p lo hi,G,rfl,rfl,λhh=>hh,fB.self h trivial hr' λ_ _ hh=>hh⟩
def aem(h:Inv w zl zb G s){v:Value}{r:Nat}{p:Path}{i j:Nat}(hr:(C.ax v r p i j).rf G):
  ∃c G',c.er=(Bv r p i j s).1/\c.val=v/\((C.ax v r p i j).cell->c.cell)/\fB w zl zb G c G' (Bv r p i j s).2:=by
 have same:∃c G',c.er=X.ax r p i j/\c.val=v/\((C.ax v r p i j).cell->c.cell)/\fB w zl zb G c G' s:=⟨.ax v r p i j,G,rfl,rfl,λhh=>hh,fB.self h trivial hr λ_ _ hh=>hh⟩;obtain⟨y,hs,hy⟩:=hr;unfold Bv look;rw[<-h.er,C.gG,hs];rcases hy with ⟨m,sz,g,o,len,cap,e,rfl,hv⟩|⟨m,g,o,n,cc,rfl,hi,hv⟩;·exact same
 ·cases m with
  |own=>
   show ∃c G',c.er=(bif i==0 && j==0 then _ else _:X×ah).1/\_/\_/\fB w zl zb G c G' (bif i==0 && j==0 then _ else _:X×ah).2;cases hij:(i==0 && j==0) with
   |false=>exact same
   |true=>simp only[az,eu] at hij;obtain⟨rfl,rfl⟩:=hij;obtain⟨c,G',c1,c2,c3,c4,c5,c6,c7,c8,c9,I2,I3,c12⟩:=h.vz r p _ hs;exact⟨c,G',c1,by rw[c2,hv];rfl,λ_=>c6.2 trivial,⟨c3,c4,c5,c8,λb k hf=>h.fz r b k (c9 b k hf),I2,λb k hf=>⟨r,c9 b k hf⟩,I3⟩⟩
  |sl=>exact same
  |af=>exact same
def qC(tk:Tk)(h:Inv w zl zb G s){c0:C}(ho:ew w zl zb G c0):
  ∃c G',c.er=(take tk c0.er s).1/\c.val=c0.val/\(c0.cell->c.cell)/\fB w zl zb G c G' (take tk c0.er s).2:=by
 have same:(take tk c0.er s)=(c0.er,s)->∃c G',c.er=(take tk c0.er s).1/\c.val=c0.val/\(c0.cell->c.cell)/\fB w zl zb G c G' (take tk c0.er s).2:=λe=>by rw[e];exact⟨c0,G,rfl,rfl,λh=>h,fB.self h ho.ok ho.rf ho.cM⟩
 cases c0 with
 |ref v r p=>
  have ug:∃c G',c.er=(move r p s).1/\c.val=v/\((C.ref v r p).cell->c.cell)/\fB w zl zb G c G' (move r p s).2:=by obtain⟨c',G1,f1,f2,f3,f4,f5⟩:=Sk h (CQ ho.rf) (LK ho.rf);exact⟨c',G1,f1,f2,λ_=>C.lg f3,f4⟩
  cases tk with
  |mv=>exact ug
  |al=>exact same rfl
  |aK=>cases p with
   |nil=>exact ug
   |cons q p=>exact same rfl
 |cut v r p lo hi=>
  have ug:=aen h ho.rf;cases tk with
  |mv=>exact ug
  |al=>exact same rfl
  |aK=>cases p with
   |nil=>exact ug
   |cons q p=>exact same rfl
 |ax v r p i j=>
  cases tk with
  |mv=>exact aem h ho.rf
  |al=>exact same rfl
  |aK=>exact same rfl
 |agg n f=>
  cases tk with
  |mv=>
   have hcells:∀c∈(List.range n).map f,zi w zl zb G c:=λc hc=>by
    obtain⟨j,hj,rfl⟩:=bg.1 hc;have hj':j<n:=by simpa using hj
    exact⟨(ho.ok.1 j hj').1,(ho.ok.1 j hj').2,λb k hf=>ho.cM b k ⟨j,hj',hf⟩,λv r p e=>CQ (by rw[<-e];exact ho.rf j hj')⟩
   obtain⟨l',G',e1,e2,e3,e4,e5⟩:=CL _ G s h hcells;have er:(C.agg n f).er=.agg (((List.range n).map f).map C.er):=by simp only[C.er,cH];rfl
   rw[er];show ∃c G',c.er=X.agg (bT _ s).1/\_/\_/\fB w zl zb G c G' (bT _ s).2;refine⟨gJ l',G',by rw[vV,e1],?_,λhc=>hc.elim,⟨e4.inv,⟨λj hj=>⟨C.lg (e3 _ (cI hj _)),(e4.all _ (cI hj _)).1⟩,λj hj b k hf j' hj' hne=>xI e4.apart _ hj hj' hne hf⟩,λj hj=>C.oc (e3 _ (cI hj _)) _,?_,?_,e4.val,?_,e4.mono⟩⟩;·rw[zj,e2];simp only[C.val,cH];rfl
   ·intro t b k hf hf';obtain⟨c,hc,hf⟩:=(qQ _ _ _).1 hf;exact(e4.all c hc).2.1 t b k hf hf'
   ·intro b k hf;obtain⟨c,hc,hf⟩:=(qQ _ _ _).1 hf;exact(e4.all c hc).2.2.1 b k hf
   ·intro b k hf;obtain⟨c,hc,hf⟩:=(qQ _ _ _).1 hf;exact(e4.all c hc).2.2.2 b k hf
  |al=>exact same rfl
  |aK=>exact same rfl
 |_=>exact same (by cases tk<;>rfl)
def SK{c:Ctx}{zl:Nat->Nat->Prop}{a:Act}(h:St c G zl s a w)(n:Nat):((G n).alias n []).er=av s (.t n)/\((G n).alias n []).val=(G n).val/\ew w zl c.zb G ((G n).alias n []):=by obtain⟨a1,a2,a3⟩:=C.Og n (G n) rfl (h.inv.ok n) (h.inv.rf n);refine⟨?_,C.Oi _ _ _,⟨a1,a2,a3⟩⟩;rw[C.Oh,h.inv.er];rfl
end M
namespace M
open Go Go.RowKit
variable [Bs]
namespace C
variable {w:World}{Z:Md->Nat->Nat->Prop}
def p9:C->Prop
 |.row m _ _ _ _ _=>m=.own
 |.ptr m _ _ _ _=>m=.own
 |.agg _ _=>True
 |.ak _ _=>True
 |_=>False
def aeW{d0 y:C}{q:Nat×Nat}{v:Value}(h:d0.ok w Z)(hq:d0.step q=some (.dead v))(ho:d0.p9)(hp:y.plain)(hv:y.val=v)(hy:y.ok w Z)(hsep:∀b k,y.fp b k->¬d0.fp b k):
  (d0.aW q y).ok w Z/\∀b k,(d0.aW q y).fp b k->d0.fp b k\/y.fp b k:=by
 have hc:=lg hp;have hs:=BE hp;have hnt:y.fY:=by cases y<;>first|trivial|exact hp.elim
 have agg:∀(n:Nat) (f:Nat->C) (pr:C->Prop),(∀j,j<n->pr (f j)/\(f j).ok w Z)->pr y->(∀j,j<n->∀b k,(f j).fp b k->∀j',j'<n->j≠j'->¬(f j').fp b k)->(∀b k,y.fp b k->¬∃j,j<n/\(f j).fp b k)->
   ((∀j,j<n->pr (bW f q.2 y j)/\(bW f q.2 y j).ok w Z)/\(∀j,j<n->∀b k,(bW f q.2 y j).fp b k->∀j',j'<n->j≠j'->¬(bW f q.2 y j').fp b k))/\∀b k,(∃j,j<n/\(bW f q.2 y j).fp b k)->(∃j,j<n/\(f j).fp b k)\/y.fp b k:=by
  intro n f pr h1 hpy h2 h3;refine⟨⟨λj hj=>?_,λj hj b k hf j' hj' hne=>?_⟩,λb k ⟨j,hj,hf⟩=>?_⟩
  ·unfold bW;split;·exact⟨hpy,hy⟩
   ·exact h1 j hj
  ·unfold bW at hf⊢;split at hf;·rename_i e;rw[aC (λe'=>hne (e.trans e'.symm))];exact λhf'=>h3 b k hf ⟨j',hj',hf'⟩
   ·split;·exact λhf'=>h3 b k hf' ⟨j,hj,hf⟩
    ·exact h2 j hj b k hf j' hj' hne
  ·unfold bW at hf;split at hf;·exact .inr hf
   ·exact .inl ⟨j,hj,hf⟩
 have ajA:∀(n:Nat) (f:Nat->C) (j:Nat),q.2<n->f q.2=.dead v->(bW f q.2 y j).val=(f j).val:=by
  intro n f j _ hf;unfold bW;split;·rename_i e;rw[e,hf,hv];rfl
  ·rfl
 cases d0 with
 |row m sz A len cap e=>
  obtain rfl:m=.own:=ho;simp only[step] at hq;split at hq
  ·rename_i hlt;injection hq with hq
   obtain⟨h1,h2,h3,h4,h5⟩:=h;have ku:∀i j,i<len->j<sz->∀b k,(e i j).fp b k->(C.row .own sz A len cap e).fp b k:=λi j hi hj b k hf=>⟨rfl,.inr ⟨i,j,hi,hj,hf⟩⟩;refine⟨⟨h1,λi j hi hj=>?_,λi j hi hj=>?_,h4,λi j hi hj b k hf=>?_⟩,λb k hf=>?_⟩
   ·obtain⟨g,o,a1,a2,a3⟩:=h2 i j hi hj;refine⟨g,o,a1,?_,a3⟩;rw[a2];show _=some (if i=q.1/\j=q.2 then y else e i j).val;split;·rename_i hh;rw[hh.1,hh.2,hq,hv];rfl
    ·rfl
   ·show (if i=q.1/\j=q.2 then y else e i j).cell/\(if i=q.1/\j=q.2 then y else e i j).cO/\(if i=q.1/\j=q.2 then y else e i j).fits .own/\(if i=q.1/\j=q.2 then y else e i j).ok w Z;split;·exact⟨hc,hs,by cases y<;>first|trivial|exact .inl rfl,hy⟩
    ·exact h3 i j hi hj
   ·have hf:(if i=q.1/\j=q.2 then y else e i j).fp b k:=hf;refine⟨λhm o hA=>?_,λi' j' hi' hj' hne hf'=>?_⟩
    ·split at hf;·exact hsep b k hf ⟨rfl,.inl ⟨o,hA⟩⟩
     ·exact(h5 i j hi hj b k hf).1 hm o hA
    ·have hf':(if i'=q.1/\j'=q.2 then y else e i' j').fp b k:=hf';split at hf
     ·rename_i e1;split at hf';·rename_i e2;exact hne (by rw[e1.1,e1.2,e2.1,e2.2])
      ·exact hsep b k hf (ku i' j' hi' hj' b k hf')
     ·split at hf';·exact hsep b k hf' (ku i j hi hj b k hf)
      ·exact(h5 i j hi hj b k hf).2 i' j' hi' hj' hne hf'
   ·obtain⟨hm,hA|⟨i,j,hi,hj,hf⟩⟩:=hf;·exact .inl ⟨rfl,.inl hA⟩
    ·have hf:(if i=q.1/\j=q.2 then y else e i j).fp b k:=hf;split at hf;·exact .inr hf
     ·exact .inl (ku i j hi hj b k hf)
  ·cases hq
 |ptr m g o n f=>
  obtain rfl:m=.own:=ho;simp only[step] at hq;split at hq
  ·rename_i hlt;injection hq with hq
   obtain⟨h1,h2,h3,h4⟩:=h;obtain⟨⟨a1,a2⟩,a3⟩:=agg n f (λc=>c.cell/\c.fits .own) (λj hj=>⟨⟨(h3 j hj).1,(h3 j hj).2.1⟩,(h3 j hj).2.2⟩) ⟨hc,by cases y<;>first|trivial|exact .inl rfl⟩ (λj hj b k hf j' hj' hne=>(h4 j hj b k hf).2 j' hj' hne) (λb k hf ⟨j,hj,hf'⟩=>hsep b k hf ⟨rfl,.inr ⟨j,hj,hf'⟩⟩);refine⟨⟨λj hj=>?_,h2,λj hj=>⟨(a1 j hj).1.1,(a1 j hj).1.2,(a1 j hj).2⟩,λj hj b k hf=>⟨λhm hh=>?_,λj' hj' hne=>a2 j hj b k hf j' hj' hne⟩⟩,λb k hf=>?_⟩;·rw[ajA n f j hlt.2 hq];exact h1 j hj
   ·have hf:(bW f q.2 y j).fp b k:=hf;unfold bW at hf;split at hf;·exact hsep b k hf ⟨rfl,.inl hh⟩
    ·exact(h4 j hj b k hf).1 hm hh
   ·obtain⟨_,hh|hh⟩:=hf;·exact .inl ⟨rfl,.inl hh⟩
    ·exact(a3 b k hh).imp (λhh=>⟨rfl,.inr hh⟩) id
  ·cases hq
 |agg n f=>obtain⟨a1,a2⟩:=agg n f C.cell h.1 hc h.2 hsep;exact⟨a1,a2⟩
 |ak n f=>obtain⟨a1,a2⟩:=agg n f C.fY h.1 hnt h.2 hsep;exact⟨a1,a2⟩
 |_=>exact ho.elim
end C
namespace Inv
variable {w:World}{zl zb:Nat->Nat->Prop}{G:Nat->C}{s:ah}
def zO{r:Nat}{P:Path}{v:Value}(hd:(G r).sub P=some (.dead v)):∀c:C,c.rf G->c.free (C.bG r P)
 |.ref v' r' q,hr=>by obtain⟨y,z,hs,hF,_⟩:=hr;exact out hs (by cases hF<;>rfl)
 |.ax v' r' q i c,hr=>by obtain⟨y,hs,hy⟩:=hr;exact out hs (by rcases hy with ⟨m,sz,g,o,len,cap,e,rfl,hv⟩|⟨m,g,o,n,cc,rfl,hi,hv⟩<;>rfl)
 |.cut v' r' q lo hi,hr=>by obtain⟨m,sz,A,len,cap,e,A',cap',hs,_⟩:=hr;exact out hs rfl
 |.ptr m g o n c,hr=>λj hj=>zO hd (c j) (hr j hj)
 |.agg n c,hr=>λj hj=>zO hd (c j) (hr j hj)
 |.ak n c,hr=>λj hj=>zO hd (c j) (hr j hj)
 |.fn f n c,hr=>λj hj=>zO hd (c j) (hr j hj)
 |.dead _,_=>trivial
 |.int _ _,_=>trivial
 |.bool _,_=>trivial
 |.str _,_=>trivial
 |.row _ _ _ _ _ _,_=>trivial
where
 out {r':Nat} {q:Path} {y:C} (hs:(G r').sub q=some y) (hy:y.er.iL=true):C.bG r P r' q=false:=by
  unfold C.bG
  cases h1:(r'==r) with
  |false=>rfl
  |true=>
   cases h2:X.pfx P q with
   |false=>rfl
   |true=>
    exfalso
    have h1:r'=r:=by simpa using h1
    subst h1
    obtain⟨t,rfl⟩:=Ls P q h2
    rw[C.Hz P t hd] at hs
    cases t with
    |nil=>simp only[C.sub] at hs;injection hs with hs;subst hs;simp[C.er,X.iL] at hy
    |cons x t=>simp[C.sub,C.step] at hs
def abR(h:Inv w zl zb G s){r:Nat}{p0:Path}{q:Nat×Nat}{d0 y:C}{v:Value}(h0:(G r).sub p0=some d0)(hq:d0.step q=some (.dead v))(ho:d0.p9)(hp:y.plain)(hv:y.val=v)(hok:y.ok w (Zf zl zb))
  (hsep:∀t b k,y.fp b k->¬(G t).fp b k)(hfz:∀b k,y.fp b k->¬zl b k/\¬zb b k):
  ∃G',G'=fH G r (C.putAt p0 (G r) (d0.aW q y))/\Inv w zl zb G' ((r,X.putAt (p0++[q]) (get s r) y.er)::s)/\(∀t,(G' t).val=(G t).val)/\∀t b k,(G' t).fp b k->(G t).fp b k\/y.fp b k:=by
 have hd0:=C.gY p0 h0 (h.ok r);have hin:∀b k,d0.fp b k->(G r).fp b k:=λb k hf=>C.gH p0 h0 (h.ok r) hf;obtain⟨a1,a2⟩:=C.aeW hd0 hq ho hp hv hok (λb k hf hf'=>hsep r b k hf (hin b k hf'));have ED:(G r).sub (p0++[q])=some (.dead v):=C.sZ p0 h0 hq;obtain⟨⟨i1,i2,i3⟩,_⟩:=h.Hp r p0 (p0++[q]) d0 (d0.aW q y) y (S:=λ_ _=>False) (C.BH p0 h0 hq) (λt=>zO ED (G t) (h.rf t)) (Ext.refl _ _) h0 (λ_ _ hf=>hf.elim) a1 (C.hU.aW d0 q (.dead v) y hq (by rw[hv];rfl)) (C.oc hp G) (by cases y<;>first|trivial|exact hp.elim) (λb k hf=>(a2 b k hf).imp id λhf=>⟨λt=>hsep t b k hf,hfz b k hf⟩)
 refine⟨_,rfl,i1,i2,λt b k hf=>?_⟩;rcases i3 t b k hf with ⟨e,jy⟩|jy;·rw[e];exact(a2 b k jy).imp (hin b k) id
 ·exact .inl jy
end Inv
end M
namespace M
open Go Go.RowKit
variable [Bs]
namespace C
def Uk:∀(P:Path) {c d y:C},c.sub P=some d->y.val=d.val->(putAt P c y).val=c.val
 |[],c,d,y,h,hv=>by simp only[sub] at h;injection h with h;subst h;exact hv
 |x::P,c,d,y,h,hv=>by
  simp only[sub] at h;cases hst:c.step x with
  |none=>rw[hst] at h;cases h
  |some z=>rw[hst] at h;simp only[putAt,hst];exact(hU.aW c x z _ hst (Uk P h hv)).val
def agD{c z:C}{x x':Nat×Nat}(hst:c.step x=some z)(hne:x'≠x)(y:C):(c.aW x y).step x'=c.step x':=by
 have hu:∀f:Nat->C,x'.1=0->x.1=0->bW f x.2 y x'.2=f x'.2:=λf h1 h2=>by unfold bW;rw[aC];intro e;apply hne;cases x;cases x';simp_all
 cases c with
 |row m sz A len cap e=>
  simp only[aW,step];split;·congr 1;rw[aC];rintro ⟨e1,e2⟩;exact hne (Prod.ext e1 e2)
  ·rfl
 |ptr m g o n f=>
  simp only[step] at hst;split at hst
  ·rename_i h0;simp only[aW,step];split;·rename_i hh;rw[hu f hh.1 h0.1]
   ·rfl
  ·cases hst
 |agg n f=>
  simp only[step] at hst;split at hst
  ·rename_i h0;simp only[aW,step];split;·rename_i hh;rw[hu f hh.1 h0.1]
   ·rfl
  ·cases hst
 |ak n f=>
  simp only[step] at hst;split at hst
  ·rename_i h0;simp only[aW,step];split;·rename_i hh;rw[hu f hh.1 h0.1]
   ·rfl
  ·cases hst
 |_=>rfl
def TS:∀(P q:Path) {c d y z:C},c.sub P=some d->y.val=d.val->X.pfx P q=false->(putAt P c y).sub q=some z->∃z0,c.sub q=some z0/\z.val=z0.val/\(z0.plain->z.plain)
 |[],q,c,d,y,z,_,_,h,_=>by simp[X.pfx] at h
 |x::P,q,c,d,y,z,hd,hv,hp,hs=>by
  simp only[sub] at hd;cases hst:c.step x with
  |none=>rw[hst] at hd;cases hd
  |some c1=>
   rw[hst] at hd;have hd':c1.sub P=some d:=hd;have hval:=Uk P hd' hv;cases q with
   |nil=>
    simp only[sub,putAt,hst] at hs;injection hs with hs
    subst hs;refine⟨c,rfl,(hU.aW c x c1 _ hst hval).val,λhpl=>?_⟩;cases c<;>first|exact hpl|trivial
   |cons x' q=>
    simp only[sub,putAt,hst] at hs;by_cases hne:x'=x
    ·subst hne;rw[TO hst] at hs;have hp':X.pfx P q=false:=by simpa [X.pfx] using hp
     obtain⟨z0,a1,a2⟩:=TS P q hd' hv hp' hs;exact⟨z0,by simp only[sub,hst];exact a1,a2⟩
    ·rw[agD hst hne] at hs;exact⟨z,hs,rfl,λh=>h⟩
end C
variable {w:World}{zl zb:Nat->Nat->Prop}
def abS{G:Nat->C}{s:ah}(h:Inv w zl zb G s){r:Nat}{p:Path}(hg:Eo s r p=true):∃p0 q d0 v,p=p0++[q]/\(G r).sub p0=some d0/\d0.step q=some (.dead v)/\d0.p9:=by
 unfold Eo at hg;split at hg
 ·rename_i hl;split at hg
  ·rename_i q hq
   have hp:p=p.dropLast++[q]:=by
    have hne:p≠[]:=by intro e;subst e;simp at hq
    rw[List.getLast?_eq_some_getLast hne] at hq;injection hq with hq
    rw[<-hq];exact(List.dropLast_concat_getLast hne).symm
   have own:∀x,look s r p.dropLast=some x->∃d0,(G r).sub p.dropLast=some d0/\d0.er=x:=λx hx=>by
    unfold look at hx;rw[<-h.er,C.gG] at hx;cases hs:(G r).sub p.dropLast with
    |none=>rw[hs] at hx;cases hx
    |some d0=>rw[hs] at hx;exact⟨d0,rfl,by simpa using hx⟩
   have fin:∀d0,(G r).sub p.dropLast=some d0->d0.p9->∃p0 q d0 v,p=p0++[q]/\(G r).sub p0=some d0/\d0.step q=some (.dead v)/\d0.p9:=λd0 h0 ho=>by
    unfold look at hl;rw[<-h.er,C.gG,hp,C.Hz p.dropLast [q] h0] at hl;have hl':((d0.step q).bind λz=>some z).map C.er=some .dead:=by simpa [C.sub] using hl
    cases hst:d0.step q with
    |none=>rw[hst] at hl';cases hl'
    |some z=>
     rw[hst] at hl';have:z.er=.dead:=by simpa using hl'
     cases z with
     |dead v=>exact⟨p.dropLast,q,d0,v,hp,h0,hst,ho⟩
     |_=>simp[C.er] at this
   split at hg
   ·rename_i hx;obtain⟨d0,a1,a2⟩:=own _ hx
    have:d0.p9:=by
     cases d0 with
     |row m sz A len cap e=>simp only[C.er,X.row.injEq] at a2;exact a2.1
     |_=>simp[C.er] at a2
    exact fin _ a1 this
   ·rename_i hx;obtain⟨d0,a1,a2⟩:=own _ hx
    have:d0.p9:=by
     cases d0 with
     |ptr m g o n c=>simp only[C.er,X.ptr.injEq] at a2;exact a2.1
     |_=>simp[C.er] at a2
    exact fin _ a1 this
   ·rename_i hx;obtain⟨d0,a1,a2⟩:=own _ hx;have:d0.p9:=by cases d0<;>first|trivial|(simp[C.er] at a2)
    exact fin _ a1 this
   ·rename_i hx;obtain⟨d0,a1,a2⟩:=own _ hx;have:d0.p9:=by cases d0<;>first|trivial|(simp[C.er] at a2)
    exact fin _ a1 this
   ·cases hg
  ·cases hg
 ·cases hg
def SN{r:Nat}{p:Path}:∀{l:List X},uJ r p l=true->∀r' p',X.ref r' p'∈l->¬(r'=r/\X.pfx p p'=true)
 |[],_,_,_,hm=>by cases hm
 |x::l,h,r',p',hm=>by
  rcases b9.1 hm with rfl|hm
  ·simp only[uJ,az,tf,Bool.and_eq_false_iff,beq_eq_false_iff_ne] at h;rintro ⟨rfl,h2⟩;rcases h.1 with h1|h1;·exact h1 rfl
   ·rw[h1] at h2;cases h2
  ·refine SN (l:=l) ?_ r' p' hm;cases x<;>first|exact h|(simp only[uJ,az] at h;exact h.2)
def Dv:∀(cs ys:List C) {G:Nat->C} {s s':ah},Inv w zl zb G s->ys.length=cs.length->(∀v r p,C.ref v r p∈cs->weak G v r p)->
  (∀(i:Nat) c y,cs[i]?=some c->ys[i]?=some y->y.plain/\y.val=c.val/\y.ok w (Zf zl zb))->(∀y∈ys,(∀t b k,y.fp b k->¬(G t).fp b k)/\∀b k,y.fp b k->¬zl b k/\¬zb b k)->
  (ys.Pairwise λa b=>∀x k,a.fp x k->¬b.fp x k)->mF (cs.map C.er) (ys.map C.er) s=some s'->
  ∃G',Inv w zl zb G' s'/\(∀t,(G' t).val=(G t).val)/\∀t b k,(G' t).fp b k->(G t).fp b k\/∃y∈ys,y.fp b k
 |[],ys,G,s,s',h,_,_,_,_,_,hb=>by simp only[lF,mF,dP] at hb;subst hb;exact⟨G,h,λ_=>rfl,λt b k hf=>.inl hf⟩
 |c::cs,[],_,_,_,_,hl,_,_,_,_,_=>by simp at hl
 |c::cs,y::ys,G,s,s',h,hl,hw,hy,hsep,gQ,hb=>by
  have hl':ys.length=cs.length:=by simpa using hl
  obtain⟨hp,hv,hok⟩:=hy 0 c y rfl rfl;have wN:=eZ.1 gQ;have skip:mF (cs.map C.er) (ys.map C.er) s=some s'->∃G',Inv w zl zb G' s'/\(∀t,(G' t).val=(G t).val)/\∀t b k,(G' t).fp b k->(G t).fp b k\/∃y'∈y::ys,y'.fp b k:=λhb=>by obtain⟨G',g1,g2,g3⟩:=Dv cs ys h hl' (λv r p hm=>hw v r p (bO _ hm)) (λi c y h1 h2=>hy (i+1) c y (by simpa using h1) (by simpa using h2)) (λy hm=>hsep y (bO _ hm)) wN.2 hb;exact⟨G',g1,g2,λt b k hf=>(g3 t b k hf).imp id λ⟨y,hm,hf⟩=>⟨y,bO _ hm,hf⟩⟩
  cases c with
  |ref v r p=>
   simp only[bn,C.er,mF] at hb;cases hg:(Eo s r p && uJ r p (cs.map C.er)) with
   |false=>rw[hg] at hb;cases hb
   |true=>
    rw[hg,lG] at hb;simp only[az] at hg;obtain⟨p0,q,d0,v0,hpq,h0,hq,ho⟩:=abS h hg.1;have ED:(G r).sub p=some (.dead v0):=by rw[hpq];exact C.sZ p0 h0 hq
    have hv0:v0=v:=(hw v r p (bq ..) _ ED).1;have nS:y.val=v0:=by rw[hv,hv0];rfl
    obtain⟨G1,e1,i1,i2,i3⟩:=h.abR h0 hq ho hp nS hok (hsep y (bq ..)).1 (hsep y (bq ..)).2;rw[<-hpq] at i1;have he:C.putAt p0 (G r) (d0.aW q y)=C.putAt p (G r) y:=by rw[hpq,C.BH p0 h0 hq]
    rw[he] at e1
    obtain⟨G',g1,g2,g3⟩:=Dv cs ys i1 hl' (λv' r' p' hm=>by
     have hold:=hw v' r' p' (bO _ hm);have hno:=SN hg.2 r' p' (by have:=j6 (f:=C.er) hm;exact this);intro z hz;rw[e1] at hz;by_cases er:r'=r
     ·subst er;rw[dD] at hz
      have hpf:X.pfx p p'=false:=by
       cases hh:X.pfx p p' with
       |false=>rfl
       |true=>exact(hno ⟨rfl,hh⟩).elim
      obtain⟨z0,a1,a2,a3⟩:=C.TS p p' ED (by rw[nS];rfl) hpf hz;obtain⟨b1,b2⟩:=hold z0 a1;exact⟨a2.trans b1,a3 b2⟩
     ·rw[cX _ _ er] at hz;exact hold z hz) (λi c y h1 h2=>hy (i+1) c y (by simpa using h1) (by simpa using h2)) (λy' hm=>⟨λt b k hf hf'=>by
      rcases i3 t b k hf' with hh|hh;·exact(hsep y' (bO _ hm)).1 t b k hf hh
      ·exact wN.1 y' hm b k hh hf,(hsep y' (bO _ hm)).2⟩) wN.2 hb
    refine⟨G',g1,λt=>(g2 t).trans (i2 t),λt b k hf=>?_⟩;rcases g3 t b k hf with hh|⟨y',hm,hh⟩
    ·rcases i3 t b k hh with hh|hh;·exact .inl hh
     ·exact .inr ⟨y,bq ..,hh⟩
    ·exact .inr ⟨y',bO _ hm,hh⟩
  |_=>exact skip (by simpa only[bn,C.er,mF] using hb)
end M
namespace M
open Go Go.RowKit
variable [Bs]
def aeX{v:Value}(h:v.oneCell'=true):v.cells= #[v]:=by cases v<;>first|rfl|(simp[Value.oneCell'] at h)
namespace St
variable {c:Ctx}{G G1:Nat->C}{zl:Nat->Nat->Prop}{s s1:ah}{a:Act}{w w':World}
def move(h:St c G zl s a w)(hi:Inv w' zl c.zb G1 s1)(hv:∀t,(G1 t).val=(G t).val){S:Nat->Nat->Prop}(hE:Ext S w w')(hS:∀b k,S b k->c.F0 b k\/c.w0.heap.size<=b)
  (hd:∀t b k,(G1 t).fp b k->(∃u,(G u).fp b k)\/w.heap.size<=b):St c G1 zl s1 a w' where
 inv:=hi
 val:=λt ht=>(hv t).trans (h.val t ht)
 size:=h.size
 small:=h.small
 defers:=h.defers
 tr:=⟨h.tr.ext.trans hE (λb k hs hb=>(hS b k hs).elim id (λhs=>by omega)),λt b k hf=>by
  rcases hd t b k hf with ⟨u,hu⟩|hb;·exact h.tr.dom u b k hu
  ·exact .inr (jo h.tr.ext.size hb),h.tr.oT,h.tr.zl,h.tr.gl,h.tr.z7⟩
 args:=λi v hi=>(hv _).trans (h.args i v hi)
def put(h:St c G zl s a w){x:C}{n:Nat}(hn:n<c.nt)(hok:x.ok w (Zf zl c.zb))(hsep:∀t,t≠n->∀b k,x.fp b k->¬(G t).fp b k)(hfz:∀b k,x.fp b k->¬zl b k/\¬c.zb b k)(hrf:x.rf G)
  (hdom:∀b k,x.fp b k->c.F0 b k\/c.w0.heap.size<=b):∃G',St c G' zl (M.put n x.er s) (a.put (some n) x.val) w:=by
 obtain⟨G',i1,i2,i3,i4,i5⟩:=h.inv.put n x hok hsep hfz hrf;refine⟨G',⟨i1,λt ht=>?_,by simp[Act.put,h.size],h.small,by simpa [Act.put] using h.defers,⟨h.tr.ext,λt b k hf=>?_,h.tr.oT,h.tr.zl,h.tr.gl,h.tr.z7⟩,λi v hi=>?_⟩⟩
 ·by_cases e:t=n;·subst e;rw[i2];simp only[Act.put,vJ];rw[UY (by rw[h.size];exact hn)];rfl
  ·rw[i3 t e,h.val t ht];simp only[Act.put,vJ];rw[N0 (λe'=>e e'.symm)]
 ·by_cases e:t=n;·subst e;exact hdom b k (i4 b k hf)
  ·exact h.tr.dom t b k (i5 t e b k hf)
 ·rw[i3 _ (by have:=h.small;omega)];exact h.args i v hi
def MY(h:St c G zl s a w){x:C}(hT:fB w zl c.zb G x G1 s1){n:Nat}(hn:n<c.nt):∃G',St c G' zl (M.put n x.er s1) (a.put (some n) x.val) w:=by have h1:St c G1 zl s1 a w:=h.move hT.inv hT.val (Ext.refl (λ_ _=>False) w) (λ_ _ hs=>hs.elim) (λt b k hf=>.inl ⟨t,hT.mono t b k hf⟩);exact h1.put hn hT.ok (λt _ b k hf=>hT.sep t b k hf) hT.fz hT.rf (λb k hf=>by obtain⟨t,ht⟩:=hT.dom b k hf;exact h.tr.dom t b k ht)
def BC(h:St c G zl s a w){x:C}(ho:ew w zl c.zb G x){n:Nat}(hn:n<c.nt):∃G',St c G' zl (M.put n x.er s) (a.put (some n) x.val) w:=
 h.MY (fB.self h.inv ho.ok ho.rf ho.cM) hn
def flat(h:St c G zl s a w){x:C}(hp:x.plain)(Ko:∀m sz A len cap e,x≠.row m sz A len cap e)(hok:x.ok w (Zf zl c.zb)){n:Nat}(hn:n<c.nt):∃G',St c G' zl (M.put n x.er s) (a.put (some n) x.val) w:=
 h.BC ⟨hok,C.oc hp G,λb k hf=>by cases x<;>first|exact hf.elim|exact hp.elim|exact(Ko _ _ _ _ _ _ rfl).elim⟩ hn
end St
def Good(P:Program)(c:Ctx)(o:Oper)(a:Act)(w:World)(K:ah->Prop):Prop:=
 ∃v w',((execOp a.eval o).run P w=.ok (.value v) w'\/((execOp a.eval o).run P w=.ok .skip w'/\v=undef))/\∃G' aF s',K s'/\St c G' aF s' (a.put o.dst v) w'
def dL(P:Program)(c:Ctx)(o:Oper)(a:Act)(w:World)(K:ah->Prop):Prop:=
 ∃v,(∀w',Ext (λ_ _=>False) w w'->(execOp a.eval o).run P w'=.ok (.value v) w')/\∃G' aF s',K s'/\St c G' aF s' (a.put o.dst v) w
def dL.good{P:Program}{c:Ctx}{o:Oper}{a:Act}{w:World}{K:ah->Prop}(h:dL P c o a w K):Good P c o a w K:=by obtain⟨v,hr,h⟩:=h;exact⟨v,w,.inl (hr w (Ext.refl _ _)),h⟩
def Rel(q:Bool)(w w':World):Prop:=q=true->Ext (λ_ _=>False) w w'
def Rel.refl(q:Bool)(w:World):Rel q w w:=λ_=>Ext.refl _ _
def jH(P:Program)(c:Ctx)(o:Oper)(a:Act)(w:World)(K:ah->Prop):Prop:=
 ∃v w',(execOp a.eval o).run P w=.ok (.value v) w'/\Ext (λ_ _=>False) w w'/\∃G' aF s',K s'/\St c G' aF s' (a.put o.dst v) w'
def jH.good{P:Program}{c:Ctx}{o:Oper}{a:Act}{w:World}{K:ah->Prop}(h:jH P c o a w K):Good P c o a w K:=by obtain⟨v,w',hr,_,h⟩:=h;exact⟨v,w',.inl hr,h⟩
def dL.quiet{P:Program}{c:Ctx}{o:Oper}{a:Act}{w:World}{K:ah->Prop}(h:dL P c o a w K):jH P c o a w K:=by obtain⟨v,hr,h⟩:=h;exact⟨v,w,hr w (Ext.refl _ _),Ext.refl _ _,h⟩
def DL:Value->X->Bool
 |.int k n,.int k' n'=>decide (k=k') && decide (n=n')
 |.bool b,.bool b'=>b==b'
 |.string s,.str s'=>decide (s=s') && decide (s.size<=9223372036854775807)
 |.slice none 0 0,.row .own _ []=>true
 |_,_=>false
def aM:Operand->AV->Bool
 |.tmp n,.t n'=>n==n' && decide (n<base)
 |.const v,.k .dead=>true
 |.const v,.k x=>DL v x
 |.func f,.k (.fn f' [])=>f==f'
 |_,_=>false
section
variable {c:Ctx}{G:Nat->C}{zl:Nat->Nat->Prop}{s:ah}{a:Act}{w:World}
def PB{v:Value}{x:X}(h:DL v x=true):∃d:C,d.er=x/\d.val=v/\ew w zl c.zb G d/\d.plain:=by
 unfold DL at h;split at h;·simp only[az,aY] at h;obtain⟨rfl,rfl⟩:=h;exact⟨.int _ _,rfl,rfl,⟨trivial,trivial,λ_ _ h=>h⟩,trivial⟩
 ·simp only[eu] at h;subst h;exact⟨.bool _,rfl,rfl,⟨trivial,trivial,λ_ _ h=>h⟩,trivial⟩
 ·simp only[az,aY] at h;obtain⟨rfl,h⟩:=h;exact⟨.str _,rfl,rfl,⟨h,trivial,λ_ _ h=>h⟩,trivial⟩
 ·rename_i sz;refine⟨.row .own sz none 0 0 λ_ _=>.dead undef,rfl,rfl,⟨⟨eC _,λi j hi=>(by omega),λi j hi=>(by omega),λ_=>.inl ⟨rfl,rfl⟩,λi j hi=>(by omega)⟩,trivial,?_⟩,trivial⟩;rintro b k ⟨_,⟨o,ho⟩|⟨i,j,hi,_⟩⟩;·cases ho
  ·omega
 ·cases h
def cj(h:St c G zl s a w){o:Operand}{x:AV}(hc:aM o x=true):∃d:C,d.er=av s x/\d.val=a.eval o/\ew w zl c.zb G d:=by
 unfold aM at hc;split at hc;·simp only[az,eu,aY] at hc;obtain⟨rfl,hb⟩:=hc;rename_i n;obtain⟨a1,a2,a3⟩:=SK h n;exact⟨_,a1,a2.trans (h.val n hb),a3⟩
 ·rename_i v;exact⟨.dead v,rfl,rfl,⟨trivial,trivial,λ_ _ h=>h⟩⟩
 ·obtain⟨d,h1,h2,h3,_⟩:=PB (w:=w) (zl:=zl) (c:=c) (G:=G) hc;exact⟨d,h1,h2,h3⟩
 ·simp only[eu] at hc;subst hc;exact⟨.fn _ 0 λ_=>.dead undef,rfl,rfl,⟨λj hj=>(by omega),λj hj=>(by omega),λ_ _ h=>h⟩⟩
 ·cases hc
def mJ{d:C}{k:IntKind}{n:Int}(h:d.er=.int k n):d=.int k n:=by cases d<;>simp[C.er] at h⊢ <;>first|exact h|skip
def ru{d:C}{b:Bool}(h:d.er=.bool b):d=.bool b:=by cases d<;>simp[C.er] at h⊢;exact h
def D6{d:C}{t:ByteArray}(h:d.er=.str t):d=.str t:=by cases d<;>simp[C.er] at h⊢;exact h
def SJ{P:Program}(h:St c G zl s a w){o:Oper}{K:ah->Prop}{d:Nat}{x:AV}{x':Operand}(ho:o.op=.move x'\/o.op=.assign x')(hd:o.dst=some d)(hn:d<c.nt)(hx:aM x' x=true)(hK:aP P (.mv d x) s K):dL P c o a w K:=by
 obtain⟨y,e1,e2,e3⟩:=cj h hx;obtain⟨G',h'⟩:=h.BC e3 hn;refine⟨a.eval x',λw' _=>?_,G',zl,_,hK,?_⟩;·rcases ho with ho|ho<;>simp[execOp,ho]
 ·rw[hd,<-e2,<-e1];exact h'
def ae2{P:Program}(h:St c G zl s a w){o:Oper}{K:ah->Prop}{d:Nat}{tk:Tk}{x:AV}{x':Operand}(ho:o.op=.assign x')(hd:o.dst=some d)(hn:d<c.nt)(hx:aM x' x=true)(hK:aP P (.aN d tk x) s K):jH P c o a w K:=by obtain⟨y,e1,e2,e3⟩:=cj h hx;obtain⟨y',G1,f1,f2,_,f4⟩:=qC tk h.inv e3;obtain⟨G',h'⟩:=h.MY f4 hn;refine⟨a.eval x',w,by simp[execOp,ho],Ext.refl _ _,G',zl,_,hK,?_⟩;rw[hd,<-e2,<-f2,<-e1,<-f1];exact h'
def afr{P:Program}(h:St c G zl s a w){o:Oper}{K:ah->Prop}{d:Nat}{x y z:AV}{x' y' z':Operand}(ho:o.op=.pick x' y' z')(hd:o.dst=some d)(hn:d<c.nt)(hx:aM x' x=true)(hy:aM y' y=true)(hz:aM z' z=true)
  (hK:aP P (.pick d x y z) s K):dL P c o a w K:=by
 obtain⟨p,p1,p2,p3⟩:=cj h hx;obtain⟨q,q1,q2,q3⟩:=cj h hy;obtain⟨r,r1,r2,r3⟩:=cj h hz;simp only[aP] at hK;split at hK
 ·rename_i t ht;rw[<-p1] at ht;have hp:=ru ht;subst hp
  have hsel:∃u:C,u.er=BD t (av s y) (av s z)/\u.val=(if t then a.eval y' else a.eval z')/\ew w zl c.zb G u:=by
   rw[<-q1,<-r1,<-q2,<-r2];unfold BD;split;·rename_i b1 b2 h1 h2;have hq:=ru h1;have hr:=ru h2;subst hq;subst hr;refine⟨.bool (bif t then b1 else b2),rfl,?_,⟨trivial,trivial,λ_ _ h=>h⟩⟩;cases t<;>rfl
   ·cases t;·exact⟨r,rfl,rfl,r3⟩
    ·exact⟨q,rfl,rfl,q3⟩
  obtain⟨u,u1,u2,u3⟩:=hsel;obtain⟨G',h'⟩:=h.BC u3 hn;refine⟨if t then a.eval y' else a.eval z',λw' _=>?_,G',zl,_,hK,?_⟩
  ·have:a.eval x'=.bool t:=by rw[<-p2];rfl
   simp[execOp,ho,this,asBool]
  ·rw[hd,<-u2,<-u1];exact h'
 ·exact hK.elim
end
end M
namespace M
open Go Go.RowKit
variable [Bs]
section
variable {P:Program}{c:Ctx}{G:Nat->C}{zl:Nat->Nat->Prop}{s:ah}{a:Act}{w:World}{o:Oper}{K:ah->Prop}
def I1(x y:ByteArray):(x.toList==y.toList)=decide (x=y):=by
 rw[NH];simp only[eu,aY,Go.ByteArray.toList_eq];constructor;·intro h;cases x;cases y;congr 1;exact Array.toList_inj.1 h
 ·intro h;rw[h]
def dR(h:St c G zl s a w){d:Nat}(hd:o.dst=some d)(hn:d<c.nt){x:C}(hp:x.plain)(Ko:∀m sz A len cap e,x≠.row m sz A len cap e)(hok:x.ok w (Zf zl c.zb))
  (hrun:∀w',Ext (λ_ _=>False) w w'->(execOp a.eval o).run P w'=.ok (.value x.val) w')(hK:K (put d x.er s)):dL P c o a w K:=by obtain⟨G',h'⟩:=h.flat hp Ko hok hn;exact⟨_,hrun,G',zl,_,hK,by rw[hd];exact h'⟩
def ju(h:St c G zl s a w){d:Nat}(hd:o.dst=some d)(hn:d<c.nt){x:C}(hx:ew w zl c.zb G x)
  (hrun:∀w',Ext (λ_ _=>False) w w'->(execOp a.eval o).run P w'=.ok (.value x.val) w')(hK:K (put d x.er s)):dL P c o a w K:=by obtain⟨G',h'⟩:=h.BC hx hn;exact⟨_,hrun,G',zl,_,hK,by rw[hd];exact h'⟩
def afy(h:St c G zl s a w){d:Nat}{op:UnOp}{ty:TypeId}{x:AV}{x':Operand}(ho:o.op=.unOp op ty x')(hd:o.dst=some d)(hn:d<c.nt)(hx:aM x' x=true)
  (hK:aP P (.un d op x) s K):dL P c o a w K:=by
 obtain⟨y,e1,e2,e3⟩:=cj h hx;obtain⟨k1,k2⟩:=hK;rw[<-e1] at k1 k2;cases y with
 |int k n=>cases op<;>simp only[yN,C.er] at k1;refine dR h hd hn (x:=.int k (k.wrap (0 - n))) trivial (λ_ _ _ _ _ _ e=>(by cases e)) trivial (λw' _=>?_) k2;simp[execOp,ho,<-e2,C.val,Op.unary,Op.intArith]
 |bool b=>cases op<;>simp only[yN,C.er] at k1;refine dR h hd hn (x:=.bool (!b)) trivial (λ_ _ _ _ _ _ e=>(by cases e)) trivial (λw' _=>?_) k2;simp[execOp,ho,<-e2,C.val,Op.unary]
 |_=>cases op<;>exact k1.elim
def ae4(h:St c G zl s a w){d:Nat}{op:BinOp}{ty ty':TypeId}{x y:AV}{x' y':Operand}(ho:o.op=.binOp op ty x' y' ty')(hd:o.dst=some d)(hn:d<c.nt)(hx:aM x' x=true)(hy:aM y' y=true)
  (hK:aP P (.bin d op x y) s K):dL P c o a w K:=by
 obtain⟨p,p1,p2,p3⟩:=cj h hx;obtain⟨q,q1,q2,q3⟩:=cj h hy;obtain⟨k1,k2⟩:=hK;rw[<-p1,<-q1] at k1 k2;cases p with
 |int k m=>
  cases q with
  |int k' n=>
   have hrun:∀v:C,(∀w,(binOp op ty (.int k m) (.int k' n)).run P w=.ok v.val w)->∀w',Ext (λ_ _=>False) w w'->(execOp a.eval o).run P w'=.ok (.value v.val) w':=by
    intro v hv w' _;have hg:eqGuard op ty x' y' (.int k m) (.int k' n)=pure ():=by unfold eqGuard;cases op<;>rfl
    simp[execOp,ho,<-p2,<-q2,C.val,hg,hv]
   cases op<;>simp only[vY,C.er] at k1;case add=>subst k1;exact dR h hd hn (x:=.int k _) trivial (λ_ _ _ _ _ _ e=>(by cases e)) trivial (hrun _ (λw=>by simp[binOp,Op.intArith,C.val])) k2
   case sub=>subst k1;exact dR h hd hn (x:=.int k _) trivial (λ_ _ _ _ _ _ e=>(by cases e)) trivial (hrun _ (λw=>by simp[binOp,Op.intArith,C.val])) k2
   case mul=>subst k1;exact dR h hd hn (x:=.int k _) trivial (λ_ _ _ _ _ _ e=>(by cases e)) trivial (hrun _ (λw=>by simp[binOp,Op.intArith,C.val])) k2
   case quo=>obtain⟨rfl,k1⟩:=k1;exact dR h hd hn (x:=.int k _) trivial (λ_ _ _ _ _ _ e=>(by cases e)) trivial (hrun _ (λw=>by simp[binOp,Op.intDiv,C.val,k1])) k2
   case rem=>obtain⟨rfl,k1⟩:=k1;exact dR h hd hn (x:=.int k _) trivial (λ_ _ _ _ _ _ e=>(by cases e)) trivial (hrun _ (λw=>by simp[binOp,Op.intDiv,C.val,k1])) k2
   case shl=>exact dR h hd hn (x:=.int k _) trivial (λ_ _ _ _ _ _ e=>(by cases e)) trivial (hrun _ (λw=>by simp[binOp,Op.shift,C.val,show ¬n<0 by omega])) k2
   case shr=>exact dR h hd hn (x:=.int k _) trivial (λ_ _ _ _ _ _ e=>(by cases e)) trivial (hrun _ (λw=>by simp[binOp,Op.shift,C.val,show ¬n<0 by omega])) k2
   case and=>subst k1;exact dR h hd hn (x:=.int k _) trivial (λ_ _ _ _ _ _ e=>(by cases e)) trivial (hrun _ (λw=>by simp[binOp,Op.intBits,C.val])) k2
   case or=>subst k1;exact dR h hd hn (x:=.int k _) trivial (λ_ _ _ _ _ _ e=>(by cases e)) trivial (hrun _ (λw=>by simp[binOp,Op.intBits,C.val])) k2
   case xor=>subst k1;exact dR h hd hn (x:=.int k _) trivial (λ_ _ _ _ _ _ e=>(by cases e)) trivial (hrun _ (λw=>by simp[binOp,Op.intBits,C.val])) k2
   case eql=>subst k1;exact dR h hd hn (x:=.bool _) trivial (λ_ _ _ _ _ _ e=>(by cases e)) trivial (hrun _ (λw=>by simp only[binOp,Op.intCmp,C.val,aC (Classical.not_not.2 rfl)];rfl)) k2
   case neq=>subst k1;exact dR h hd hn (x:=.bool _) trivial (λ_ _ _ _ _ _ e=>(by cases e)) trivial (hrun _ (λw=>by simp only[binOp,Op.intCmp,C.val,aC (Classical.not_not.2 rfl)];rfl)) k2
   case lss=>subst k1;exact dR h hd hn (x:=.bool _) trivial (λ_ _ _ _ _ _ e=>(by cases e)) trivial (hrun _ (λw=>by simp[binOp,Op.intCmp,C.val])) k2
   case leq=>subst k1;exact dR h hd hn (x:=.bool _) trivial (λ_ _ _ _ _ _ e=>(by cases e)) trivial (hrun _ (λw=>by simp[binOp,Op.intCmp,C.val])) k2
   case gtr=>subst k1;exact dR h hd hn (x:=.bool _) trivial (λ_ _ _ _ _ _ e=>(by cases e)) trivial (hrun _ (λw=>by simp[binOp,Op.intCmp,C.val])) k2
   case geq=>subst k1;exact dR h hd hn (x:=.bool _) trivial (λ_ _ _ _ _ _ e=>(by cases e)) trivial (hrun _ (λw=>by simp[binOp,Op.intCmp,C.val])) k2
  |_=>exact k1.elim
 |str m=>
  cases q with
  |str n=>
   have hrun:∀v:C,(∀w,(binOp op ty (.string m) (.string n)).run P w=.ok v.val w)->∀w',Ext (λ_ _=>False) w w'->(execOp a.eval o).run P w'=.ok (.value v.val) w':=by
    intro v hv w' _;have hg:eqGuard op ty x' y' (.string m) (.string n)=pure ():=by unfold eqGuard;cases op<;>rfl
    simp[execOp,ho,<-p2,<-q2,C.val,hg,hv]
   cases op<;>simp only[vY,C.er] at k1
   case add=>
    have hsz:(m++n).size=m.size+n.size:=by simp
    exact dR h hd hn (x:=.str _) trivial (λ_ _ _ _ _ _ e=>(by cases e)) (by show (m++n).size<=_;omega) (hrun _ (λw=>by
     have:¬((m.size+n.size:Nat):Int)>IntKind.i64.max:=by show ¬(((m.size+n.size:Nat):Int)>9223372036854775807);omega
     simp only[binOp,Op.stringOp,aC this,C.val,Sem.run_pure])) k2
   case eql=>exact dR h hd hn (x:=.bool _) trivial (λ_ _ _ _ _ _ e=>(by cases e)) trivial (hrun _ (λw=>by simp only[binOp,Op.stringOp,C.val,I1,Sem.run_pure])) k2
   case neq=>exact dR h hd hn (x:=.bool _) trivial (λ_ _ _ _ _ _ e=>(by cases e)) trivial (hrun _ (λw=>by simp only[binOp,Op.stringOp,C.val,I1,Sem.run_pure])) k2
  |_=>exact k1.elim
 |_=>exact k1.elim
def run_eql_bool{ty:TypeId}(ht:P.underlying ty=some .bool)(x y:Bool):(binOp .eql ty (.bool x) (.bool y)).run P w=.ok (.bool (x==y)) w:=by show ((do pure (Value.bool (<-Op.equal ty (.bool x) (.bool y))):Sem Value).run P w)=_;rw[Sem.run_bind];unfold Op.equal;show ((Op.equalIn (9999+1) ty (.bool x) (.bool y)).run P w).andThen _=_;rw[run_equalIn_bool' w 9999 ty x y ht];rfl
def run_neq_bool{ty:TypeId}(ht:P.underlying ty=some .bool)(x y:Bool):(binOp .neq ty (.bool x) (.bool y)).run P w=.ok (.bool (!(x==y))) w:=by show ((do pure (Value.bool (!(<-Op.equal ty (.bool x) (.bool y)))):Sem Value).run P w)=_;rw[Sem.run_bind];unfold Op.equal;show ((Op.equalIn (9999+1) ty (.bool x) (.bool y)).run P w).andThen _=_;rw[run_equalIn_bool' w 9999 ty x y ht];rfl
def QN(op:BinOp)(ty:TypeId)(p q:Operand)(x y:Bool):eqGuard op ty p q (.bool x) (.bool y)=pure ():=by unfold eqGuard;cases op<;>rfl
def ae3(h:St c G zl s a w){d:Nat}{neg:Bool}{ty ty':TypeId}{x y:AV}{x' y':Operand}(ho:o.op=.binOp (bif neg then .neq else .eql) ty x' y' ty')(ht:P.underlying ty=some .bool)(hd:o.dst=some d)(hn:d<c.nt)(hx:aM x' x=true)(hy:aM y' y=true)
  (hK:aP P (.beq d neg x y) s K):dL P c o a w K:=by
 obtain⟨p,p1,p2,p3⟩:=cj h hx;obtain⟨q,q1,q2,q3⟩:=cj h hy;simp only[aP] at hK;split at hK
 ·rename_i b1 b2 h1 h2;rw[<-p1] at h1;rw[<-q1] at h2;have e1:=ru h1;have e2:=ru h2;subst e1;subst e2;refine dR h hd hn (x:=.bool (xor neg (b1==b2))) trivial (λ_ _ _ _ _ _ e=>(by cases e)) trivial (λw' _=>?_) hK;cases neg;·simp only[execOp,ho,<-p2,<-q2,C.val,QN,Sem.run_bind,Sem.run_pure,Result.andThen_ok,qI,run_eql_bool ht,Bool.false_bne]
  ·simp only[execOp,ho,<-p2,<-q2,C.val,QN,Sem.run_bind,Sem.run_pure,Result.andThen_ok,lG,run_neq_bool ht,Bool.true_bne]
 ·exact hK.elim
def afd(h:St c G zl s a w){d:Nat}{k:IntKind}{sr dt:TypeId}{sd:TypeDesc}{x:AV}{x':Operand}(ho:o.op=.convert sr dt x')(hs:P.underlying sr=some sd)(hu:P.underlying dt=some (.int k))(hd:o.dst=some d)(hn:d<c.nt)(hx:aM x' x=true)
  (hK:aP P (.conv d k x) s K):dL P c o a w K:=by
 obtain⟨y,e1,e2,e3⟩:=cj h hx;simp only[aP] at hK;split at hK;·rename_i k' n hy;rw[<-e1] at hy;have:=mJ hy;subst this;refine dR h hd hn (x:=.int k _) trivial (λ_ _ _ _ _ _ e=>(by cases e)) trivial (λw' _=>?_) hK;simp[execOp,ho,<-e2,C.val,convert,run_underlying hs,run_underlying hu,Conv.intToInt]
 ·exact hK.elim
def afb(h:St c G zl s a w){d:Nat}{x:AV}{x':Operand}(ho:o.op=.nilCheck x')(hd:o.dst=some d)(hn:d<c.nt)(hx:aM x' x=true)
  (hK:aP P (.dG d x) s K):dL P c o a w K:=by
 obtain⟨y,e1,e2,e3⟩:=cj h hx;simp only[aP] at hK;rw[<-e1] at hK;cases y with
 |ax v r p i k=>obtain⟨y,hs,hy⟩:=e3.rf;refine ju h hd hn e3 (λw' _=>?_) hK;rcases hy with ⟨m,sz,g,o',len,cap,e,rfl,hv⟩|⟨m,g,o',n,cc,rfl,_,hv⟩<;>(simp only[C.val] at e2;subst hv;simp[execOp,ho,<-e2,C.val])
 |ptr m g o' n f=>refine ju h hd hn e3 (λw' _=>?_) hK;simp only[C.val] at e2;simp[execOp,ho,<-e2,C.val]
 |fn f n g=>refine ju h hd hn e3 (λw' _=>?_) hK;simp only[C.val] at e2;simp[execOp,ho,<-e2,C.val]
 |_=>exact hK.elim
end
end M
namespace M
open Go Go.RowKit
variable [Bs]
def qP(g k j:Nat):(⟨g,k,none⟩:Addr).add j=⟨g,k+j,none⟩:=by
 unfold Addr.add;split;·rename_i h;subst h;rfl
 ·rfl
def og(n c:Nat):(List.range n).drop c=(List.range (n - c)).map (· +c):=by
 apply hO;intro i;rw[oS,cR];by_cases h:c+i<n;·rw[tj h,tj (by omega)];simp[oP]
 ·rw[kQ (by simp;omega),kQ (by simp;omega)];rfl
section
variable {P:Program}{c:Ctx}{G:Nat->C}{zl:Nat->Nat->Prop}{s:ah}{a:Act}{w:World}{o:Oper}{K:ah->Prop}
structure Wz (w:World) (zl zb:Nat->Nat->Prop) (G:Nat->C) (v:Value) (l:List C):Prop where
 addr:∃g k,v=.pointer (some ⟨g,k,none⟩)/\∀j (hj:j<l.length),w.cell? ⟨g,k+j,none⟩=some l[j].val
 BC:∀x∈l,ew w zl zb G x/\x.cell
def RW{zb:Nat->Nat->Prop}(h:Inv w zl zb G s){y:C}(hy:ew w zl zb G y){cs:List X}(hc:gw s y.er=some cs):∃l:List C,l.map C.er=cs/\Wz w zl zb G y.val l:=by
 cases y with
 |ptr m g o n f=>
  simp only[C.er,gw] at hc;injection hc with hc
  obtain⟨h1,h2,h3,h4⟩:=hy.ok;refine⟨(List.range n).map f,by rw[<-hc,cH];rfl,⟨⟨g,o,rfl,λj hj=>?_⟩,λx hx=>?_⟩⟩;·simp only[cZ,vQ] at hj;simp only[NY,NZ];exact(h1 j hj).1
  ·obtain⟨j,hj,rfl⟩:=bg.1 hx;have hj':j<n:=by simpa using hj
   obtain⟨a1,a2,a3⟩:=h3 j hj';exact⟨⟨a3,hy.rf j hj',λb k hf=>hy.cM b k (C.kC a1 a2 hj' hf)⟩,a1⟩
 |ax v r p i k0=>
  obtain⟨z,hz,hp⟩:=hy.rf;have rP:=C.gY p hz (h.ok r);have RB:=Inv.vz.CI p (h.ok r) hz (h.rf r);simp only[C.er,gw,look] at hc;rw[<-h.er,C.gG,hz] at hc;simp only[cg] at hc;rcases hp with ⟨m,sz,g,o,len,cap,e,rfl,rfl⟩|⟨m,g,o,n,f,rfl,rfl,rfl⟩
  ·simp only[C.er,C.cU] at hc;by_cases hi:i<len
   ·rw[au hi] at hc;simp only[cg,dP] at hc;refine⟨((List.range (sz - k0)).map (· +k0)).map λj=>(e i j).iV r (p++[(i,j)]),?_,⟨⟨g,o+i*sz+k0,rfl,λj hj=>?_⟩,λx hx=>?_⟩⟩;·rw[<-hc,<-lE,og];rw[C.vW r p i ((List.range (sz - k0)).map (· +k0)) k0 (λj=>e i j) (by simp)];simp only[cH];rfl
    ·simp only[cZ,vQ] at hj;simp only[NY,NZ,C.zo];obtain⟨g',o',hA,hcell,_⟩:=rP.2.1 i (j+k0) hi (by omega);injection hA with hA
     injection hA with e1 e2
     injection e2 with e2
     subst e1;subst e2;rw[show o+i*sz+k0+j=o+i*sz+(j+k0) by omega];exact hcell
    ·obtain⟨j,hj,rfl⟩:=bg.1 hx;obtain⟨j',hj',rfl⟩:=bg.1 hj;have hj2:j'+k0<sz:=by simp at hj';omega
     obtain⟨a1,a2,a3,a4⟩:=rP.2.2.1 i (j'+k0) hi hj2;refine⟨⟨C.zm _ _ _ a4,C.zn _ _ _ (C.sZ p hz (by simp only[C.step,au (And.intro hi hj2)])) ?_,C.zk _ _ _ (C.Jm a1)⟩,C.IL _ _ _ a1⟩;have:=Inv.vz.CI (w:=w) (zl:=zl) (zb:=zb) (G:=G) [(i,j'+k0)] rP (d:=e i (j'+k0)) (by simp only[C.sub,C.step,au (And.intro hi hj2)];rfl) RB;exact this
   ·rw[aC hi] at hc;cases hc
  ·simp only[C.er,dP] at hc;refine⟨((List.range (n - k0)).map (· +k0)).map λj=>(f j).iV r (p++[(0,j)]),?_,⟨⟨g,o+k0,rfl,λj hj=>?_⟩,λx hx=>?_⟩⟩;·rw[<-hc,<-lE,og];rw[C.vW r p 0 ((List.range (n - k0)).map (· +k0)) k0 f (by simp)];simp only[cH];rfl
   ·simp only[cZ,vQ] at hj;simp only[NY,NZ,C.zo];rw[show o+k0+j=o+(j+k0) by omega];exact(rP.1 (j+k0) (by omega)).1
   ·obtain⟨j,hj,rfl⟩:=bg.1 hx;obtain⟨j',hj',rfl⟩:=bg.1 hj;have hj2:j'+k0<n:=by simp at hj';omega
    obtain⟨a1,a2,a3⟩:=rP.2.2.1 (j'+k0) hj2;exact⟨⟨C.zm _ _ _ a3,C.zn _ _ _ (C.sZ p hz (au (And.intro rfl hj2))) (RB _ hj2),C.zk _ _ _ (C.Jm a1)⟩,C.IL _ _ _ a1⟩
 |_=>simp[C.er,gw] at hc
def WR{zb:Nat->Nat->Prop}{l:List C}(h:∀x∈l,ew w zl zb G x/\x.cell):ew w zl zb G (gJ l) where
 ok:=⟨λj hj=>⟨(h _ (cI hj _)).2,(h _ (cI hj _)).1.ok⟩,λj hj b k hf=>((h _ (cI hj _)).1.cM b k hf).elim⟩
 rf:=λj hj=>(h _ (cI hj _)).1.rf
 cM:=λb k hf=>by obtain⟨x,hx,hf⟩:=(qQ _ _ _).1 hf;exact(h x hx).1.cM b k hf
def SI(h:St c G zl s a w){d sz:Nat}{agg:Bool}{ty:TypeId}{x:AV}{x':Operand}(ho:o.op=.load ty x')(hsz:∃i,P.info? ty=some i/\i.size=sz)(mN:∃dd,P.underlying ty=some dd/\(match dd with|.struct _=>true|.array _ _=>true|_=>false)=agg)
  (h1:agg=true\/sz=1)(hd:o.dst=some d)(hn:d<c.nt)(hx:aM x' x=true)
  (hK:aP P (.load d sz agg x) s K):dL P c o a w K:=by
 obtain⟨y,e1,e2,e3⟩:=cj h hx;obtain⟨cs,k1,k2,k3⟩:=hK;rw[<-e1] at k1;obtain⟨l,l1,⟨g,k,hv,hcell⟩,l3⟩:=RW h.inv e3 k1;have hlen:l.length=cs.length:=by rw[<-l1];simp
 obtain⟨i,hi,kr⟩:=hsz;obtain⟨dd,Ag,hda⟩:=mN;have uj:∀w:World,(isAgg ty).run P w=.ok agg w:=by intro w;subst hda;simp only[isAgg,Sem.run_bind,run_underlying Ag,Result.andThen_ok];cases dd<;>rfl
 have hsize:∀w:World,(Go.sizeOf ty).run P w=.ok sz w:=by intro w;simp[Go.sizeOf,typeInfo,hi,kr]
 have Q7:∀w',Ext (λ_ _=>False) w w'->∀j (hj:j<l.length),w'.cell? ⟨g,k+j,none⟩=some l[j].val:=λw' hE j hj=>hE.cell (λhs=>hs) (hcell j hj);have lR:∀w:World,(execOp a.eval o).run P w=((loadVar ty ⟨g,k,none⟩).run P w).andThen λv w'=>.ok (.value v) w':=by intro w;simp[execOp,ho,<-e2,hv,Instr.loadAt,Instr.sureAddr]
 cases agg with
 |true=>
  have hl:∀w',Ext (λ_ _=>False) w w'->(loadCells ⟨g,k,none⟩ sz).run P w'=.ok ((List.range sz).map λj=>((l.take sz).getD j (.dead undef)).val).toArray w':=λw' hE=>run_loadCells w' _ sz _ (λj hj=>by rw[qP,Q7 w' hE j (by omega)];congr 1;rw[iT,NV hj,cm (by omega)];rfl)
  have hval:(gJ (l.take sz)).val=.agg ((List.range sz).map λj=>((l.take sz).getD j (.dead undef)).val).toArray:=by simp only[gJ,C.val,IA];rw[nC (by omega)]
  refine ju h hd hn (x:=gJ (l.take sz)) (WR λx hx=>l3 x (Ns hx)) ?_ ?_;·intro w' hE;rw[lR,hval];simp only[loadVar,Sem.run_bind,uj,Result.andThen_ok,cY,hsize,hl w' hE,Sem.run_pure]
  ·rw[vV,oL,l1];exact k3
 |false=>
  have hs1:sz=1:=h1.resolve_left (by simp);subst hs1;cases l with
  |nil=>simp at hlen;omega
  |cons y0 l=>
   refine ju h hd hn (x:=y0) (l3 y0 (bq ..)).1 ?_ ?_;·intro w' hE;have hc0:=Q7 w' hE 0 (by simp);simp only[nB,Iv] at hc0;rw[lR];simp only[loadVar,Sem.run_bind,uj,Result.andThen_ok,fA,dQ,run_load,hc0]
   ·rw[<-l1] at k3;exact k3
def aff(h:St c G zl s a w){d off fi:Nat}{ty:TypeId}{fs:Array Field}{f:Field}{x:AV}{x':Operand}(ho:o.op=.fieldAddr ty x' fi)(hu:P.underlying ty=some (.struct fs))(hf:fs[fi]?=some f)(hfo:f.offset=off)(hfs:∃i,P.info? f.type=some i/\i.size≠0)
  (hd:o.dst=some d)(hn:d<c.nt)(hx:aM x' x=true)(hK:aP P (.pn d x off) s K):dL P c o a w K:=by
 obtain⟨y,e1,e2,e3⟩:=cj h hx;obtain⟨i,hi,hi0⟩:=hfs;have hrun:∀g k,a.eval x'=.pointer (some ⟨g,k,none⟩)->∀w',Ext (λ_ _=>False) w w'->(execOp a.eval o).run P w'=.ok (.value (.pointer (some ⟨g,k+off,none⟩))) w':=by intro g k hv w' _;simp[execOp,ho,hv,Instr.fieldAt,Instr.sureAddr,run_underlying hu,hf,fieldPlace,Go.sizeOf,typeInfo,hi,hi0,qP,hfo]
 simp only[aP] at hK;rw[<-e1] at hK;cases y with
 |ax v r p i' k0=>
  obtain⟨z,hz,hp⟩:=e3.rf
  have hcase:∃g k,v=.pointer (some ⟨g,k,none⟩)/\(C.ax (.pointer (some ⟨g,k+off,none⟩)) r p i' (k0+off)).rf G:=by
   rcases hp with ⟨m,sz,g,o',len,cap,e,rfl,rfl⟩|⟨m,g,o',n,f',rfl,rfl,rfl⟩;·exact⟨_,_,rfl,_,hz,.inl ⟨_,_,_,_,_,_,_,rfl,by rw[s9]⟩⟩
   ·exact⟨_,_,rfl,_,hz,.inr ⟨_,_,_,_,_,rfl,rfl,by rw[s9]⟩⟩
  obtain⟨g,k,rfl,hrf⟩:=hcase;refine ju h hd hn (x:=.ax (.pointer (some ⟨g,k+off,none⟩)) r p i' (k0+off)) ⟨trivial,hrf,λ_ _ hh=>hh⟩ ?_ hK;exact hrun g k e2.symm
 |ptr m g o' n f'=>
  obtain⟨h1,h2,h3,h4⟩:=e3.ok;refine ju h hd hn (x:=.ptr m g (o'+off) (n - off) λj=>f' (j+off)) ⟨⟨λj hj=>?_,h2,λj hj=>h3 (j+off) (by omega),λj hj b k hf=>?_⟩,λj hj=>e3.rf (j+off) (by omega),λb k hf=>?_⟩ ?_ ?_;·rw[show o'+off+j=o'+(j+off) by omega];exact h1 (j+off) (by omega)
  ·obtain⟨a1,a2⟩:=h4 (j+off) (by omega) b k hf;exact⟨λhm hb=>a1 hm (by omega),λj' hj' hne=>a2 (j'+off) (by omega) (by omega)⟩
  ·obtain⟨hm,hf|⟨j,hj,hf⟩⟩:=hf;·exact e3.cM b k ⟨hm,.inl (by omega)⟩
   ·exact e3.cM b k ⟨hm,.inr ⟨j+off,by omega,hf⟩⟩
  ·exact hrun g o' e2.symm
  ·have:(C.ptr m g (o'+off) (n - off) λj=>f' (j+off)).er=.ptr m (((List.range n).map λj=>(f' j).er).drop off):=by simp only[C.er];rw[<-lE,og,cH];rfl
   rw[this];exact hK
 |_=>exact hK.elim
end
end M
namespace M
open Go Go.RowKit
variable [Bs]
def Ef(P:Program)(t:TypeId)(k:Nat):Bool:=match P.underlying t with
 |some (.int _)=>k==0
 |some .bool=>k==1
 |some .string=>k==2
 |_=>false
def Ee(P:Program):Nat->List Nat->List Field->Bool
 |_,[],[]=>true
 |n,k::ks,f::l=>decide (f.offset=n) && decide (f.name≠ "_") && Ef P f.type k && Ee P (n+1) ks l
 |_,_,_=>false
def JM(P:Program)(t:TypeId)(ks:List Nat):Bool:=(match P.underlying t with
 |some (.struct fs)=>Ee P 0 ks fs.toList
 |_=>false) && !P.stoodInHeld t && !P.eqGuardType P.depth t
section
variable {P:Program}{c:Ctx}{G:Nat->C}{zl:Nat->Nat->Prop}{s:ah}{a:Act}{w:World}{o:Oper}{K:ah->Prop}
def SP{t:TypeId}{k:Nat}{vs:Array Value}{n:Nat}{v:Value}(ht:Ef P t k=true)(hv:vs[n]?=some v)(w:World):(part t vs n).run P w=.ok v w:=by unfold Ef at ht;split at ht<;>first|(rename_i h;simp[part,isAgg,run_underlying h,hv])|cases ht
def YW{w:World}{xs ys:Array Value}(d:Nat):∀(l:List Field) (ks:List Nat) (ps qs:List C) (n:Nat) (t:Bool),Ee P n ks l=true->(∀j,(ps[j]?).map C.val=xs[n+j]?)->(∀j,(qs[j]?).map C.val=ys[n+j]?)->
  jN ks (ps.map C.er) (qs.map C.er)=some t->(Op.eqFields (d+1) xs ys l).run P w=.ok t w:=by
 intro l;induction l with
 |nil=>
  intro ks ps qs n t hf _ _ he;cases ks with
  |nil=>cases ps<;>cases qs<;>simp[jN] at he;subst he;simp[Op.eqFields]
  |cons k ks=>cases hf
 |cons f l ih=>
  intro ks ps qs n t hf hx hy he;cases ks with
  |nil=>cases hf
  |cons k ks=>
  cases ps with
  |nil=>simp[jN] at he
  |cons p ps=>
  cases qs with
  |nil=>simp[jN] at he
  |cons q qs=>
  simp only[Ee,az,aY] at hf;obtain⟨⟨⟨hoff,hname⟩,hk⟩,uh⟩:=hf;have hx0:=hx 0;have hy0:=hy 0;simp only[y9,cg,nB] at hx0 hy0;have Fs:=λt=>ih ks ps qs (n+1) t uh (λj=>by have:=hx (j+1);simpa [s9,oP 1 j] using this) (λj=>by have:=hy (j+1);simpa [s9,oP 1 j] using this)
  have step:∀b:Bool,(∀w:World,(Op.equalIn (d+1) f.type p.val q.val).run P w=.ok b w)->(jN ks (ps.map C.er) (qs.map C.er)).map (λt=>b && t)=some t->(Op.eqFields (d+1) xs ys (f::l)).run P w=.ok t w:=by
   intro b hb h1;cases h2:jN ks (ps.map C.er) (qs.map C.er) with
   |none=>rw[h2] at h1;cases h1
   |some t'=>
    rw[h2] at h1;simp only[cg,dP] at h1;subst h1;simp only[Op.eqFields,au hname,Sem.run_bind,hoff,SP hk hx0.symm,SP hk hy0.symm,Result.andThen_ok,hb];cases b with
    |true=>simpa using Fs t' h2
    |false=>simp
  unfold Ef at hk;simp only[bn] at he;split at hk
  ·rename_i h;obtain rfl:k=0:=by simpa using hk
   cases p<;>cases q<;>simp only[C.er,jN] at he<;>try (cases he;done)
   split at he;·rename_i hkk;subst hkk;exact step _ (λw=>run_equalIn_int w d f.type _ _ _ _ h) he
   ·cases he
  ·rename_i h;obtain rfl:k=1:=by simpa using hk
   cases p<;>cases q<;>simp only[C.er,jN] at he<;>try (cases he;done)
   exact step _ (λw=>run_equalIn_bool' w d f.type _ _ h) he
  ·rename_i h;obtain rfl:k=2:=by simpa using hk
   cases p<;>cases q<;>simp only[C.er,jN] at he<;>try (cases he;done)
   refine step _ (λw=>?_) he;rw[show (C.str _).val=Value.string _ from rfl,show (C.str _).val=Value.string _ from rfl,run_equalIn_string w d f.type _ _ h,I1]
  ·cases hk
def aeZ(h:St c G zl s a w){d:Nat}{neg:Bool}{ks:List Nat}{ty ty':TypeId}{x y:AV}{x' y':Operand}(ho:o.op=.binOp (bif neg then .neq else .eql) ty x' y' ty')(ht:JM P ty ks=true)(hd:o.dst=some d)(hn:d<c.nt)(hx:aM x' x=true)(hy:aM y' y=true)
  (hK:aP P (.tC d neg ks x y) s K):dL P c o a w K:=by
 obtain⟨p,p1,p2,p3⟩:=cj h hx;obtain⟨q,q1,q2,q3⟩:=cj h hy;simp only[aP] at hK;rw[<-p1,<-q1] at hK;simp only[JM,az,tf] at ht;obtain⟨⟨ht,hst⟩,hgu⟩:=ht;split at ht
 ·rename_i fs hfs;have hfo:P.fieldsOf ty=fs:=by simp only[Program.fieldsOf,hfs]
  cases p with
  |agg n f=>
   cases q with
   |agg m g=>
    simp only[C.er] at hK;obtain⟨t,he,hK⟩:=hK;have hcell:∀(n:Nat) (f:Nat->C) (j:Nat),((((List.range n).map f)[j]?).map C.val)=((((List.range n).map λj=>(f j).val).toArray)[0+j]?):=λn f j=>by rw[mC,za,C.cU];rw[C.cU (λj=>(f j).val)];split<;>rfl
    have hrun:∀w':World,(Op.equalIn 10000 ty (C.agg n f).val (C.agg m g).val).run P w'=.ok t w':=λw'=>by simp only[C.val];rw[run_equalIn_struct w' 9999 ty _ _ (by rw[hfo];exact hfs) hst,hfo];exact YW 9998 fs.toList ks ((List.range n).map f) ((List.range m).map g) 0 t ht (hcell n f) (hcell m g) (by rw[cH,cH];exact he)
    refine dR h hd hn (x:=.bool (xor neg t)) trivial (λ_ _ _ _ _ _ e=>(by cases e)) trivial (λw' _=>?_) hK;have e1:∀w':World,(eqGuard (bif neg then .neq else .eql) ty x' y' (C.agg n f).val (C.agg m g).val).run P w'=.ok () w':=λw'=>run_eqGuard_agg w' _ ty x' y' _ _ hgu;cases neg;·simp only[execOp,ho,<-p2,<-q2,Sem.run_bind,qI];simp only[qI] at e1;rw[e1];simp only[Result.andThen_ok];rw[show (C.agg n f).val=.agg _ from rfl,show (C.agg m g).val=.agg _ from rfl] at hrun⊢;rw[run_eql_struct,hrun];simp;rfl
    ·simp only[execOp,ho,<-p2,<-q2,Sem.run_bind,lG];simp only[lG] at e1;rw[e1];simp only[Result.andThen_ok];rw[show (C.agg n f).val=.agg _ from rfl,show (C.agg m g).val=.agg _ from rfl] at hrun⊢;rw[run_neq_struct,hrun];simp;rfl
   |_=>exact hK.elim
  |_=>exact hK.elim
 ·cases ht
end
end M
namespace M
open Go Go.RowKit
variable [Bs]
section
variable {P:Program}{c:Ctx}{G:Nat->C}{zl:Nat->Nat->Prop}{s:ah}{a:Act}{w:World}{o:Oper}{K:ah->Prop}
structure WB (w:World) (zl zb:Nat->Nat->Prop) (v:Value) (z:Nat) (A:Option Ad) (len cap:Nat) (e:Nat->Nat->C):Prop where
 val:v=.slice (A.map λq=>⟨q.1,q.2.1,q.2.2⟩) len cap
 cap:len<=cap
 cell:∀i j,i<len->j<z->∃g o,A=some (g,o,none)/\w.cell? ⟨g,o+i*z+j,none⟩=some (e i j).val
 kid:∀i j,i<len->j<z->(e i j).cell/\(e i j).cO/\(e i j).ok w (Zf zl zb)
def dK(z len:Nat)(e:Nat->Nat->C):List (List X):=(List.range len).map λi=>(List.range z).map λj=>(e i j).er
def LM{zb:Nat->Nat->Prop}(h:Inv w zl zb G s){y:C}(hy:ew w zl zb G y){z:Nat}{xs:List (List X)}(hc:rowAt s y.er=some (z,xs)):∃A len cap e,xs=dK z len e/\WB w zl zb y.val z A len cap e:=by
 cases y with
 |row m sz A len cap e=>simp only[C.er,rowAt,dP,jE] at hc;obtain⟨rfl,rfl⟩:=hc;obtain⟨h1,h2,h3,h4,h5⟩:=hy.ok;exact⟨A,len,cap,e,rfl,rfl,h1,λi j hi hj=>by obtain⟨g,o,hA,hcl,_⟩:=h2 i j hi hj;exact⟨g,o,hA,hcl⟩,λi j hi hj=>by obtain⟨a1,a2,a3,a4⟩:=h3 i j hi hj;exact⟨a1,a2,a4⟩⟩
 |ref v r p=>
  obtain⟨y',z',hs,hF,hv,m,sz,A,len,cap,e,rfl⟩:=hy.rf;cases hF with
  |row m m' sz A len cap e e'=>simp only[C.er,rowAt,look] at hc;rw[<-h.er,C.gG,hs] at hc;simp only[cg,C.er,dP,jE] at hc;obtain⟨rfl,rfl⟩:=hc;obtain⟨h1,h2,h3,h4,h5⟩:=C.gY p hs (h.ok r);exact⟨A,len,cap,e',rfl,hv.symm,h1,λi j hi hj=>by obtain⟨g,o,hA,hcl,_⟩:=h2 i j hi hj;exact⟨g,o,hA,hcl⟩,λi j hi hj=>by obtain⟨a1,a2,a3,a4⟩:=h3 i j hi hj;exact⟨a1,a2,a4⟩⟩
 |cut v r p lo hi=>
  obtain⟨m,sz,A,len,cap,e,A',cap',hs,hv,hlo,hhi,hcap,kj,-,-⟩:=hy.rf;simp only[C.er,rowAt,look] at hc;rw[<-h.er,C.gG,hs] at hc;simp only[cg,C.er,dP,jE] at hc;obtain⟨rfl,rfl⟩:=hc;obtain⟨h1,h2,h3,h4,h5⟩:=C.gY p hs (h.ok r);have hX:(((List.range len).map λi=>(List.range sz).map λj=>(e i j).er).take hi).drop lo=dK sz (hi - lo) λi j=>e (i+lo) j:=by unfold dK;rw[<-oL,<-lE,vG,nC hhi,og,cH];rfl
  refine⟨A',hi - lo,cap',λi j=>e (i+lo) j,hX,⟨hv,hcap,λi j hi' hj=>?_,λi j hi' hj=>?_⟩⟩;·obtain⟨g,o,hA,hcl,_⟩:=h2 (i+lo) j (by omega) hj;refine⟨g,o+lo*sz,by rw[kj (by omega),hA,cg,oW],?_⟩;rw[show o+lo*sz+i*sz+j=o+(i+lo)*sz+j by rw[e8];omega];exact hcl
  ·obtain⟨a1,a2,a3,a4⟩:=h3 (i+lo) j (by omega) hj;exact⟨a1,a2,a4⟩
 |_=>simp[C.er,rowAt] at hc
def afZ(z len:Nat)(e:Nat->Nat->C):(dK z len e).length=len:=by simp[dK]
def afi(h:St c G zl s a w){d:Nat}{ty el:TypeId}{x:AV}{x':Operand}(ho:o.op=.call {callee:=.builtin .len,args:= #[x'],argTypes:= #[ty]})(hu:P.underlying ty=some (.slice el))(hd:o.dst=some d)(hn:d<c.nt)(hx:aM x' x=true)
  (hK:aP P (.len d x) s K):dL P c o a w K:=by obtain⟨y,e1,e2,e3⟩:=cj h hx;obtain⟨z,xs,k1,k2⟩:=hK;rw[<-e1] at k1;obtain⟨A,len,cap,e,rfl,hv⟩:=LM h.inv e3 k1;rw[afZ] at k2;refine dR h hd hn (x:=.int .i64 len) trivial (λ_ _ _ _ _ _ e=>(by cases e)) trivial (λw' _=>?_) k2;simp[execOp,ho,resolve,invoke,builtin,<-e2,hv.val,Builtin.len_,run_underlying hu,goInt,C.val]
def afu(h:St c G zl s a w){d:Nat}{ty:TypeId}{x:AV}{x':Operand}(ho:o.op=.call {callee:=.builtin .len,args:= #[x'],argTypes:= #[ty]})(hu:P.underlying ty=some .string)(hd:o.dst=some d)(hn:d<c.nt)(hx:aM x' x=true)
  (hK:aP P (.sY d x) s K):dL P c o a w K:=by
 obtain⟨y,e1,e2,e3⟩:=cj h hx;simp only[aP] at hK;split at hK;·rename_i t ht;rw[<-e1] at ht;have:=D6 ht;subst this;refine dR h hd hn (x:=.int .i64 t.size) trivial (λ_ _ _ _ _ _ e=>(by cases e)) trivial (λw' _=>?_) hK;simp[execOp,ho,resolve,invoke,builtin,<-e2,Builtin.len_,run_underlying hu,goInt,C.val]
 ·exact hK.elim
def aft(h:St c G zl s a w){d:Nat}{ty:TypeId}{x y:AV}{x' y':Operand}(ho:o.op=.index ty x' y')(hu:P.underlying ty=some .string)(hd:o.dst=some d)(hn:d<c.nt)(hx:aM x' x=true)(hy:aM y' y=true)
  (hK:aP P (.dm d x y) s K):dL P c o a w K:=by
 obtain⟨p,p1,p2,p3⟩:=cj h hx;obtain⟨q,q1,q2,q3⟩:=cj h hy;simp only[aP] at hK;split at hK;·rename_i t k n h1 h2;rw[<-p1] at h1;rw[<-q1] at h2;have:=D6 h1;subst this;have:=mJ h2;subst this;obtain⟨k1,b,k2,k3⟩:=hK;refine dR h hd hn (x:=.int .u8 b.toNat) trivial (λ_ _ _ _ _ _ e=>(by cases e)) trivial (λw' _=>?_) k3;have hb:t[n.toNat]?=some b:=k2;simp[execOp,ho,<-p2,<-q2,C.val,Instr.index,asIntOf,run_underlying hu,au k1,hb]
 ·exact hK.elim
def afh(h:St c G zl s a w){d sz:Nat}{ty el:TypeId}{x y:AV}{x' y':Operand}(ho:o.op=.indexAddr ty x' y')(hu:P.underlying ty=some (.slice el))(hsz:∃i,P.info? el=some i/\i.size=sz)(h0:0<sz)(hd:o.dst=some d)(hn:d<c.nt)(hx:aM x' x=true)(hy:aM y' y=true)
  (hK:aP P (.eX d sz x y) s K):dL P c o a w K:=by
 obtain⟨p,p1,p2,p3⟩:=cj h hx;obtain⟨q,q1,q2,q3⟩:=cj h hy;obtain⟨ii,hi,kr⟩:=hsz;simp only[aP] at hK;rw[<-p1] at hK;split at hK
 ·rename_i k n h2;rw[<-q1] at h2;have:=mJ h2;subst this;obtain⟨k1,hK⟩:=hK;have hrun:∀g o' len cap,a.eval x'=.slice (some ⟨g,o',none⟩) len cap->n.toNat<len->∀w',Ext (λ_ _=>False) w w'->(execOp a.eval o).run P w'=.ok (.value (.pointer (some ⟨g,o'+n.toNat*sz,none⟩))) w':=by intro g o' len cap hv hlt w' _;have hb:0<=n/\n<len:=⟨k1,by omega⟩;simp[execOp,ho,hv,<-q2,C.val,Instr.indexAt,asIntOf,run_underlying hu,hb,Go.sizeOf,typeInfo,hi,kr,qP]
  cases p with
  |row m z A len cap e=>
   simp only[C.er] at hK;obtain⟨rfl,e',k2,k3⟩:=hK;rw[C.cU] at k2;split at k2
   ·rename_i hlt;injection k2 with k2
    obtain⟨h1,h2,h3,h4,h5⟩:=p3.ok;obtain⟨g,o',hA,_,_⟩:=h2 n.toNat 0 hlt h0;refine ju h hd hn (x:=.ptr m g (o'+n.toNat*z) z λj=>e n.toNat j) ⟨⟨λj hj=>?_,?_,λj hj=>?_,λj hj b k hf=>?_⟩,λj hj=>?_,λb k hf=>?_⟩ ?_ ?_
    ·obtain⟨g1,o1,pE,hcl,hz⟩:=h2 n.toNat j hlt hj;rw[hA] at pE;injection pE with pE
     injection pE with e1 e2
     injection e2 with e2
     subst e1;subst e2;refine⟨hcl,hz,λhm=>?_⟩;exact(p3.cM g 0 ⟨hm,.inl ⟨_,hA⟩⟩).elim
    ·obtain⟨g1,o1,pE,hcl,hz⟩:=h2 n.toNat 0 hlt h0;rw[hA] at pE;injection pE with pE
     injection pE with e1 e2
     subst e1;rcases gI g w.heap.size with hg|hg;·exact hg
     ·simp[World.cell?,kP hg] at hcl
    ·obtain⟨a1,a2,a3,a4⟩:=h3 n.toNat j hlt hj;exact⟨a1,a3,a4⟩
    ·obtain⟨a1,a2,a3,a4⟩:=h3 n.toNat j hlt hj;exact(p3.cM b k (C.jV a1 a3 hlt hj hf)).elim
    ·obtain⟨a1,a2,a3,a4⟩:=h3 n.toNat j hlt hj;show (e n.toNat j).rf G;cases hh:e n.toNat j with
     |ref=>rw[hh] at a2;exact a2.elim
     |ax=>rw[hh] at a2;exact a2.elim
     |cut=>rw[hh] at a2;exact a2.elim
     |ptr=>rw[hh] at a2;exact a2.elim
     |agg=>rw[hh] at a2;exact a2.elim
     |ak=>rw[hh] at a2;exact a2.elim
     |fn=>rw[hh] at a2;exact a2.elim
     |_=>trivial
    ·exact p3.cM g 0 ⟨hf.1,.inl ⟨_,hA⟩⟩
    ·exact hrun g o' len cap (by rw[<-p2,C.val,hA];rfl) hlt
    ·rw[<-k2] at k3;exact k3
   ·cases k2
  |ref v r pp=>
   obtain⟨y',z',hs,hF,hv,m,z1,A,len,cap,e,rfl⟩:=p3.rf;cases hF with
   |row m m' sz' A len cap e e'=>
    simp only[C.er,look] at hK;rw[<-h.inv.er,C.gG,hs] at hK;simp only[cg,C.er] at hK;obtain⟨k1,k2,k3⟩:=hK;have RL:n.toNat<len:=by simpa using k2
    subst k1;obtain⟨h1,h2,h3,h4,h5⟩:=C.gY pp hs (h.inv.ok r);obtain⟨g,o',hA,_,_⟩:=h2 n.toNat 0 RL h0;subst hA;refine ju h hd hn (x:=.ax (.pointer (some ⟨g,o'+n.toNat*_,none⟩)) r pp n.toNat 0) ⟨trivial,⟨_,hs,.inl ⟨_,_,_,_,_,_,_,rfl,rfl⟩⟩,λ_ _ hh=>hh⟩ ?_ k3;exact hrun g o' len cap (by rw[<-p2];exact hv.symm) RL
  |cut v r pp lo hi=>obtain⟨m,z1,A,len,cap,e,A',cap',hs,hv,hlo,hhi,hcap,kj,-,-⟩:=p3.rf;simp only[C.er,look] at hK;rw[<-h.inv.er,C.gG,hs] at hK;simp only[cg,C.er] at hK;obtain⟨k1,k2,k3⟩:=hK;subst k1;obtain⟨h1,h2,h3,h4,h5⟩:=C.gY pp hs (h.inv.ok r);obtain⟨g,o',hA,_,_⟩:=h2 (lo+n.toNat) 0 (by omega) h0;subst hA;refine ju h hd hn (x:=.ax (.pointer (some ⟨g,o'+(lo+n.toNat)*_,none⟩)) r pp (lo+n.toNat) 0) ⟨trivial,⟨_,hs,.inl ⟨_,_,_,_,_,_,_,rfl,rfl⟩⟩,λ_ _ hh=>hh⟩ ?_ k3;have:=hrun g (o'+lo*z1) (hi - lo) cap' (by rw[<-p2,C.val,hv,kj (by omega),cg,oW];rfl) (by omega);intro w' hE;rw[this w' hE,C.val,e8,s9]
  |_=>simp only[C.er] at hK
 ·exact hK.elim
def afe(h:St c G zl s a w){d i:Nat}{x:AV}{x':Operand}(ho:o.op=.extract x' i)(hd:o.dst=some d)(hn:d<c.nt)(hx:aM x' x=true)
  (hK:aP P (.ext d x i) s K):dL P c o a w K:=by
 obtain⟨y,e1,e2,e3⟩:=cj h hx;simp only[aP] at hK;rw[<-e1] at hK;cases y with
 |ak n f=>
  simp only[C.er] at hK;obtain⟨hi,hK⟩:=hK;have hi:i<n:=by simpa using hi
  ·have hX:((List.range n).map λj=>(f j).er).getD i .dead=(f i).er:=by rw[iT,C.cU,au hi];rfl
   rw[hX] at hK;refine ju h hd hn (x:=f i) ⟨(e3.ok.1 i hi).2,e3.rf i hi,λb k hf=>e3.cM b k ⟨i,hi,hf⟩⟩ (λw' _=>?_) hK;have hv:((List.range n).map λj=>(f j).val).toArray[i]?=some (f i).val:=by rw[za,C.cU,au hi]
   simp only[execOp,ho,<-e2,C.val,Instr.extract,hv,Sem.run_bind,Sem.run_pure,Result.andThen_ok]
 |_=>exact hK.elim
end
end M
namespace M
open Go Go.RowKit
variable [Bs]
section
variable {P:Program}{c:Ctx}{G:Nat->C}{zl:Nat->Nat->Prop}{s:ah}{a:Act}{w:World}{o:Oper}{K:ah->Prop}
def WS{n:Nat}{f:Nat->C}{j:Nat}(hj:j<n):((List.range n).map λj=>(f j).val).toArray[j]?=some (f j).val:=by rw[za,C.cU,au hj]
def WT{zb:Nat->Nat->Prop}{n:Nat}{f:Nat->C}(hy:ew w zl zb G (.agg n f)){off sz:Nat}(h:off+sz<=n):ew w zl zb G (.agg sz λj=>f (j+off)) where
 ok:=⟨λj hj=>hy.ok.1 (j+off) (by omega),λj hj b k hf j' hj' hne=>hy.ok.2 (j+off) (by omega) b k hf (j'+off) (by omega) (by omega)⟩
 rf:=λj hj=>hy.rf (j+off) (by omega)
 cM:=λb k ⟨j,hj,hf⟩=>hy.cM b k ⟨j+off,by omega,hf⟩
def Od{zb:Nat->Nat->Prop}{n:Nat}{f:Nat->C}(hy:ew w zl zb G (.agg n f)){j:Nat}(h:j<n):ew w zl zb G (f j) where
 ok:=(hy.ok.1 j h).2
 rf:=hy.rf j h
 cM:=λb k hf=>hy.cM b k ⟨j,h,hf⟩
def WU(n:Nat)(f:Nat->C){off sz:Nat}(h:off+sz<=n):(C.agg sz λj=>f (j+off)).er=.agg ((((List.range n).map λj=>(f j).er).drop off).take sz):=by simp only[C.er,<-lE,og,<-oL,vG];rw[nC (by omega),cH];rfl
def WV(n:Nat)(f:Nat->C){off sz:Nat}(h:off+sz<=n):(C.agg sz λj=>f (j+off)).val=.agg (((List.range n).map λj=>(f j).val).toArray.extract off (off+sz)):=by
 simp only[C.val];congr 1;apply Il;intro i;rw[za,C.cU,Array.getElem?_extract];by_cases hi:i<sz
 ·have h1:i<min (off+sz) ((List.range n).map λj=>(f j).val).toArray.size - off:=by simp;omega
  rw[au hi,au h1,za,C.cU,au (by omega),oP]
 ·have h1:¬i<min (off+sz) ((List.range n).map λj=>(f j).val).toArray.size - off:=by simp;omega
  rw[aC hi,aC h1]
def aco(n:Nat)(f:Nat->C){off:Nat}(h:off<n):(((List.range n).map λj=>(f j).er).drop off).headD .dead=(f off).er:=by rw[List.headD_eq_head?_getD,List.head?_drop,C.cU,au h];rfl
def Tq{n:Nat}{f:Nat->C}{off sz:Nat}{agg:Bool}{ty:TypeId}(h:off+sz<=n)(h1:agg=true\/sz=1)(hsz:∃i,P.info? ty=some i/\i.size=sz)(mN:∃dd,P.underlying ty=some dd/\(match dd with|.struct _=>true|.array _ _=>true|_=>false)=agg):
  (part ty ((List.range n).map λj=>(f j).val).toArray off).run P w=.ok (bif agg then (C.agg sz λj=>f (j+off)) else f off).val w:=by
 obtain⟨i,hi,kr⟩:=hsz;obtain⟨dd,Ag,hda⟩:=mN;have uj:(isAgg ty).run P w=.ok agg w:=by subst hda;simp only[isAgg,Sem.run_bind,run_underlying Ag,Result.andThen_ok];cases dd<;>rfl
 have hsize:(Go.sizeOf ty).run P w=.ok sz w:=by simp[Go.sizeOf,typeInfo,hi,kr]
 unfold part;simp only[Sem.run_bind,uj,Result.andThen_ok];cases agg with
 |true=>simp only[cY,Sem.run_bind,hsize,Result.andThen_ok,Sem.run_pure,lG,WV n f h]
 |false=>have hs1:sz=1:=h1.resolve_left (by simp);simp only[fA,dQ,WS (f:=f) (show off<n by omega),Sem.run_pure,qI]
def QK(h:St c G zl s a w){n:Nat}{f:Nat->C}{off sz:Nat}{agg:Bool}(hy:ew w zl c.zb G (.agg n f))(hb:off+sz<=n)(h1:agg=true\/sz=1){d:Nat}(hd:o.dst=some d)(hn:d<c.nt)
  (hrun:∀w',Ext (λ_ _=>False) w w'->(execOp a.eval o).run P w'=.ok (.value (bif agg then (C.agg sz λj=>f (j+off)) else f off).val) w')
  (hK:K (put d (bif agg then .agg ((((List.range n).map λj=>(f j).er).drop off).take sz) else (((List.range n).map λj=>(f j).er).drop off).headD .dead) s)):dL P c o a w K:=by
 cases agg with
 |true=>exact ju h hd hn (WT hy hb) hrun (by rw[WU n f hb];exact hK)
 |false=>have hs1:sz=1:=h1.resolve_left (by simp);exact ju h hd hn (Od hy (by omega)) hrun (by rw[<-aco n f (by omega)];exact hK)
def afg(h:St c G zl s a w){d off sz fi:Nat}{agg:Bool}{ty:TypeId}{fs:Array Field}{f:Field}{x:AV}{x':Operand}(ho:o.op=.field ty x' fi)(hu:P.underlying ty=some (.struct fs))(hf:fs[fi]?=some f)(hfo:f.offset=off)
  (hsz:∃i,P.info? f.type=some i/\i.size=sz)(mN:∃dd,P.underlying f.type=some dd/\(match dd with|.struct _=>true|.array _ _=>true|_=>false)=agg)
  (h1:agg=true\/sz=1)(hd:o.dst=some d)(hn:d<c.nt)(hx:aM x' x=true)(hK:aP P (.rA d x off sz agg) s K):dL P c o a w K:=by
 obtain⟨y,e1,e2,e3⟩:=cj h hx;subst hfo;simp only[aP] at hK;rw[<-e1] at hK;cases y with
 |agg n g=>
  simp only[C.er] at hK;obtain⟨hb,hK⟩:=hK;have hb:f.offset+sz<=n:=by simpa using hb
  refine QK h e3 hb h1 hd hn (λw' _=>?_) hK;simp only[execOp,ho,<-e2,C.val,Instr.field,Sem.run_bind,run_underlying hu,Result.andThen_ok,hf,asAgg,Sem.run_pure,Tq hb h1 hsz mN]
 |_=>exact hK.elim
def ae0(h:St c G zl s a w){d n sz:Nat}{agg:Bool}{ty el:TypeId}{x y:AV}{x' y':Operand}(ho:o.op=.index ty x' y')(hu:P.underlying ty=some (.array n el))
  (hsz:∃i,P.info? el=some i/\i.size=sz)(mN:∃dd,P.underlying el=some dd/\(match dd with|.struct _=>true|.array _ _=>true|_=>false)=agg)
  (h1:agg=true\/sz=1)(hd:o.dst=some d)(hn:d<c.nt)(hx:aM x' x=true)(hy:aM y' y=true)(hK:aP P (.qR d n sz agg x y) s K):dL P c o a w K:=by
 obtain⟨p,p1,p2,p3⟩:=cj h hx;obtain⟨q,q1,q2,q3⟩:=cj h hy;simp only[aP] at hK;rw[<-p1] at hK;cases p with
 |agg m g=>
  simp only[C.er] at hK;split at hK
  ·rename_i k j h2 h3;injection h2 with h2
   subst h2;rw[<-q1] at h3;have:=mJ h3;subst this;obtain⟨k1,k2,k3,hK⟩:=hK;have k3:m=n*sz:=by simpa using k3
   have hb:j.toNat*sz+sz<=m:=by rw[k3];have:(j.toNat+1)*sz<=n*sz:=nD _ (by omega);rw[e8] at this;omega
   obtain⟨i,hi,kr⟩:=hsz;refine QK h p3 hb h1 hd hn (λw' _=>?_) hK;have hrp:=Tq (P:=P) (w:=w') (f:=g) hb h1 ⟨i,hi,kr⟩ mN;have hbd:0<=j/\j<(n:Int):=⟨k1,k2⟩;have hsize:(Go.sizeOf el).run P w'=.ok sz w':=by simp[Go.sizeOf,typeInfo,hi,kr]
   simp only[execOp,ho,<-p2,<-q2,C.val,Instr.index,asIntOf,Sem.run_bind,run_underlying hu,Result.andThen_ok,Sem.run_pure,au hbd,hsize,hrp]
  ·exact hK.elim
 |_=>simp only[C.er] at hK
def afn(h:St c G zl s a w){d:Nat}{ts:Array TypeId}{x y:AV}{x' y':Operand}(ho:o.op=.call {callee:=.builtin .min,args:= #[x',y'],argTypes:=ts})(hd:o.dst=some d)(hn:d<c.nt)(hx:aM x' x=true)(hy:aM y' y=true)
  (hK:aP P (.mn d [x,y]) s K):dL P c o a w K:=by
 obtain⟨p,p1,p2,p3⟩:=cj h hx;obtain⟨q,q1,q2,q3⟩:=cj h hy;simp only[aP,bn,lF] at hK;rw[<-p1,<-q1] at hK;split at hK;·rename_i k m k' n he;simp only[vK,and_true] at he;have e1:=mJ he.1;have e2:=mJ he.2;subst e1;subst e2;obtain⟨rfl,hK⟩:=hK;refine dR h hd hn (x:=.int k (if n<m then n else m)) trivial (λ_ _ _ _ _ _ e=>(by cases e)) trivial (λw' _=>?_) hK;simp[execOp,ho,resolve,invoke,builtin,<-p2,<-q2,C.val,Builtin.min_,Builtin.min2]
 ·exact hK.elim
def afo(h:St c G zl s a w){d:Nat}{ts:Array TypeId}{x y:AV}{x' y':Operand}(ho:o.op=.call {callee:=.builtin .max,args:= #[x',y'],argTypes:=ts})(hd:o.dst=some d)(hn:d<c.nt)(hx:aM x' x=true)(hy:aM y' y=true)
  (hK:aP P (.mx d [x,y]) s K):dL P c o a w K:=by
 obtain⟨p,p1,p2,p3⟩:=cj h hx;obtain⟨q,q1,q2,q3⟩:=cj h hy;simp only[aP,bn,lF] at hK;rw[<-p1,<-q1] at hK;split at hK;·rename_i k m k' n he;simp only[vK,and_true] at he;have e1:=mJ he.1;have e2:=mJ he.2;subst e1;subst e2;obtain⟨rfl,hK⟩:=hK;refine dR h hd hn (x:=.int k (if n>m then n else m)) trivial (λ_ _ _ _ _ _ e=>(by cases e)) trivial (λw' _=>?_) hK;simp[execOp,ho,resolve,invoke,builtin,<-p2,<-q2,C.val,Builtin.max_,Builtin.max2]
 ·exact hK.elim
def mH:Option Operand->Option AV->Bool
 |none,none=>true
 |some x',some x=>aM x' x
 |_,_=>false
def I0(h:St c G zl s a w){lo':Option Operand}{lo:Option AV}(hc:mH lo' lo=true)(d:Nat)(h0:0<=asNat s lo d):
  (lo'.map a.eval=none/\asNat s lo d=d)\/∃k,lo'.map a.eval=some (.int k (asNat s lo d)):=by
 cases lo' with
 |none=>
  cases lo with
  |none=>exact .inl ⟨rfl,rfl⟩
  |some x=>cases hc
 |some x'=>
  cases lo with
  |none=>cases hc
  |some x=>obtain⟨p,p1,p2,p3⟩:=cj h hc;simp only[asNat] at h0⊢;rw[<-p1] at h0⊢;cases p<;>simp[C.er] at h0;·exact .inr ⟨_,by simp only[cg,<-p2];rfl⟩
def run_sliceBound{k:IntKind}{i:Int}{y:Nat}{code:BoundsCode}(h:0<=i/\i<=y):(Instr.sliceBound (.int k i) y code).run P w=.ok i.toNat w:=by simp[Instr.sliceBound,asIntOf,h]
def Tp{w':World}(h:St c G zl s a w){lo' hi':Option Operand}{lo hi:Option AV}(h1:mH lo' lo=true)(h2:mH hi' hi=true){RH:Bool}{len cap:Nat}(hlc:len<=cap)
  (k1:0<=asNat s lo 0)(k2:asNat s lo 0<=asNat s hi len)(k3:asNat s hi len<=len):
  (Instr.sliceBounds RH len cap (lo'.map a.eval) (hi'.map a.eval) none).run P w'=.ok ((asNat s lo 0).toNat,(asNat s hi len).toNat,cap) w':=by
 have B:∀{k:IntKind} {i:Int} {y:Nat} {code:BoundsCode},0<=i/\i<=y->(Instr.sliceBound (.int k i) y code).run P w'=.ok i.toNat w':=run_sliceBound;unfold Instr.sliceBounds;rcases I0 h h2 len (by omega) with ⟨e1,e2⟩|⟨k,e1⟩
 ·rw[e2] at k2⊢;rcases I0 h h1 0 k1 with ⟨e3,e4⟩|⟨k',e3⟩;·rw[e1,e3,e4];simp
  ·rw[e1,e3];simp only[Sem.run_bind,Sem.run_pure,Result.andThen_ok,B (And.intro k1 k2)];simp
 ·rcases I0 h h1 0 k1 with ⟨e3,e4⟩|⟨k',e3⟩;·rw[e1,e3,e4];simp only[Sem.run_bind,Sem.run_pure,Result.andThen_ok,B (show 0<=asNat s hi len/\asNat s hi len<=(cap:Int) by omega)];simp
  ·rw[e1,e3];have hle:asNat s lo 0<=((asNat s hi len).toNat:Int):=by omega
   simp only[Sem.run_bind,Sem.run_pure,Result.andThen_ok,B (show 0<=asNat s hi len/\asNat s hi len<=(cap:Int) by omega),B (And.intro k1 hle)]
def afv(h:St c G zl s a w){d:Nat}{ty:TypeId}{x:AV}{x':Operand}{lo' hi':Option Operand}{lo hi:Option AV}(ho:o.op=.slice ty x' lo' hi' none)(hu:P.underlying ty=some .string)(hd:o.dst=some d)(hn:d<c.nt)(hx:aM x' x=true)
  (h1:mH lo' lo=true)(h2:mH hi' hi=true)(hK:aP P (.gd d x lo hi) s K):dL P c o a w K:=by
 obtain⟨y,e1,e2,e3⟩:=cj h hx;simp only[aP] at hK;split at hK
 ·rename_i t ht;rw[<-e1] at ht;have:=D6 ht;subst this;obtain⟨k1,k2,k3,k4⟩:=hK;refine dR h hd hn (x:=.str _) trivial (λ_ _ _ _ _ _ e=>(by cases e)) ?_ (λw' _=>?_) k4;·have:t.size<=9223372036854775807:=e3.ok;show (t.extract _ _).size<=_;rw[ByteArray.size_extract];omega
  ·simp only[execOp,ho,<-e2,C.val,Instr.sliceAt,Instr.slice,Sem.run_bind,run_underlying hu,Result.andThen_ok,NG,Option.isSome_none,fA,dQ,Sem.run_pure,Tp h h1 h2 (eC t.size) k1 k2 k3]
 ·exact hK.elim
def afs(h:St c G zl s a w){d sz:Nat}{ty el:TypeId}{x:AV}{x':Operand}{lo' hi':Option Operand}{lo hi:Option AV}(ho:o.op=.slice ty x' lo' hi' none)(hu:P.underlying ty=some (.slice el))(hsz:∃i,P.info? el=some i/\i.size=sz)(hd:o.dst=some d)(hn:d<c.nt)(hx:aM x' x=true)
  (h1:mH lo' lo=true)(h2:mH hi' hi=true)(hK:aP P (.mg d sz x lo hi) s K):dL P c o a w K:=by
 obtain⟨y,e1,e2,e3⟩:=cj h hx;obtain⟨xs,k0,k1,k2,k3,hK⟩:=hK;rw[<-e1] at k0 hK;obtain⟨ii,hii,kr⟩:=hsz;have hsize:∀w:World,(Go.sizeOf el).run P w=.ok sz w:=by intro w;simp[Go.sizeOf,typeInfo,hii,kr]
 have hrun:∀(A:Option Ad) (cap:Nat),y.val=.slice (A.map λq=>⟨q.1,q.2.1,q.2.2⟩) xs.length cap->xs.length<=cap->∃A' cap',(∀w',Ext (λ_ _=>False) w w'->(execOp a.eval o).run P w'=.ok (.value (.slice (Option.map (λq:Ad=>(⟨q.1,q.2.1,q.2.2⟩:Addr)) A') (((asNat s hi xs.length).toNat - (asNat s lo 0).toNat)) cap')) w')/\
   cap'=cap - (asNat s lo 0).toNat/\(A=none->A'=none)/\((asNat s lo 0).toNat<cap->A'=A.map λq=>jq ((asNat s lo 0).toNat*sz) q)/\((A'=A/\cap'=0)\/A'=A.map λq=>jq ((asNat s lo 0).toNat*sz) q):=by
  intro A cap hv hcap;refine⟨if cap=(asNat s lo 0).toNat then A else A.map λq=>jq ((asNat s lo 0).toNat*sz) q,cap - (asNat s lo 0).toNat,λw' _=>?_,rfl,λhA=>by subst hA;split<;>rfl,λhlt=>aC (by omega),?_⟩;rotate_left
  ·by_cases hh:cap=(asNat s lo 0).toNat;·exact .inl ⟨au hh,by omega⟩
   ·exact .inr (aC hh)
  have hb:=Tp (P:=P) (w':=w') h h1 h2 (RH:=true) hcap k1 k2 k3;simp only[execOp,ho,<-e2,hv,Instr.sliceAt,Instr.slice,Sem.run_bind,run_underlying hu,Result.andThen_ok,NG,hb,hsize,Sem.run_pure];congr 3;split;·rfl
  ·cases A with
   |none=>rfl
   |some q=>simp[WO]
 cases y with
 |row m z A len cap e=>
  simp only[C.er,rowAt,dP,jE] at k0;obtain⟨rfl,rfl⟩:=k0;have hlen:((List.range len).map λi=>(List.range z).map λj=>(e i j).er).length=len:=by simp
  rw[hlen] at hrun k2 k3 hK;obtain⟨o1,o2,o3,o4,o5⟩:=e3.ok;obtain⟨A',cap',r1,r2,r3,r4,-⟩:=hrun A cap rfl o1;obtain⟨L,hL⟩:∃L,L=(asNat s lo 0).toNat:=⟨_,rfl⟩;obtain⟨H,hH⟩:∃H,H=(asNat s hi len).toNat:=⟨_,rfl⟩;rw[<-hL,<-hH] at r1 hK;rw[<-hL] at r2 r4;have hLH:L<=H:=by omega
  have hHl:H<=len:=by omega
  have kj:L<H->A'=A.map λq=>jq (L*z) q:=λhlt=>r4 (by omega);refine ju h hd hn (x:=.row m z A' (H - L) cap' λi j=>e (i+L) j) ⟨⟨by omega,λi j hi hj=>?_,λi j hi hj=>o3 (i+L) j (by omega) hj,λhm=>?_,λi j hi hj b k hf=>?_⟩,trivial,λb k hf=>?_⟩ r1 ?_
  ·obtain⟨g,o',q1,q2,q3⟩:=o2 (i+L) j (by omega) hj;refine⟨g,o'+L*z,by rw[kj (by omega),q1,cg,oW],?_,λhm=>?_⟩;·rw[show o'+L*z+i*z+j=o'+(i+L)*z+j by rw[e8];omega];exact q2
   ·rw[show o'+L*z+i*z+j=o'+(i+L)*z+j by rw[e8];omega];exact q3 hm
  ·rcases o4 hm with ⟨q1,q2⟩|⟨g,o',arr,t,fz,q1,_⟩;·exact .inl ⟨r3 q1,by omega⟩
   ·exact(e3.cM g 0 ⟨hm,.inl ⟨_,q1⟩⟩).elim
  ·exact(e3.cM b k (C.jV (o3 (i+L) j (by omega) hj).1 (o3 (i+L) j (by omega) hj).2.2.1 (by omega) hj hf)).elim
  ·obtain⟨hm,⟨o',hA⟩|⟨i,j,hi,hj,hf⟩⟩:=hf
   ·rcases o4 hm with ⟨q1,_⟩|⟨g,o2',_,_,_,q1,_⟩;·rw[r3 q1] at hA;cases hA
    ·exact e3.cM g 0 ⟨hm,.inl ⟨_,q1⟩⟩
   ·exact e3.cM b k (C.jV (o3 (i+L) j (by omega) hj).1 (o3 (i+L) j (by omega) hj).2.2.1 (by omega) hj hf)
  ·have hX:(C.row m z A' (H - L) cap' λi j=>e (i+L) j).er=.row m z ((((List.range len).map λi=>(List.range z).map λj=>(e i j).er).take H).drop L):=by simp only[C.er,<-oL,<-lE,vG];rw[nC hHl,og,cH];rfl
   rw[hX];exact hK
 |ref v r p=>
  obtain⟨y',z',hs,hF,hv,m,sz',A,len,cap,e,rfl⟩:=e3.rf;cases hF with
  |row m m' sz' A len cap e e'=>
   simp only[C.er,rowAt,look] at k0;rw[<-h.inv.er,C.gG,hs] at k0;simp only[cg,C.er,dP,jE] at k0;obtain⟨rfl,rfl⟩:=k0;have hlen:((List.range len).map λi=>(List.range sz').map λj=>(e' i j).er).length=len:=by simp
   rw[hlen] at hrun k2 k3 hK;obtain⟨o1,o2,o3,o4,o5⟩:=C.gY p hs (h.inv.ok r);obtain⟨A',cap',r1,r2,r3,r4,r5⟩:=hrun A cap hv.symm o1;refine ju h hd hn (x:=.cut _ r p (asNat s lo 0).toNat (asNat s hi len).toNat) ⟨trivial,⟨m',_,A,len,cap,e',A',cap',hs,rfl,by omega,by omega,by omega,λhlt=>r4 (by omega),by omega,r5⟩,λ_ _ hh=>hh⟩ r1 hK
 |_=>exact hK.elim
def lJ:List Operand->List AV->Bool
 |[],[]=>true
 |x'::l',x::l=>aM x' x && lJ l' l
 |_,_=>false
def Lq(h:St c G zl s a w):∀{l':List Operand} {l:List AV},lJ l' l=true->∃cs:List C,cs.map C.er=l.map (av s)/\cs.map C.val=l'.map a.eval/\∀x∈cs,ew w zl c.zb G x
 |[],[],_=>⟨[],rfl,rfl,λ_ hx=>(by cases hx)⟩
 |x'::l',x::l,hc=>by
  simp only[lJ,az] at hc;obtain⟨cs,l1,l2,l3⟩:=Lq h hc.2;obtain⟨p,p1,p2,p3⟩:=cj h hc.1;refine⟨p::cs,by simp[p1,l1],by simp[p2,l2],λx hx=>?_⟩;rcases b9.1 hx with rfl|hx;·exact p3
  ·exact l3 x hx
 |[],_::_,hc=>by cases hc
 |_::_,[],hc=>by cases hc
def afm(h:St c G zl s a w){d:Nat}{f:FuncId}{cs:List AV}{cs':Array Operand}(ho:o.op=.makeFunc (.func f) #[] cs')(hd:o.dst=some d)(hn:d<c.nt)(hx:lJ cs'.toList cs=true)
  (hK:aP P (.nY d f cs) s K):dL P c o a w K:=by
 obtain⟨l,l1,l2,l3⟩:=Lq h hx;refine ju h hd hn (x:=.fn f l.length λj=>l.getD j (.dead undef)) ⟨λj hj=>⟨(l3 _ (cI hj _)).ok,(l3 _ (cI hj _)).cM⟩,λj hj=>(l3 _ (cI hj _)).rf,λ_ _ hh=>hh⟩ (λw' _=>?_) ?_
 ·have:(C.fn f l.length λj=>l.getD j (.dead undef)).val=.func (.func f) #[] (l.map C.val).toArray:=by show Value.func _ _ _=_;rw[l9 l _ C.val]
  rw[this,l2];have hm:(cs'.toList.map a.eval).toArray=cs'.map a.eval:=by rw[<-Nz,Array.toArray_toList]
  rw[hm];simp[execOp,ho,Instr.makeFunc]
 ·have:(C.fn f l.length λj=>l.getD j (.dead undef)).er=.fn f (l.map C.er):=by show X.fn _ _=_;rw[l9 l _ C.er]
  rw[this,l1];exact hK
def afx(h:St c G zl s a w){d:Nat}{src dst el:TypeId}{x:AV}{x':Operand}(ho:o.op=.convert src dst x')(hs:P.underlying src=some (.slice el))(he:P.underlying el=some (.int .u8))(hdt:P.underlying dst=some .string)(hd:o.dst=some d)(hn:d<c.nt)(hx:aM x' x=true)
  (hK:aP P (.text d x) s K):dL P c o a w K:=by
 obtain⟨y,e1,e2,e3⟩:=cj h hx;obtain⟨xs,k1,k2,l,k3,hK⟩:=hK;rw[<-e1] at k1;obtain⟨A,len,cap,e,hxs,hv⟩:=LM h.inv e3 k1;have hlen:len=l.length:=by have:=dr List.length (hxs.symm.trans k3);simpa [dK] using this
 subst hlen
 have hcell:∀j (hj:j<l.length),(e j 0).val=.int .u8 (l[j].toNat:Int):=by
  intro j hj;have:=dr (λt:List (List X)=>t[j]?) (hxs.symm.trans k3);simp only[dK] at this;rw[C.cU,au hj,cR,cm hj] at this;simp only[cg,dP] at this;have hz:(e j 0).er=.int .u8 (l[j].toNat:Int):=by have h2:=dr (λt:List X=>t[0]?) this;simpa using h2
  rw[mJ hz];rfl
 refine dR h hd hn (x:=.str ⟨l.toArray⟩) trivial (λ_ _ _ _ _ _ e=>(by cases e)) ?_ (λw' hE=>?_) hK;·show (⟨l.toArray⟩:ByteArray).size<=_;rw[k3] at k2;simpa [ByteArray.size] using k2
 ·cases hA:A with
  |none=>
   have hl0:l=[]:=by
    cases hl:l with
    |nil=>rfl
    |cons b t=>obtain⟨g,o',hg,_⟩:=hv.cell 0 0 (by rw[hl];simp) (by omega);rw[hA] at hg;cases hg
   subst hl0;have ey:=hv.val;rw[hA] at ey;simp only[NG] at ey;simp[execOp,ho,<-e2,ey,convert,run_underlying hs,run_underlying he,run_underlying hdt,Conv.bytesToString,C.val];rfl
  |some q=>
   have ey:=hv.val;rw[hA] at ey;simp only[cg] at ey
   have:=run_convert_bytes_back (P:=P) w' src dst el ⟨q.1,q.2.1,q.2.2⟩ cap l hs he hdt (λj hj=>by
    obtain⟨g,o',hg,hcl⟩:=hv.cell j 0 hj (by omega);rw[hA] at hg;injection hg with hg
    subst hg;rw[qP,<-hcell j hj];exact hE.cell (λhs=>hs) (by simpa using hcl))
   simp[execOp,ho,<-e2,ey,this,C.val]
end
end M
namespace M
open Go Go.RowKit
variable [Bs]
variable {w w':World}{zl zb:Nat->Nat->Prop}{G G1:Nat->C}{s s1:ah}{Z:Md->Nat->Nat->Prop}
def pq{α:Type}{l:List α}{i:Nat}{x:α}(h:l[i]?=some x)(d:α):l.getD i d=x:=by rw[iT,h];rfl
def C.Qj(c:C):c.fits .own:=by cases c<;>first|trivial|exact .inl rfl
def zY{α:Type}{sz:Nat}:∀{L:List (List α)} (h:∀e∈L,e.length=sz) (i j:Nat) (hi:i<L.length) (hj:j<sz),L.flatten[i*sz+j]?=(L[i]?).bind (·[j]?)
 |[],h,i,j,hi,hj=>by simp at hi
 |e::L,h,0,j,hi,hj=>by have:=h e (bq ..);simp only[Nat.zero_mul,mC,Is,y9,gj];rw[nF (by omega)]
 |e::L,h,i+1,j,hi,hj=>by have he:=h e (bq ..);have hh:∀e∈L,e.length=sz:=λx hx=>h x (bO _ hx);simp only[Is,Iu];rw[iB (by rw[he,e8];omega),<-zY hh i j (by simpa using hi) hj,he];congr 1;rw[e8];omega
def rz{α:Type}{sz:Nat}:∀{L:List (List α)} (h:∀e∈L,e.length=sz),L.flatten.length=L.length*sz
 |[],h=>by simp
 |e::L,h=>by rw[Is,e9,h e (bq ..),rz λx hx=>h x (bO _ hx),cu,e8];omega
def xM(L:List (List C))(i j:Nat):C:=(L.getD i []).getD j (.dead undef)
def uL(g o sz cap:Nat)(L:List (List C)):C:=.row .own sz (some (g,o,none)) L.length cap (xM L)
def xN{L:List (List C)}{sz i j:Nat}(h:∀e∈L,e.length=sz)(hi:i<L.length)(hj:j<sz):L.flatten[i*sz+j]?=some (xM L i j)/\xM L i j∈L.flatten:=by
 have h1:L[i]?=some L[i]:=cm hi;have hl:L[i].length=sz:=h _ (cy hi);have h2:(L[i])[j]?=some (L[i])[j]:=cm (by omega);have h3:xM L i j=(L[i])[j]:=by unfold xM;rw[pq h1,pq h2]
 have h4:=zY h i j hi hj;rw[h1,gj,h2] at h4;rw[h3];exact⟨h4,mB h4⟩
def Te{g o sz cap:Nat}{L:List (List C)}(h:∀e∈L,e.length=sz):(uL g o sz cap L).er=.row .own sz (L.map λe=>e.map C.er):=by
 simp only[uL,C.er];congr 1;apply hO;intro i;rw[C.cU,cR];by_cases hi:i<L.length
 ·rw[au hi,cm hi,cg];congr 1;have hl:L[i].length=sz:=h _ (cy hi);apply hO;intro j;rw[C.cU,cR];by_cases hj:j<sz;·rw[au hj,cm (by omega),cg];unfold xM;rw[pq (cm hi),pq (cm (by omega))]
  ·rw[aC hj,kQ (by omega)];rfl
 ·rw[aC hi,kQ (by omega)];rfl
def afY(g o sz cap:Nat)(L:List (List C)):(uL g o sz cap L).val=.slice (some ⟨g,o,none⟩) L.length cap:=rfl
def Tf{g o sz cap:Nat}{L:List (List C)}(h:∀e∈L,e.length=sz){b k:Nat}(hf:(uL g o sz cap L).fp b k):b=g\/∃x∈L.flatten,x.fp b k:=by
 obtain⟨_,⟨o',hA⟩|⟨i,j,hi,hj,hf⟩⟩:=hf;·injection hA with hA;injection hA with e1 e2;exact .inl e1.symm
 ·exact .inr ⟨_,(xN h hi hj).2,hf⟩
def afz{l:List C}(h:l.Pairwise λa b=>∀x k,a.fp x k->¬b.fp x k){p q:Nat}{x y:C}(hp:l[p]?=some x)(hq:l[q]?=some y)(hne:p≠q){b k:Nat}(hf:x.fp b k):¬y.fp b k:=by
 obtain⟨hp',rfl⟩:=aL.1 hp;obtain⟨nR,rfl⟩:=aL.1 hq;rcases Nat.lt_or_gt_of_ne hne with hlt|hlt;·exact qG.1 h p q hp' nR hlt b k hf
 ·exact λhf'=>qG.1 h q p nR hp' hlt b k hf' hf
def Tg{g o sz cap:Nat}{L:List (List C)}(h:∀e∈L,e.length=sz)(hcap:L.length<=cap){arr:Array Value}{t:TypeId}{fz:Nat×Nat}(hh:w.heap[g]?=some (.cells arr t fz))(hsz:o+cap*sz<=arr.size)
  (hfr:∀k,o<=k->k<o+cap*sz->w.frozen? ⟨g,k,none⟩=false)(hcell:∀q x,L.flatten[q]?=some x->w.cell? ⟨g,o+q,none⟩=some x.val)
  (hx:∀x∈L.flatten,x.cell/\x.cO/\x.ok w Z)(gQ:L.flatten.Pairwise λa b=>∀x k,a.fp x k->¬b.fp x k)(hg:∀x∈L.flatten,∀b k,x.fp b k->b≠g):(uL g o sz cap L).ok w Z:=by
 refine⟨hcap,λi j hi hj=>⟨g,o,rfl,?_,λhm=>(hm rfl).elim⟩,λi j hi hj=>?_,λ_=>.inr ⟨g,o,arr,t,fz,rfl,hh,hsz,hfr⟩,λi j hi hj b k hf=>⟨λ_ o' hA=>?_,λi' j' hi' hj' hne=>?_⟩⟩;·rw[s9];exact hcell _ _ (xN h hi hj).1
 ·obtain⟨a1,a2,a3⟩:=hx _ (xN h hi hj).2;exact⟨a1,a2,C.Qj _,a3⟩
 ·injection hA with hA;injection hA with e1 e2
  exact hg _ (xN h hi hj).2 b k hf e1.symm
 ·refine afz gQ (xN h hi hj).1 (xN h hi' hj').1 (λe=>hne ?_) hf;obtain⟨rfl,rfl⟩:=Lt hj hj' e;rfl
def BG(g:Nat)(l:List C):C:=.ptr .own g 0 l.length λj=>l.getD j (.dead undef)
def afI(g:Nat)(l:List C):(BG g l).er=.ptr .own (l.map C.er):=by simp only[BG,C.er,l9]
def afJ{g:Nat}{l:List C}{b k:Nat}(hf:(BG g l).fp b k):b=g\/∃x∈l,x.fp b k:=by
 obtain⟨_,hA|⟨j,hj,hf⟩⟩:=hf;·exact .inl hA.1
 ·exact .inr ⟨_,cI hj _,hf⟩
def afK{g:Nat}{l:List C}(hg:g<w.heap.size)(hcell:∀q x,l[q]?=some x->w.cell? ⟨g,q,none⟩=some x.val)(hfr:∀k,k<l.length->w.frozen? ⟨g,k,none⟩=false)
  (hx:∀x∈l,x.cell/\x.ok w Z)(gQ:l.Pairwise λa b=>∀x k,a.fp x k->¬b.fp x k)(hgx:∀x∈l,∀b k,x.fp b k->b≠g):(BG g l).ok w Z:=by
 refine⟨λj hj=>⟨?_,λhm=>(hm rfl).elim,λ_=>?_⟩,hg,λj hj=>?_,λj hj b k hf=>⟨λ_ hb=>?_,λj' hj' hne=>?_⟩⟩;·rw[mC];exact hcell j _ (by show _=some (l.getD j (.dead undef));rw[pq (cm hj)];exact cm hj)
 ·rw[mC];exact hfr j hj
 ·obtain⟨a1,a3⟩:=hx _ (cI hj (.dead undef));exact⟨a1,C.Qj _,a3⟩
 ·exact hgx _ (cI hj _) b k hf hb.1
 ·exact xI gQ _ hj hj' hne hf
def C.cells:C->List C
 |.agg n f=>(List.range n).map f
 |.ak _ _=>[]
 |.dead _=>[]
 |x=>[x]
def C.shape(x:C):Prop:=x.cells=[]\/(∃n f,x=.agg n f)\/(x.cells=[x]/\x.cell)
def Hs{x:C}(h:x.rf G):x.shape:=by
 cases x with
 |agg n f=>exact .inr (.inl ⟨n,f,rfl⟩)
 |ak n f=>exact .inl rfl
 |dead v=>exact .inl rfl
 |ref v r p=>exact .inr (.inr ⟨rfl,LK h⟩)
 |ax v r p i c=>obtain⟨y,hs,hy⟩:=h;refine .inr (.inr ⟨rfl,?_⟩);rcases hy with ⟨m,sz,g,o',len,cap,e,rfl,hv⟩|⟨m,g,o',n,cc,rfl,_,hv⟩<;>(subst hv;rfl)
 |cut v r p lo hi=>obtain⟨m,sz,A,len,cap,e,A',cap',hs,hv,_⟩:=h;refine .inr (.inr ⟨rfl,?_⟩);subst hv;rfl
 |_=>exact .inr (.inr ⟨rfl,trivial⟩)
def tN(x:C):x.cells.map C.er=cellsOf x.er:=by cases x<;>simp[C.cells,C.er,cellsOf]
def DK{x:C}(h:0<x.cells.length)(hc:x.shape):x.val.cells=(x.cells.map C.val).toArray:=by
 rcases hc with hc|⟨n,f,rfl⟩|⟨h1,h2⟩;·rw[hc] at h;simp at h
 ·simp[C.cells,C.val,Value.cells]
 ·rw[h1];exact aeX (Inv.qZ h2)
def zI{x y:C}(hy:y∈x.cells){b k:Nat}(hf:y.fp b k):x.fp b k:=by
 cases x with
 |agg n f=>obtain⟨j,hj,rfl⟩:=bg.1 hy;exact⟨j,by simpa using hj,hf⟩
 |ak n f=>cases hy
 |dead v=>cases hy
 |_=>simp only[C.cells,fy] at hy;subst hy;exact hf
def wm{x y:C}(hc:x.shape)(hx:x.ok w Z)(hy:y∈x.cells):y.cell/\y.ok w Z:=by
 rcases hc with hc|⟨n,f,rfl⟩|⟨h1,h2⟩;·rw[hc] at hy;cases hy
 ·obtain⟨j,hj,rfl⟩:=bg.1 hy;exact hx.1 j (by simpa using hj)
 ·rw[h1,fy] at hy;subst hy;exact⟨h2,hx⟩
def Jn{x y:C}(hx:x.rf G)(hy:y∈x.cells):y.rf G:=by
 cases x with
 |agg n f=>obtain⟨j,hj,rfl⟩:=bg.1 hy;exact hx j (by simpa using hj)
 |ak n f=>cases hy
 |dead v=>cases hy
 |_=>simp only[C.cells,fy] at hy;subst hy;exact hx
def Yz{x:C}(hx:x.ok w Z):x.cells.Pairwise λa b=>∀x k,a.fp x k->¬b.fp x k:=by
 cases x with
 |agg n f=>refine C3.2 ?_;refine Io (R:=λa b=>a<b) ?_ Nw;intro i j hi hj hlt b k hf;exact hx.2 i (by simpa using hi) b k hf j (by simpa using hj) (by omega)
 |ak n f=>exact List.Pairwise.nil
 |dead v=>exact List.Pairwise.nil
 |_=>exact U3 _ _
def bF.one{c:C}(h:fB w zl zb G c G1 s1):bF w zl zb G [c] G1 s1:=bF.cons h (bF.nil h.inv)
def bF.flat{cs:List C}(h:bF w zl zb G cs G1 s1)(hc:∀x∈cs,x.shape):bF w zl zb G (cs.flatMap C.cells) G1 s1 where
 inv:=h.inv
 all:=λc hx=>by obtain⟨x,hx,iH⟩:=Ib.1 hx;obtain⟨a1,a2,a3,a4⟩:=h.all x hx;exact⟨(wm (hc x hx) a1 iH).2,λt b k hf=>a2 t b k (zI iH hf),λb k hf=>a3 b k (zI iH hf),λb k hf=>a4 b k (zI iH hf)⟩
 apart:=by
  have h1:=h.apart;have h2:=h.all;clear h hc;induction cs with
  |nil=>exact List.Pairwise.nil
  |cons x cs ih=>rw[jF];rw[eZ] at h1;refine s7.2 ⟨Yz (h2 x (bq ..)).1,ih h1.2 (λc hc=>h2 c (bO _ hc)),λa ha b hb y k hf hf'=>?_⟩;obtain⟨x',hx',hb⟩:=Ib.1 hb;exact h1.1 x' hx' y k (zI ha hf) (zI hb hf')
 val:=h.val
 mono:=h.mono
namespace Inv
def ext(h:Inv w zl zb G s){S:Nat->Nat->Prop}(hE:Ext S w w')(hS:∀t b k,(G t).fp b k->¬S b k)(hZ:∀b k,zl b k\/zb b k->¬S b k):Inv w' zl zb G s where
 er:=h.er
 ok:=λt=>C.fG hE (λm b k hz=>by cases m with
  |own=>exact hz.elim
  |sl=>exact hZ b k (.inl hz)
  |af=>exact hZ b k hz) _ (hS t) (h.ok t)
 sep:=h.sep
 fz:=h.fz
 rf:=h.rf
 cB:=λb k hz=>kL (h.cB b k hz) hE.size
end Inv
def St.fresh'{c:Ctx}{zl:Nat->Nat->Prop}{a:Act}{l:List C}{S:Nat->Nat->Prop}(h:St c G zl s a w)(hT:bF w zl c.zb G l G1 s1)(hE:Ext S w w')(hS:∀b k,S b k->w.heap.size<=b\/∃y∈l,y.fp b k){x:C}{n:Nat}(hn:n<c.nt)(hok:x.ok w' (Zf zl c.zb))(hrf:x.rf G1)
  (cr:∀b k,x.fp b k->w.heap.size<=b\/∃y∈l,y.fp b k):∃G',St c G' zl (M.put n x.er s1) (a.put (some n) x.val) w':=by
 have hi:Inv w' zl c.zb G1 s1:=hT.inv.ext hE (λt b k hf hs=>by
  rcases hS b k hs with hb|⟨y,hy,hf'⟩;·have:=C.fC _ (hT.inv.ok t) b k hf;omega
  ·exact(hT.all y hy).2.1 t b k hf' hf) (λb k hz hs=>by
  rcases hS b k hs with hb|⟨y,hy,hf'⟩;·have:=hT.inv.cB b k hz;omega
  ·exact hz.elim ((hT.all y hy).2.2.1 b k hf').1 ((hT.all y hy).2.2.1 b k hf').2)
 have hdom:∀b k,(w.heap.size<=b\/∃y∈l,y.fp b k)->c.F0 b k\/c.w0.heap.size<=b:=λb k hh=>by
  rcases hh with hb|⟨y,hy,hf⟩;·exact .inr (jo h.tr.ext.size hb)
  ·obtain⟨t,ht⟩:=(hT.all y hy).2.2.2 b k hf;exact h.tr.dom t b k ht
 have h1:St c G1 zl s1 a w':=h.move hi hT.val hE (λb k hs=>hdom b k (hS b k hs)) (λt b k hf=>.inl ⟨t,hT.mono t b k hf⟩);refine h1.put hn hok (λt _ b k hf hf'=>?_) (λb k hf=>?_) hrf (λb k hf=>hdom b k (cr b k hf))
 ·rcases cr b k hf with hb|⟨y,hy,hf⟩;·have:=C.fC _ (hT.inv.ok t) b k hf';omega
  ·exact(hT.all y hy).2.1 t b k hf hf'
 ·rcases cr b k hf with hb|⟨y,hy,hf⟩;·exact⟨λhz=>by have:=hT.inv.cB b k (.inl hz);omega,λhz=>by have:=hT.inv.cB b k (.inr hz);omega⟩
  ·exact(hT.all y hy).2.2.1 b k hf
def St.fresh{c:Ctx}{zl:Nat->Nat->Prop}{a:Act}{l:List C}(h:St c G zl s a w)(hT:bF w zl c.zb G l G1 s1)(hE:Ext (λb _=>w.heap.size<=b) w w'){x:C}{n:Nat}(hn:n<c.nt)(hok:x.ok w' (Zf zl c.zb))(hrf:x.rf G1)
  (cr:∀b k,x.fp b k->w.heap.size<=b\/∃y∈l,y.fp b k):∃G',St c G' zl (M.put n x.er s1) (a.put (some n) x.val) w':=
 h.fresh' hT hE (λ_ _ hs=>.inl hs) hn hok hrf cr
def bF.fits'{l:List C}{S:Nat->Nat->Prop}(hT:bF w zl zb G l G1 s1)(hE:Ext S w w')(hZ:∀b k,zl b k\/zb b k->¬S b k){x:C}(hx:x.ok w (Zf zl zb))(hS:∀b k,x.fp b k->¬S b k):x.ok w' (Zf zl zb):=
 C.fG hE (λm b k hz=>by cases m with
  |own=>exact hz.elim
  |sl=>exact hZ b k (.inl hz)
  |af=>exact hZ b k hz) _ hS hx
def bF.fits{l:List C}(hT:bF w zl zb G l G1 s1)(hE:Ext (λb _=>w.heap.size<=b) w w'){x:C}(hx:x∈l):x.ok w' (Zf zl zb):=by obtain⟨a1,a2,a3,a4⟩:=hT.all x hx;exact C.fG hE (λm b k hz hs=>by have:=IJ hT.inv.cB m b k hz;omega) _ (λb k hf hs=>by have:=C.fC _ a1 b k hf;omega) a1
def Ai(w:World)(o:Obj):(w.alloc o).heap[w.heap.size]?=some o:=by show (w.heap.push o)[w.heap.size]?=_;simp
def IQ(w:World)(o:Obj):Ext (λb _=>w.heap.size<=b) w (w.alloc o):=Ext.alloc w _ o
def PK(w:World)(o:Obj):Ext (λb _=>w.heap.size<=b) w (w.drew.alloc o):=
 (Ext.drew w (λb _=>w.heap.size<=b)).trans (Ext.alloc w.drew (λb _=>w.heap.size<=b) o) (λ_ _ h _=>h)
end M
namespace M
open Go Go.RowKit
variable [Bs]
section
variable {P:Program}{c:Ctx}{G:Nat->C}{zl:Nat->Nat->Prop}{s:ah}{a:Act}{w:World}{o:Oper}{K:ah->Prop}
def mI:List Value->List X->Bool
 |[],[]=>true
 |v::vs,x::xs=>(DL v x||(match x with|.dead=>v.oneCell'|_=>false)) && mI vs xs
 |_,_=>false
structure WL (w:World) (zl zb:Nat->Nat->Prop) (vs:List Value) (xs:List X) (l:List C):Prop where
 er:l.map C.er=xs
 val:l.map C.val=vs
 all:∀x∈l,x.plain/\x.ok w (Zf zl zb)/\∀b k,¬x.fp b k
def Dh(w:World)(zl zb:Nat->Nat->Prop):∀{vs:List Value} {xs:List X},mI vs xs=true->∃l,WL w zl zb vs xs l
 |[],[],_=>⟨[],rfl,rfl,λ_ hx=>(by cases hx)⟩
 |v::vs,x::xs,h=>by
  simp only[mI,az,tg] at h;obtain⟨l,l1,l2,l3⟩:=Dh w zl zb h.2
  have:∃d:C,d.er=x/\d.val=v/\d.plain/\d.ok w (Zf zl zb)/\∀b k,¬d.fp b k:=by
   rcases h.1 with h1|h1;·obtain⟨d,d1,d2,d3,d4⟩:=PB (w:=w) (zl:=zl) (c:=⟨w,zl,zl,zb,0,[]⟩) (G:=λ_=>.dead undef) h1;exact⟨d,d1,d2,d4,d3.ok,d3.cM⟩
   ·cases x with
    |dead=>exact⟨.dead v,rfl,rfl,h1,trivial,λ_ _ h=>h⟩
    |_=>cases h1
  obtain⟨d,d1,d2,d3⟩:=this;refine⟨d::l,by simp[d1,l1],by simp[d2,l2],λx hx=>?_⟩;rcases b9.1 hx with rfl|hx;·exact d3
  ·exact l3 x hx
 |[],_::_,h=>by cases h
 |_::_,[],h=>by cases h
def qS{l:List C}(h:∀x∈l,∀b k,¬x.fp b k):l.Pairwise λa b=>∀x k,a.fp x k->¬b.fp x k:=by
 induction l with
 |nil=>exact List.Pairwise.nil
 |cons x l ih=>exact eZ.2 ⟨λy _ b k hf=>(h x (bq ..) b k hf).elim,ih λy hy=>h y (bO _ hy)⟩
def bF.none(h:Inv w zl c.zb G s){l:List C}(hl:∀x∈l,x.ok w (Zf zl c.zb)/\∀b k,¬x.fp b k):bF w zl c.zb G l G s:=
 ⟨h,λx hx=>⟨(hl x hx).1,λt b k hf=>((hl x hx).2 b k hf).elim,λb k hf=>((hl x hx).2 b k hf).elim,λb k hf=>((hl x hx).2 b k hf).elim⟩,qS λx hx=>(hl x hx).2,λ_=>rfl,λ_ _ _ hf=>hf⟩
def QL(h:St c G zl s a w){l:List C}{G1:Nat->C}{s1:ah}(hT:bF w zl c.zb G l G1 s1)(hcell:∀x∈l,x.cell)(hrf:∀x∈l,x.rf G1){d:Nat}(hd:o.dst=some d)(hn:d<c.nt){t:TypeId}{arr:Array Value}(J3:arr=(l.map C.val).toArray)
  (hrun:(execOp a.eval o).run P w=.ok (.value (.pointer (some ⟨w.heap.size,0,none⟩))) (w.alloc (.cells arr t)))(hK:K (put d (.ptr .own (l.map C.er)) s1)):jH P c o a w K:=by
 subst J3;have hE:=IQ w (.cells (l.map C.val).toArray t);have hnew:=Ai w (.cells (l.map C.val).toArray t)
 have hok:(BG w.heap.size l).ok (w.alloc (.cells (l.map C.val).toArray t)) (Zf zl c.zb):=by
  refine afK ?_ (λq x hq=>?_) (λk _=>frozen_of_row _ _ _ _ _ hnew) (λx hx=>⟨hcell x hx,hT.fits hE hx⟩) hT.apart (λx hx b k hf=>?_);·exact(j9.1 hnew).1
  ·rw[cell_of_row _ _ _ _ _ (0,0) hnew];simp[hq]
  ·have:=C.fC _ (hT.all x hx).1 b k hf;omega
 obtain⟨G',h'⟩:=h.fresh hT hE hn hok (λj hj=>hrf _ (cI hj _)) (λb k hf=>(afJ hf).imp (λe=>by omega) id);refine⟨_,_,hrun,hE.mono (λb k hs hb=>by omega),G',zl,_,hK,?_⟩;rw[hd];rw[afI] at h';exact h'
def good_row(h:St c G zl s a w){L:List (List C)}{sz cap:Nat}{G1:Nat->C}{s1:ah}(hL:∀e∈L,e.length=sz)(hcap:L.length<=cap)(hT:bF w zl c.zb G L.flatten G1 s1)(hpl:∀x∈L.flatten,x.plain){d:Nat}(hd:o.dst=some d)(hn:d<c.nt)
  {t:TypeId}{arr:Array Value}{fz:Nat×Nat}{w':World}(hE:Ext (λb _=>w.heap.size<=b) w w')(hnew:w'.heap[w.heap.size]?=some (.cells arr t fz))(hsz:cap*sz<=arr.size)(hfz:∀k,k<cap*sz->¬(fz.1<=k/\k<fz.2))(J3:∀(q:Nat) (x:C),L.flatten[q]?=some x->arr[q]?=some x.val)
  (hrun:(execOp a.eval o).run P w=.ok (.value (.slice (some ⟨w.heap.size,0,none⟩) L.length cap)) w')(hK:K (put d (.row .own sz (L.map λe=>e.map C.er)) s1)):jH P c o a w K:=by
 have hok:(uL w.heap.size 0 sz cap L).ok w' (Zf zl c.zb):=by
  refine Tg hL hcap hnew (by omega) (λk _ hk=>?_) (λq x hq=>?_) (λx hx=>⟨C.lg (hpl x hx),C.BE (hpl x hx),hT.fits hE hx⟩) hT.apart (λx hx b k hf=>?_);·have:=hfz k (by omega);simp[World.frozen?,hnew];omega
  ·rw[cell_of_row _ _ _ _ _ fz hnew,mC];exact J3 q x hq
  ·have:=C.fC _ (hT.all x hx).1 b k hf;omega
 obtain⟨G',h'⟩:=h.fresh hT hE hn hok trivial (λb k hf=>(Tf hL hf).imp (λe=>by omega) id);refine⟨_,_,hrun,hE.mono (λb k hs hb=>by omega),G',zl,_,hK,?_⟩;rw[hd];rw[Te hL] at h';exact h'
def afp(h:St c G zl s a w){d:Nat}{ty:TypeId}{i:TypeInfo}{v:Value}{z:List X}(ho:o.op=.alloc ty)(hi:P.info? ty=some i)(hz:i.zero=some v)(hc:mI v.cells.toList z=true)(hd:o.dst=some d)(hn:d<c.nt)
  (hK:aP P (.new d z) s K):jH P c o a w K:=by
 obtain⟨l,l1,l2,l3⟩:=Dh w zl c.zb hc;refine QL h (bF.none h.inv λx hx=>(l3 x hx).2) (λx hx=>C.lg (l3 x hx).1) (λx hx=>C.oc (l3 x hx).1 _) hd hn (t:=ty) (arr:=v.cells) ?_ ?_ (by rw[l1];exact hK);·rw[l2]
 ·simp[execOp,ho,Instr.alloc,zeroValue,typeInfo,hi,hz,newVar,newRow]
def ae5(h:St c G zl s a w){d:Nat}{tk:Tk}{ty:TypeId}{x:AV}{x':Operand}(ho:o.op=.box ty x')(hd:o.dst=some d)(hn:d<c.nt)(hx:aM x' x=true)
  (hK:aP P (.box d tk x) s K):jH P c o a w K:=by obtain⟨y,e1,e2,e3⟩:=cj h hx;obtain⟨y',G1,f1,f2,f3,f4⟩:=qC tk h.inv e3;obtain⟨k1,k2⟩:=hK;rw[<-e1,<-f1,<-tN] at k1 k2;have hsh:=Hs f4.rf;have hT:=bF.flat (bF.one f4) (λx hx=>by rw[fy] at hx;subst hx;exact hsh);simp only[jF,NS,mD] at hT;refine QL h hT (λx hx=>(wm hsh f4.ok hx).1) (λx hx=>Jn f4.rf hx) hd hn (t:=ty) (DK (by simpa using k1) hsh) ?_ k2;rw[f2,e2];simp[execOp,ho,Instr.box,newVar,newRow]
def afl(h:St c G zl s a w){d sz bytes:Nat}{ty el:TypeId}{i:TypeInfo}{v:Value}{z:List X}{n:AV}{n' n2:Operand}(ho:o.op=.makeSlice ty n' n2)(hu:P.underlying ty=some (.slice el))(hi:P.info? el=some i)(hz:i.zero=some v)(hsz:i.size=sz)(hb:i.bytes=bytes)(hb0:0<bytes)
  (h0:0<sz)(hzs:z.length=sz)(hc:mI v.cells.toList z=true)(hd:o.dst=some d)(hn:d<c.nt)(hx:aM n' n=true)(hx2:aM n2 n=true)(hK:aP P (.make d sz bytes z n) s K):jH P c o a w K:=by
 obtain⟨y,e1,e2,e3⟩:=cj h hx;obtain⟨y2,g1,g2,g3⟩:=cj h hx2;simp only[aP] at hK;split at hK
 ·rename_i k m hm;have hm2:=hm;rw[<-e1] at hm;rw[<-g1] at hm2;have:=mJ hm;subst this;have:=mJ hm2;subst this;obtain⟨k1,k2,k3⟩:=hK;obtain⟨l,l1,l2,l3⟩:=Dh w zl c.zb hc;have nP:l.length=sz:=by rw[<-hzs,<-l1];simp
  have hvs:v.cells.size=sz:=by have:=dr List.length l2;simp only[cZ,C0] at this;omega
  have hL:∀e∈List.replicate m.toNat l,e.length=sz:=λe he=>by rw[(Nu.1 he).2];exact nP
  have hfl:∀x∈(List.replicate m.toNat l).flatten,x∈l:=λx hx=>by obtain⟨e,he,hx⟩:=Ic.1 hx;rw[(Nu.1 he).2] at hx;exact hx
  have hmul:m<=m*bytes:=by have:m*1<=m*(bytes:Int):=Int.mul_le_mul_of_nonneg_left (by omega) k1;omega
  have hr:=run_make (P:=P) w ty el i v hu hi hz k k m m k1 (Int.le_refl _) (by rw[hb,Int.mul_comm];omega) (by omega);refine good_row h (L:=List.replicate m.toNat l) (cap:=m.toNat) hL (by simp) (bF.none h.inv λx hx=>(l3 x (hfl x hx)).2) (λx hx=>(l3 x (hfl x hx)).1) hd hn (IQ w (.cells (madeCells v.cells (m.toNat*i.size)) el (0,0))) (Ai w (.cells (madeCells v.cells (m.toNat*i.size)) el (0,0))) ?_ ?_ ?_ ?_ ?_;·rw[size_madeCells,hsz];exact eC _
  ·intro k _ hh;simp at hh
  ·intro q x hq;have Ap:q<m.toNat*sz:=by have:=(aL.1 hq).1;rw[rz hL,List.length_replicate] at this;exact this
   have hj:q%sz<sz:=tc _ h0;have hi':q / sz<m.toNat:=U9 (by rw[qH];exact Ap);have Ao:q=q / sz*sz+q%sz:=by have:=C8 q sz;rw[qH] at this;omega
   have:=zY hL (q / sz) (q%sz) (by simpa using hi') hj;rw[<-Ao,hq,NT,au hi'] at this;simp only[gj] at this;have hv:v.cells.toList[q%sz]?=some x.val:=by rw[<-l2,cR,<-this];rfl
   have ey:v.cells[q%sz]?=some x.val:=by simpa using hv
   rw[hsz];simp only[madeCells,Array.getElem?_map];rw[Array.getElem?_range,au Ap];simp[hvs,getElem!_def,ey]
  ·simp[execOp,ho,<-e2,<-g2,C.val,hr]
  ·rw[List.map_replicate,l1];exact k3
 ·exact hK.elim
def ae7(h:St c G zl s a w){d:Nat}{src dst el:TypeId}{x:AV}{x':Operand}(ho:o.op=.convert src dst x')(hs:P.underlying src=some .string)(hu:P.underlying dst=some (.slice el))(he:P.underlying el=some (.int .u8))(hd:o.dst=some d)(hn:d<c.nt)(hx:aM x' x=true)
  (hK:aP P (.bytes d x) s K):jH P c o a w K:=by
 obtain⟨y,e1,e2,e3⟩:=cj h hx;simp only[aP] at hK;split at hK
 ·rename_i t ht;rw[<-e1] at ht;have:=D6 ht;subst this;have hr:=run_bytes_of_string (P:=P) w src dst el t hs hu he;have hge:=grownCap_ge w t.size 0 el;generalize grownCap w t.size 0 el=cap at hr hge;have hL:∀e∈t.data.toList.map (λb:UInt8=>[C.int .u8 (b.toNat:Int)]),e.length=1:=λe he=>by obtain⟨b,_,rfl⟩:=bg.1 he;rfl
  have hfl:∀x∈(t.data.toList.map (λb:UInt8=>[C.int .u8 (b.toNat:Int)])).flatten,∃n,x=C.int .u8 n:=λx hx=>by obtain⟨e,he,hx⟩:=Ic.1 hx;obtain⟨b,_,rfl⟩:=bg.1 he;exact⟨_,fy.1 hx⟩
  have hts:t.size=t.data.size:=rfl;have hlen:(t.data.toList.map (λb:UInt8=>[C.int .u8 (b.toNat:Int)])).length=t.size:=by rw[cZ,C0];rfl
  have hsz:(bytesRow t cap).size=cap:=by simp[bytesRow];omega
  refine good_row h (L:=t.data.toList.map (λb:UInt8=>[C.int .u8 (b.toNat:Int)])) (cap:=cap) (sz:=1) hL (by rw[hlen];exact hge) (bF.none h.inv λx hx=>?_) (λx hx=>?_) hd hn (PK w (.cells (bytesRow t cap) el ((bytesRow t cap).size,(bytesRow t cap).size+1))) (Ai w.drew (.cells (bytesRow t cap) el ((bytesRow t cap).size,(bytesRow t cap).size+1))) ?_ ?_ ?_ ?_ ?_;·obtain⟨n,rfl⟩:=hfl x hx;exact⟨trivial,λ_ _ hf=>hf⟩
  ·obtain⟨n,rfl⟩:=hfl x hx;trivial
  ·rw[hsz];omega
  ·intro k hk;rw[hsz];omega
  ·intro q x hq;have Ap:q<t.data.size:=by have:=(aL.1 hq).1;rw[rz hL,hlen] at this;omega
   have:=zY hL q 0 (by rw[hlen];omega) (by omega);rw[Nat.mul_one,nB,hq,cR] at this;rw[bytesRow_at t cap q Ap];rw[cm (by simpa using Ap)] at this;simp at this;rw[this];rfl
  ·rw[hlen];simp[execOp,ho,<-e2,C.val,hr]
  ·rw[cH];exact hK
 ·exact hK.elim
end
end M
namespace M
open Go Go.RowKit
variable [Bs]
def afF{y:C}(hc:y.cell)(h:cO y.er=true):y.plain:=by cases y<;>first|exact hc|trivial|(simp[C.er,cO] at h)
def Hv:∀{l:List X},gX l=true->∀x∈l,cO x=true
 |[],_,x,hx=>by cases hx
 |y::l,h,x,hx=>by
  simp only[gX,az] at h;rcases b9.1 hx with rfl|hx;·exact h.1
  ·exact Hv h.2 x hx
def RN{w:World}{Z:Md->Nat->Nat->Prop}{x y:C}(hs:x.shape)(hok:x.ok w Z)(h:gX (cellsOf x.er)=true)(hy:y∈x.cells):y.plain:=by refine afF (wm hs hok hy).1 (Hv h _ ?_);rw[<-tN];exact j6 hy
section
variable {P:Program}{c:Ctx}{G:Nat->C}{zl:Nat->Nat->Prop}{s:ah}{a:Act}{w:World}{o:Oper}{K:ah->Prop}
def St.yL{x:C}{G1:Nat->C}{s1:ah}(h:St c G zl s a w)(hT:fB w zl c.zb G x G1 s1):St c G1 zl s1 a w:=
 h.move hT.inv hT.val (Ext.refl (λ_ _=>False) w) (λ_ _ hs=>hs.elim) (λt b k hf=>.inl ⟨t,hT.mono t b k hf⟩)
def MR(tk:Tk):∀{l':List Operand} {l:List AV},lJ l' l=true->∀{G:Nat->C} {s:ah},St c G zl s a w->
  ∃cs G',cs.map C.er=(takes tk l s).1/\cs.map C.val=l'.map a.eval/\bF w zl c.zb G cs G' (takes tk l s).2/\∀x∈cs,x.shape
 |[],[],_,G,s,h=>⟨[],G,rfl,rfl,bF.nil h.inv,λ_ hx=>(by cases hx)⟩
 |x'::l',x::l,hc,G,s,h=>by
  simp only[lJ,az] at hc;obtain⟨p,p1,p2,p3⟩:=cj h hc.1;obtain⟨y,G1,f1,f2,f3,f4⟩:=qC tk h.inv p3;obtain⟨cs,G',g1,g2,g3,g4⟩:=MR tk hc.2 (h.yL f4);rw[p1] at f1 g1 g3 f4;refine⟨y::cs,G',by simp[takes,f1,g1],by simp[f2,p2,g2],bF.cons f4 g3,λz hz=>?_⟩;rcases b9.1 hz with rfl|hz;·exact Hs f4.rf
  ·exact g4 z hz
 |[],_::_,hc,_,_,_=>by cases hc
 |_::_,[],hc,_,_,_=>by cases hc
def agM(x:X)(s:ah):take .al x s=(x,s):=by cases x<;>rfl
def T4:∀(l:List AV) (s:ah),takes .al l s=(l.map (av s),s)
 |[],s=>rfl
 |x::l,s=>by simp only[takes,agM,T4 l s,bn]
def agN(tk:Tk){l':List Operand}{l:List AV}(hc:lJ l' l=true)(h:St c G zl s a w)(hs:Hw tk (takes tk l s).1):
  ∃cs G',cs.map C.er=(takes tk l s).1/\cs.map C.val=l'.map a.eval/\bF w zl c.zb G cs G' (takes tk l s).2/\(∀x∈cs,x.shape)/\∀x∈cs,∀y∈x.cells,y.rf G':=by
 have gen:(∀x∈(takes tk l s).1,gX (cellsOf x)=true)->∃cs G',cs.map C.er=(takes tk l s).1/\cs.map C.val=l'.map a.eval/\bF w zl c.zb G cs G' (takes tk l s).2/\(∀x∈cs,x.shape)/\∀x∈cs,∀y∈x.cells,y.rf G':=by intro hs;obtain⟨cs,G',g1,g2,g3,g4⟩:=MR tk hc h;refine⟨cs,G',g1,g2,g3,g4,λx hx y hy=>C.oc (RN (g4 x hx) (g3.all x hx).1 (hs _ ?_) hy) _⟩;rw[<-g1];exact j6 hx
 cases tk with
 |al=>rw[T4];obtain⟨cs,l1,l2,l3⟩:=Lq h hc;exact⟨cs,G,l1,l2,bF.none h.inv λx hx=>⟨(l3 x hx).ok,(l3 x hx).cM⟩,λx hx=>Hs (l3 x hx).rf,λx hx y hy=>Jn (l3 x hx).rf hy⟩
 |mv=>exact gen hs
 |aK=>exact gen hs
def zK:Nat->List (Nat×Operand)->List AV->Bool
 |_,[],[]=>true
 |k,(i,x')::l',x::l=>i==k && aM x' x && zK (k+1) l' l
 |_,_,_=>false
def Pr(a:Act):∀{k:Nat} {l':List (Nat×Operand)} {l:List AV},zK k l' l=true->lJ (l'.map (·.2)) l=true/\l'.length=l.length/\(l'.map λx=>(x.1,a.eval x.2))=(((l'.map (·.2)).map a.eval).zipIdx k).map λx=>(x.2,x.1)
 |k,[],[],_=>⟨rfl,rfl,rfl⟩
 |k,(i,x')::l',x::l,h=>by simp only[zK,az,eu] at h;obtain⟨⟨rfl,h1⟩,h2⟩:=h;obtain⟨i1,i2,i3⟩:=Pr a h2;exact⟨by simp[lJ,h1,i1],by simp[i2],by simp[i3,List.zipIdx_cons]⟩
 |k,[],_::_,h=>by cases h
 |k,_::_,[],h=>by cases h
def afj(h:St c G zl s a w){d sz n:Nat}{tk:Tk}{ty el:TypeId}{i:TypeInfo}{v:Value}{ps:List AV}{ps':Array (Nat×Operand)}(ho:o.op=.buildSlice ty n ps')(hu:P.underlying ty=some (.slice el))(hi:P.info? el=some i)(hz:i.zero=some v)(hsz:i.size=sz)
  (h0:0<sz)(hvs:v.cells.size=sz)(hn':ps'.toList.length=n)(hbig:n*sz<=16777216)(hd:o.dst=some d)(hn:d<c.nt)(hx:zK 0 ps'.toList ps=true)(hK:aP P (.lit d tk sz ps) s K):jH P c o a w K:=by
 obtain⟨i1,i2,i3⟩:=Pr a hx;obtain⟨k1,k2⟩:=hK;obtain⟨cs,G',g1,g2,g3,g4⟩:=MR tk i1 h;rw[<-g1] at k1 k2;have hlen:∀x∈cs,x.cells.length=sz:=λx hx=>by have:=(k1 x.er (j6 hx)).1;rw[<-tN] at this;simpa using this
 have hcl:cs.length=n:=by have:=dr List.length g2;simp only[cZ] at this;omega
 have hL:∀e∈cs.map C.cells,e.length=sz:=λe he=>by obtain⟨x,hx,rfl⟩:=bg.1 he;exact hlen x hx
 have hfl:(cs.map C.cells).flatten=cs.flatMap C.cells:=by rw[List.flatMap_def]
 have hval:∀x∈cs,x.val.cells=(x.cells.map C.val).toArray:=λx hx=>DK (by rw[hlen x hx];exact h0) (g4 x hx);have hvl:∀v∈cs.map C.val,v.cells.size=sz:=λv hv=>by obtain⟨x,hx,rfl⟩:=bg.1 hv;rw[hval x hx];simp[hlen x hx]
 have acu:((cs.map C.val).flatMap λv=>v.cells.toList)=(cs.flatMap C.cells).map C.val:=by
  rw[List.map_flatMap,List.flatMap_map];clear k1 k2 g1 g2 g3 g4 hcl hL hfl hvl hlen;induction cs with
  |nil=>rfl
  |cons x cs ih=>rw[jF,jF,ih λy hy=>hval y (bO _ hy),hval x (bq ..)]
 have hparts:(ps'.map λ(i,x)=>(i,a.eval x)).toList=((cs.map C.val).zipIdx 0).map λx=>(x.2,x.1):=by rw[Nz,g2];exact i3
 have hrun:(Instr.buildSlice ty n (ps'.map λ(i,x)=>(i,a.eval x))).run P w=.ok (.slice (some ⟨w.heap.size,0,none⟩) n n) (w.alloc (.cells ((cs.flatMap C.cells).map C.val).toArray el)):=by
  by_cases hz0:n=0
  ·subst hz0;have hc0:cs=[]:=NQ hcl;subst hc0;have hp:ps'= #[]:=by apply oK;exact NQ hn'
   subst hp;simp[Instr.buildSlice,run_underlying hu,Go.sizeOf,typeInfo,hi,newRow,Instr.fill,Array.range_zero']
  ·have hsmall:¬n*i.size>2^24:=by rw[hsz];omega
   have hpos:¬n*i.size=0:=by rw[hsz];have:=Nat.mul_pos (Nat.pos_of_ne_zero hz0) h0;omega
   refine run_buildSlice (P:=P) w ty el n _ _ i v hu hi hz hsmall hpos ?_;rw[hparts,hsz,<-acu];exact Great.fill_whole h0 _ _ hvl (by simp[hcl])
 refine good_row h (L:=cs.map C.cells) (cap:=n) (sz:=sz) (fz:=(0,0)) (w':=w.alloc (.cells ((cs.flatMap C.cells).map C.val).toArray el)) hL (by simp[hcl]) (by rw[hfl];exact bF.flat g3 g4) (λy hy=>?_) hd hn (IQ w _) (Ai w _) ?_ (λk _ hh=>by simp at hh) ?_ ?_ ?_;·rw[hfl] at hy;obtain⟨x,hx,hy⟩:=Ib.1 hy;exact RN (g4 x hx) (g3.all x hx).1 (k1 x.er (j6 hx)).2 hy
 ·have:=rz hL;rw[hfl] at this;simp only[cZ] at this;simp[this,hcl]
 ·intro q x hq;rw[hfl] at hq;simp[hq]
 ·have:(cs.map C.cells).length=n:=by simp[hcl]
  rw[this];simp only[execOp,ho,Sem.run_bind,hrun,Result.andThen_ok,Sem.run_pure]
 ·rw[cH] at k2⊢;have:cs.map (cellsOf∘C.er)=cs.map ((λe=>e.map C.er)∘C.cells):=b7 λx _=>(tN x).symm;rw[<-this];exact k2
def Qt:∀(vs:List Value) (off k:Nat) (cells:Array Value),((vs.zipIdx k).foldl (λcs (x:Value×Nat)=>cs.setIfInBounds (off+x.2) x.1) cells).toList=ki cells.toList (off+k) vs
 |[],off,k,cells=>rfl
 |v::vs,off,k,cells=>by rw[List.zipIdx_cons,nE,Qt vs off (k+1)];rw[Array.toList_setIfInBounds];rfl
def JI{α β:Type}(f:α->β):∀(ys:List α) (l:List α) (o:Nat),(ki l o ys).map f=ki (l.map f) o (ys.map f)
 |[],l,o=>rfl
 |y::ys,l,o=>by simp only[ki,bn];rw[JI f ys,akc]
def P9{α:Type}:∀(ys:List α) (l:List α) (o:Nat),(ki l o ys).length=l.length
 |[],l,o=>rfl
 |y::ys,l,o=>by simp only[ki];rw[P9 ys,Iz]
def JJ{α:Type}:∀(ys:List α) (l:List α) (o:Nat),∀x∈ki l o ys,x∈l\/x∈ys
 |[],l,o,x,hx=>.inl hx
 |y::ys,l,o,x,hx=>by
  rcases JJ ys _ _ x hx with hx|hx
  ·rcases Nt hx with hx|rfl;·exact .inl hx
   ·exact .inr (bq ..)
  ·exact .inr (bO _ hx)
def Tz{α:Type}{R:α->α->Prop}(rM:∀a b,R a b->R b a){y:α}:∀{l:List α},l.Pairwise R->(∀x∈l,R x y)->∀o,(l.set o y).Pairwise R
 |[],h,hy,o=>by simp
 |x::l,h,hy,0=>by rw[eZ] at h;rw[C6];exact eZ.2 ⟨λa ha=>rM _ _ (hy a (bO _ ha)),h.2⟩
 |x::l,h,hy,o+1=>by
  rw[eZ] at h;rw[List.set_cons_succ];refine eZ.2 ⟨λa ha=>?_,Tz rM h.2 (λz hz=>hy z (bO _ hz)) o⟩;rcases Nt ha with ha|rfl;·exact h.1 a ha
  ·exact hy x (bq ..)
def Qa{α:Type}{R:α->α->Prop}(rM:∀a b,R a b->R b a):∀(ys:List α) (l:List α) (o:Nat),l.Pairwise R->ys.Pairwise R->(∀x∈l,∀y∈ys,R x y)->(ki l o ys).Pairwise R
 |[],l,o,h,_,_=>h
 |y::ys,l,o,h,h2,h3=>by
  rw[eZ] at h2;refine Qa rM ys _ _ (Tz rM h (λx hx=>h3 x hx y (bq ..)) o) h2.2 λx hx z hz=>?_;rcases Nt hx with hx|rfl;·exact h3 x hx z (bO _ hz)
  ·exact h2.1 z hz
def lN:List C->List Nat->List C->List C
 |cs,o::os,y::ys=>lN (ki cs o y.cells) os ys
 |cs,_,_=>cs
def Qd:∀(cs:List C) (os:List Nat) (ys:List C),(lN cs os ys).map C.er=wC (cs.map C.er) os (ys.map C.er)
 |cs,[],ys=>by cases ys<;>rfl
 |cs,o::os,[]=>rfl
 |cs,o::os,y::ys=>by simp only[lN,wC,bn];rw[Qd,JI,tN]
def Qe:∀(cs:List C) (os:List Nat) (ys:List C),∀x∈lN cs os ys,x∈cs\/x∈ys.flatMap C.cells
 |cs,[],ys,x,hx=>by cases ys<;>exact .inl hx
 |cs,o::os,[],x,hx=>.inl hx
 |cs,o::os,y::ys,x,hx=>by
  rw[jF,dO];rcases Qe _ os ys x hx with hx|hx;·exact(JJ _ _ _ x hx).imp id .inl
  ·exact .inr (.inr hx)
def Qf{R:C->C->Prop}(rM:∀a b,R a b->R b a):∀(cs:List C) (os:List Nat) (ys:List C),cs.Pairwise R->(ys.flatMap C.cells).Pairwise R->(∀x∈cs,∀y∈ys.flatMap C.cells,R x y)->(lN cs os ys).Pairwise R
 |cs,[],ys,h,_,_=>by cases ys<;>exact h
 |cs,o::os,[],h,_,_=>h
 |cs,o::os,y::ys,h,h2,h3=>by
  rw[jF,s7] at h2;refine Qf rM _ os ys (Qa rM _ _ _ h h2.1 λx hx z hz=>h3 x hx z (by rw[jF];exact Nq _ hz)) h2.2.1 λx hx z hz=>?_;rcases JJ _ _ _ x hx with hx|hx;·exact h3 x hx z (by rw[jF];exact Nr _ hz)
  ·exact h2.2.2 x hx z hz
def tO(places:List (Nat×Nat))(len:Nat):List (Nat×Operand)->List ((Nat×Nat)×AV)->Bool
 |[],[]=>true
 |(i,x')::l',((off,size),x)::l=>(match places[i]? with|some q=>q.1==off && q.2==size|none=>false) && decide (0<size) && decide (off+size<=len) && aM x' x && tO places len l' l
 |_,_=>false
def Pn{places:List (Nat×Nat)}{len:Nat}:∀{l':List (Nat×Operand)} {l:List ((Nat×Nat)×AV)},tO places len l' l=true->lJ (l'.map (·.2)) (l.map (·.2))=true
 |[],[],_=>rfl
 |(i,x')::l',((off,size),x)::l,h=>by simp only[tO,az] at h;simp only[bn,lJ,h.1.2,Pn h.2,Bool.and_self]
 |[],_::_,h=>by cases h
 |_::_,[],h=>by cases h
def Qb(a:Act){places:List (Nat×Nat)}{len:Nat}:∀{l':List (Nat×Operand)} {l:List ((Nat×Nat)×AV)},tO places len l' l=true->∀(zs cs:List C),zs.length=len->cs.map C.val=(l'.map (·.2)).map a.eval->(∀x∈cs,x.shape)->yG (l.map (·.1.2)) (cs.map C.er)->
  Instr.fill (λi=>places[i]?) (zs.map C.val).toArray (l'.map λx=>(x.1,a.eval x.2))=some ((lN zs (l.map (·.1.1)) cs).map C.val).toArray
 |[],[],_,zs,cs,hz,hv,hs,hsz=>by
  cases cs with
  |nil=>rfl
  |cons x cs=>simp at hv
 |(i,x')::l',((off,size),x)::l,h,zs,cs,hz,hv,hs,hsz=>by
  simp only[tO,az,aY] at h;obtain⟨⟨⟨⟨h1,h2⟩,h3⟩,h4⟩,h5⟩:=h;cases cs with
  |nil=>simp at hv
  |cons y cs=>
   simp only[bn,vK] at hv;simp only[bn,yG] at hsz
   have hpl:places[i]?=some (off,size):=by
    cases hp:places[i]? with
    |none=>rw[hp] at h1;cases h1
    |some q=>rw[hp] at h1;simp only[az,eu] at h1;rw[<-h1.1,<-h1.2]
   have pM:y.cells.length=size:=by have:=hsz.1;rw[<-tN] at this;simpa using this
   have nS:=DK (by rw[pM];exact h2) (hs y (bq ..));simp only[bn];unfold Instr.fill;simp only[hpl,<-hv.1,nS];rw[aC (by simp[pM,hz];exact h3)];have:(((y.cells.map C.val).toArray.zipIdx).foldl (λcs (x:Value×Nat)=>cs.setIfInBounds (off+x.2) x.1) (zs.map C.val).toArray)=((ki zs off y.cells).map C.val).toArray:=by apply oK;rw[<-Array.foldl_toList,Array.toList_zipIdx,Qt,JI];rfl
   have ih:=Qb a h5 (ki zs off y.cells) cs (by rw[P9];exact hz) hv.2 (λx hx=>hs x (bO _ hx)) hsz.2;simp only[lN];rw[<-ih,<-this]
 |[],_::_,h,_,_,_,_,_,_=>by cases h
 |_::_,[],h,_,_,_,_,_,_=>by cases h
def ae6(h:St c G zl s a w){d:Nat}{tk:Tk}{ty:TypeId}{i:TypeInfo}{v:Value}{z:List X}{ps:List ((Nat×Nat)×AV)}{ps':Array (Nat×Operand)}{places:List (Nat×Nat)}(ho:o.op=.build ty ps')
  (hb:∀parts cells,Instr.fill (λi=>places[i]?) v.cells parts=some cells->P.built ty parts=some cells)(hc:mI v.cells.toList z=true)(hd:o.dst=some d)(hn:d<c.nt)(hx:tO places z.length ps'.toList ps=true)
  (hK:aP P (.build d tk z ps) s K):jH P c o a w K:=by
 obtain⟨k1,k2,k3⟩:=hK;obtain⟨cs,G',g1,g2,g3,g4,g5⟩:=agN tk (Pn hx) h k1;obtain⟨l,l1,l2,l3⟩:=Dh w zl c.zb hc;rw[<-g1] at k2 k3;have nP:l.length=z.length:=by rw[<-l1];simp
 have Re:=Qb a hx l cs nP g2 g4 k2;have hvz:(l.map C.val).toArray=v.cells:=by rw[l2]
 rw[hvz] at Re;have hrun:(Instr.build ty (ps'.map λ(i,x)=>(i,a.eval x))).run P w=.ok (.agg ((lN l (ps.map (·.1.1)) cs).map C.val).toArray) w:=by refine run_build w ty _ _ (hb _ _ ?_);rw[Nz];exact Re
 have hT:=bF.flat g3 g4
 have hall:∀x∈lN l (ps.map (·.1.1)) cs,x.cell/\x.ok w (Zf zl c.zb)/\x.rf G'/\∀b k,x.fp b k->∃y∈cs.flatMap C.cells,y.fp b k:=λx hx=>by
  rcases Qe _ _ _ x hx with hx|hx;·obtain⟨a1,a2,a3⟩:=l3 x hx;exact⟨C.lg a1,a2,C.oc a1 _,λb k hf=>(a3 b k hf).elim⟩
  ·obtain⟨y,hy,hx'⟩:=Ib.1 hx;obtain⟨b1,b2⟩:=wm (g4 y hy) (g3.all y hy).1 hx';exact⟨b1,b2,g5 y hy x hx',λb k hf=>⟨x,hx,hf⟩⟩
 have gQ:(lN l (ps.map (·.1.1)) cs).Pairwise λa b=>∀x k,a.fp x k->¬b.fp x k:=
  Qf (λa b hab x k hf hf'=>hab x k hf' hf) _ _ _ (qS λx hx=>(l3 x hx).2.2) hT.apart λx hx y _ b k hf=>((l3 x hx).2.2 b k hf).elim
 obtain⟨G2,h'⟩:=h.fresh hT (Ext.refl _ w) hn (x:=gJ (lN l (ps.map (·.1.1)) cs)) ⟨λj hj=>⟨(hall _ (cI hj _)).1,(hall _ (cI hj _)).2.1⟩,λj hj b k hf j' hj' hne=>xI gQ _ hj hj' hne hf⟩ (λj hj=>(hall _ (cI hj _)).2.2.1) (λb k hf=>by obtain⟨x,hx,hf⟩:=(qQ _ _ _).1 hf;exact .inr ((hall x hx).2.2.2 b k hf))
 refine⟨.agg ((lN l (ps.map (·.1.1)) cs).map C.val).toArray,w,?_,Ext.refl _ _,G2,zl,_,k3,?_⟩;·simp only[execOp,ho,Sem.run_bind,hrun,Result.andThen_ok,Sem.run_pure]
 ·rw[hd];rw[vV,Qd,l1,zj] at h';exact h'
end
end M
namespace M
open Go Go.RowKit
variable [Bs]
section
variable {P:Program}
def agb{w:World}{g k:Nat}{v u:Value}(hv:v.oneCell'=true)(hc:w.cell? ⟨g,k,none⟩=some u)(hf:w.frozen? ⟨g,k,none⟩=false):(store ⟨g,k,none⟩ v).run P w=.ok () (w.setCell ⟨g,k,none⟩ v):=by rw[run_store P w _ v _ hv,hc];simp[hf]
def fe.hand{d y z:C}{i c g k:Nat}(h:fe d i c y g k)(hz:y.cO->z.cO):fe d i c z g k:=by
 cases h with
 |row h hi hc hs=>exact .row h hi hc (hz hs)
 |ptr h hi hc=>exact .ptr h hi hc
def fe.fp{d y:C}{i c g k:Nat}(h:fe d i c y g k):d.fp g k:=by
 cases h with
 |row hd hi hc hs=>subst hd;exact⟨rfl,.inl ⟨_,rfl⟩⟩
 |ptr hd hi hc=>subst hd;exact⟨rfl,.inl ⟨rfl,by omega,by omega⟩⟩
structure N7 (w:World) (zl zb:Nat->Nat->Prop) (G:Nat->C) (l:List C):Prop where
 all:∀x∈l,x.cell/\x.ok w (Zf zl zb)/\x.rf G/\(∀t b k,x.fp b k->¬(G t).fp b k)/\∀b k,x.fp b k->¬zl b k/\¬zb b k
 apart:l.Pairwise λa b=>∀x k,a.fp x k->¬b.fp x k
def adD(r:Nat)(p:Path)(l:List C):X.gA r p (l.map C.er)=(l.map λx=>x.aA (C.bG r p)).map C.er:=by rw[X.xg,cH];exact b7 λx _=>(C.nV r p x).symm
def TP(r:Nat)(p:Path)(i:Nat){zl zb:Nat->Nat->Prop}{g k0:Nat}:∀(n:Nat) (l:List C),l.length=n->∀(c m:Nat) {w:World} {G:Nat->C} {s:ah} {d:C},Inv w zl zb G s->(G r).sub p=some d->
  (∀q x,l[q]?=some x->fe d i (c+q) x g (k0+m+q))->N7 w zl zb G l->
  ∃w' G',(storeCells ⟨g,k0,none⟩ (l.map C.val) m).run P w=.ok () w'/\Inv w' zl zb G' (setCells r p i c (l.map C.er) s)/\(∀t,(G' t).val=(G t).val)/\(∀t b k,(G' t).fp b k->(∃x∈l,x.fp b k)\/(G t).fp b k)/\Ext (λb k=>b=g/\k0+m<=k/\k<k0+m+n) w w'
 |0,l,hn,c,m,w,G,s,d,h,hsub,hsp,hh=>by have:l=[]:=NQ hn;subst this;exact⟨w,G,rfl,by simpa [setCells] using h,λ_=>rfl,λt b k hf=>.inr hf,Ext.refl _ _⟩
 |n+1,[],hn,c,m,w,G,s,d,h,hsub,hsp,hh=>by simp at hn
 |n+1,y::l,hn,c,m,w,G,s,d,h,hsub,hsp,hh=>by
  have Ro:=hsp 0 y rfl;simp only[nB] at Ro;obtain⟨y1,y2,y3,y4,y5⟩:=hh.all y (bq ..);obtain⟨G1,i1,i2,i3,i4,i5,i6,i7,d',i8,i9⟩:=h.store r p i c d y g (k0+m) hsub Ro y2 y1 y3 y4 y5;obtain⟨u,hu⟩:=i5;have hE:=Ext.setCell w g (k0+m) y.val;have gQ:=eZ.1 hh.apart;have aZ:∀{b k},d.fp b k->(G r).fp b k:=λhf=>C.gH p hsub (h.ok r) hf
  have ab9:∀(f:C->C),(∀x,f x=if oa r p i c s then x.aA (C.bG r (p++[(i,c)])) else x)->N7 (w.setCell ⟨g,k0+m,none⟩ y.val) zl zb G1 (l.map f):=by
   intro f pH
   have cr:∀x b k,(f x).fp b k↔x.fp b k:=λx b k=>by
    rw[pH];split;·exact C.cG _ x b k
    ·exact j8
   refine⟨λx hx=>?_,?_⟩
   ·obtain⟨x,hx0,rfl⟩:=bg.1 hx;clear hx;have hx:x∈l:=hx0;obtain⟨x1,x2,x3,x4,x5⟩:=hh.all x (bO _ hx)
    have hok:x.ok (w.setCell ⟨g,k0+m,none⟩ y.val) (Zf zl zb):=C.fG hE (λmm b k hz hs=>by
     obtain⟨rfl,rfl⟩:=hs;exact h.zc r mm _ _ hz (aZ i4)) _ (λb k hf hs=>by
     obtain⟨rfl,rfl⟩:=hs;exact x4 r _ _ hf (aZ i4)) x2
    refine⟨?_,?_,?_,λt b k hf hf'=>?_,λb k hf=>x5 b k ((cr x b k).1 hf)⟩
    ·rw[pH];split;·exact C.FM _ _ x1
     ·exact x1
    ·rw[pH];split;·exact C.l5 _ _ hok
     ·exact hok
    ·have:=i7 x x3;rw[pH];cases hb:oa r p i c s<;>rw[hb] at this<;>exact this
    ·rcases i3 t b k hf' with hy|hg;·exact gQ.1 x hx b k hy ((cr x b k).1 hf)
     ·exact x4 t b k ((cr x b k).1 hf) hg
   ·refine C3.2 (gQ.2.imp ?_);intro a b hab x k hf hf';exact hab x k ((cr a x k).1 hf) ((cr b x k).1 hf')
  have fin:∀(f:C->C),(∀x,f x=if oa r p i c s then x.aA (C.bG r (p++[(i,c)])) else x)->setCells r p i c ((y::l).map C.er) s=setCells r p i (c+1) ((l.map f).map C.er) (setCell r p i c y.er s)->
    ∃w' G',(storeCells ⟨g,k0,none⟩ ((y::l).map C.val) m).run P w=.ok () w'/\Inv w' zl zb G' (setCells r p i c ((y::l).map C.er) s)/\(∀t,(G' t).val=(G t).val)/\(∀t b k,(G' t).fp b k->(∃x∈y::l,x.fp b k)\/(G t).fp b k)/\Ext (λb k=>b=g/\k0+m<=k/\k<k0+m+(n+1)) w w':=by
   intro f pH Ar
   have cr:∀x b k,(f x).fp b k↔x.fp b k:=λx b k=>by
    rw[pH];split;·exact C.cG _ x b k
    ·exact j8
   have hval:(l.map f).map C.val=l.map C.val:=by
    rw[cH];refine b7 λx _=>?_;show (f x).val=x.val;rw[pH];split;·exact C.jh _ x
    ·rfl
   obtain⟨w',G',j1,j2,j3,j4,j5⟩:=TP r p i n (l.map f) (by simpa using hn) (c+1) (m+1) i1 i8 (λq x hq=>by
    rw[cR] at hq;cases ue:l[q]? with
    |none=>rw[ue] at hq;cases hq
    |some x0=>
     rw[ue] at hq;simp only[cg,dP] at hq;subst hq;have h1:=i9 _ _ _ _ _ (hsp (q+1) x0 (by simpa using ue));rw[show c+1+q=c+(q+1) by omega,show k0+(m+1)+q=k0+m+(q+1) by omega];rw[pH];split;·exact h1.hand λhs=>by rw[C.xF _ _ hs];exact hs
     ·exact h1) (ab9 f pH)
   refine⟨w',G',?_,by rw[Ar];exact j2,λt=>(j3 t).trans (i2 t),λt b k hf=>?_,?_⟩;·rw[bn,storeCells,Sem.run_bind,qP,agb (Inv.qZ y1) hu i6];simp only[Result.andThen_ok];rw[<-hval];exact j1
   ·rcases j4 t b k hf with ⟨x,hx,hf'⟩|hf';·obtain⟨x0,hx0,rfl⟩:=bg.1 hx;exact .inl ⟨x0,bO _ hx0,(cr x0 b k).1 hf'⟩
    ·exact(i3 t b k hf').imp (λhy=>⟨y,bq ..,hy⟩) id
   ·refine(hE.mono (S':=λb k=>b=g/\k0+m<=k/\k<k0+m+(n+1)) (λb k hs _=>⟨hs.1,by omega,by omega⟩)).trans j5 λb k hs hb=>⟨hs.1,by omega,by omega⟩
  cases wM:oa r p i c s with
  |true=>refine fin (λx=>x.aA (C.bG r (p++[(i,c)]))) (λx=>by rw[au wM]) ?_;simp only[bn];rw[setCells,wM,lG,adD]
  |false=>refine fin id (λx=>by rw[wM];rfl) ?_;simp only[bn];rw[setCells,wM,qI];simp
end
end M
