/- A machine of values for loaded Go functions, sound for the calculus of calls; part 1; no conditions. -/
import Derived.Calls
import Derived.Orders
import Derived.Laws.Sem
import Derived.Below
import Derived.Laws.Cells
import Derived.Laws.Strings
import Derived.Laws.StructEq
import Derived.Laws.IdiomStrings
import Derived.Laws.Entries
import Derived.Laws.OwnMore
import Derived.Great.BuildSlice
set_option linter.defProp false
set_option linter.unusedSectionVars false
set_option linter.unusedVariables false
set_option linter.unusedSimpArgs false
def pN:=@Array.ext'
def Jn:=@Array.ext_getElem?
def wD:=@Array.getD_eq_getD_getElem?
def O6:=@Array.getElem?_append_left
def Js:=@Array.getElem?_eq_getElem
def lB:=@Array.getElem?_eq_none
def kL:=@Array.getElem?_eq_some_iff
def WQ:=@Array.getElem?_modify
def WR:=@Array.getElem?_replicate
def Pp:=@Array.getElem?_setIfInBounds_ne
def Wv:=@Array.getElem?_setIfInBounds_self_of_lt
def DK:=@Array.length_toList
def Wy:=@Array.setIfInBounds_comm
def OP:=@Array.size_append
def OR:=@Array.toList_map
def OT:=@Bool.and_assoc
def aB:=@Bool.and_eq_true
def OY:=@Bool.and_true
def O0:=@Bool.eq_iff_iff
def fD:=@Bool.false_eq_true
def rq:=@Bool.not_eq_true'
def O3:=@Bool.not_false
def tQ:=@Bool.or_eq_true
def O4:=@Bool.true_and
def O5:=@Bool.true_eq_false
def DS:=@Classical.choose_spec
def zN:=@Eq.trans
def Jo:=@Function.comp_def
def kJ:=@Iff.rfl
def DU:=@Int.ofNat_lt
def WI:=@Int.tdiv_eq_ediv_of_nonneg
def DV:=@Int.tmod_eq_emod_of_nonneg
def Jp:=@List.Pairwise.imp_of_mem
def WJ:=@List.all_eq_not_any_not
def pR:=@List.all_eq_true
def Jq:=@List.any_eq_false
def mz:=@List.append_assoc
def WK:=@List.append_eq_nil_iff
def lz:=@List.append_nil
def Jr:=@List.cons.inj
def wE:=@List.cons.injEq
def fM:=@List.cons_append
def zO:=@List.dropWhile_cons
def WL:=@List.dropWhile_sublist
def DW:=@List.drop_drop
def nr:=@List.drop_eq_getElem_cons
def O7:=@List.drop_eq_nil_of_le
def wF:=@List.drop_left
def O8:=@List.drop_length
def zP:=@List.drop_take
def Jt:=@List.drop_zero
def O9:=@List.eq_nil_of_length_eq_zero
def WM:=@List.exists_cons_of_ne_nil
def gy:=@List.ext_getElem?
def Pa:=@List.filter_cons
def Pb:=@List.filter_eq_self
def WN:=@List.filter_sublist
def Pc:=@List.flatMap_append
def jV:=@List.flatMap_cons
def Pd:=@List.flatMap_nil
def zQ:=@List.flatten_append
def Ju:=@List.flatten_cons
def ou:=@List.foldl_cons
def ji:=@List.getD_eq_getElem?_getD
def kK:=@List.getElem?_append_left
def iM:=@List.getElem?_append_right
def Jv:=@List.getElem?_cons_succ
def zR:=@List.getElem?_cons_zero
def pS:=@List.getElem?_drop
def cz:=@List.getElem?_eq_getElem
def jG:=@List.getElem?_eq_none
def aJ:=@List.getElem?_eq_some_iff
def cZ:=@List.getElem?_map
def zS:=@List.getElem?_mapIdx
def tR:=@List.getElem?_modify
def tS:=@List.getElem?_range
def Pe:=@List.getElem?_replicate
def WO:=@List.getElem?_replicate_of_lt
def ru:=@List.getElem?_set
def Pf:=@List.getElem?_set_ne
def Pg:=@List.getElem?_take
def Ph:=@List.getElem?_take_of_lt
def zT:=@List.getElem?_toArray
def Pj:=@List.getElem?_zip_eq_some
def Pk:=@List.getElem_cons_succ
def Jw:=@List.getElem_cons_zero
def Pm:=@List.getElem_map
def cq:=@List.getElem_mem
def tT:=@List.getElem_of_mem
def Pn:=@List.getElem_range
def eu:=@List.length_append
def cw:=@List.length_cons
def mA:=@List.length_drop
def Jx:=@List.length_eq_zero_iff
def Po:=@List.length_filter_le
def cV:=@List.length_map
def gA:=@List.length_nil
def DY:=@List.length_pos_iff
def tU:=@List.length_range
def Jy:=@List.length_reverse
def Jd:=@List.length_set
def Wu:=@List.length_singleton
def zF:=@List.length_take
def Je:=@List.length_zipIdx
def jg:=@List.map_append
def cm:=@List.map_congr_left
def bn:=@List.map_cons
def mj:=@List.map_drop
def cP:=@List.map_map
def jh:=@List.map_nil
def amM:=@List.map_set
def pO:=@List.map_take
def dy:=@List.mem_append
def OJ:=@List.mem_append_left
def OK:=@List.mem_append_right
def b9:=@List.mem_cons
def bY:=@List.mem_cons_of_mem
def bD:=@List.mem_cons_self
def Jf:=@List.mem_flatMap
def Jg:=@List.mem_flatten
def bw:=@List.mem_map
def kH:=@List.mem_map_of_mem
def mo:=@List.mem_of_getElem?
def Ww:=@List.mem_of_mem_drop
def Wx:=@List.mem_of_mem_tail
def OL:=@List.mem_of_mem_take
def OM:=@List.mem_or_eq_of_mem_set
def q6:=@List.mem_range
def ON:=@List.mem_replicate
def fC:=@List.mem_singleton
def Wz:=@List.mem_take_iff_getElem
def kI:=@List.nil_append
def Jh:=@List.not_mem_nil
def tL:=@List.pairwise_append
def fh:=@List.pairwise_cons
def q7:=@List.pairwise_iff_getElem
def OO:=@List.pairwise_lt_range
def DL:=@List.pairwise_map
def WA:=@List.pairwise_singleton
def zG:=@List.range_succ_eq_map
def OQ:=@List.reverse_append
def WB:=@List.reverse_reverse
def DM:=@List.set_append_right
def DN:=@List.set_cons_zero
def WC:=@List.singleton_append
def pP:=@List.size_toArray
def zH:=@List.sum_append
def nk:=@List.sum_cons
def zI:=@List.sum_nil
def WD:=@List.takeWhile_cons
def OS:=@List.take_append_drop
def DO:=@List.take_left
def wA:=@List.take_length
def tM:=@List.take_of_length_le
def wB:=@List.take_range
def WE:=@List.take_succ_cons
def pQ:=@List.take_succ_eq_append_getElem
def q8:=@Nat.add_assoc
def oh:=@Nat.add_comm
def fk:=@Nat.add_mul
def om:=@Nat.add_zero
def DP:=@Nat.div_add_mod
def WG:=@Nat.div_lt_of_lt_mul
def OU:=@Nat.eq_zero_or_pos
def OV:=@Nat.le_of_lt
def ek:=@Nat.le_refl
def jF:=@Nat.le_trans
def lg:=@Nat.lt_of_lt_of_le
def fV:=@Nat.lt_or_ge
def OW:=@Nat.lt_trans
def mq:=@Nat.min_eq_left
def tN:=@Nat.mod_lt
def q9:=@Nat.mul_comm
def OX:=@Nat.mul_le_mul
def oo:=@Nat.mul_le_mul_right
def Ji:=@Nat.one_mul
def WH:=@Nat.pow_le_pow_right
def Jj:=@Nat.pow_succ
def zJ:=@Nat.sub_self
def Jk:=@Nat.sub_zero
def nq:=@Nat.zero_add
def oq:=@Nat.zero_le
def wC:=@Ne.symm
def lp:=@Option.bind_eq_some_iff
def gx:=@Option.bind_some
def tO:=@Option.getD_some
def zK:=@Option.isSome_iff_exists
def lq:=@Option.map_eq_some_iff
def OZ:=@Option.map_none
def cv:=@Option.map_some
def iL:=@Option.some.inj
def dP:=@Option.some.injEq
def DQ:=@Prod.mk.inj
def jU:=@Prod.mk.injEq
def tP:=@UInt8.toNat_inj
def Jl:=@UInt8.toNat_ofNat'
def Jm:=@and_congr_right
def zL:=@and_self
def en:=@beq_iff_eq
def ri:=@cond_false
def mw:=@cond_true
def dz:=@congrArg
def DR:=@decide_eq_false_iff_not
def bp:=@decide_eq_true_eq
def O1:=@decide_false
def rj:=@dif_neg
def lu:=@dif_pos
def O2:=@exists_congr
def dQ:=@if_false
def aF:=@if_neg
def ax:=@if_pos
def dh:=@if_true
def zM:=@of_decide_eq_true
namespace M
open Go
inductive Md where|own|sl|af
 deriving DecidableEq,Repr
abbrev Path:=List (Nat×Nat)
inductive X where
 |dead
 |int (k:IntKind) (n:Int)
 |bool (b:Bool)
 |str (s:ByteArray)
 |row (m:Md) (sz:Nat) (xs:List (List X))
 |ptr (m:Md) (cs:List X)
 |agg (cs:List X)
 |av (cs:List X)
 |fn (f:FuncId) (caps:List X)
 |ref (s:Nat) (p:Path)
 |az (s:Nat) (p:Path) (i c:Nat)
 |cut (s:Nat) (p:Path) (lo hi:Nat)
namespace X
def step:X->Nat×Nat->Option X
 |.row _ _ xs,q=>(xs[q.1]?).bind (·[q.2]?)
 |.ptr _ cs,q=>bif q.1==0 then cs[q.2]? else none
 |.agg cs,q=>bif q.1==0 then cs[q.2]? else none
 |.av cs,q=>bif q.1==0 then cs[q.2]? else none
 |_,_=>none
def sub(x:X):Path->Option X
 |[]=>some x
 |q::p=>(x.step q).bind (·.sub p)
def bu:X->Nat×Nat->X->X
 |.row m sz xs,q,y=>.row m sz (xs.modify q.1 (·.set q.2 y))
 |.ptr m cs,q,y=>.ptr m (cs.set q.2 y)
 |.agg cs,q,y=>.agg (cs.set q.2 y)
 |.av cs,q,y=>.av (cs.set q.2 y)
 |x,_,_=>x
def putAt:Path->X->X->X
 |[],_,y=>y
 |q::p,x,y=>match x.step q with
  |some z=>x.bu q (putAt p z y)
  |none=>x
mutual
def md(m:Md):X->X
 |.row _ sz xs=>.row m sz (bT m xs)
 |.ptr _ cs=>.ptr m (dJ m cs)
 |.agg cs=>.agg (dJ m cs)
 |.av cs=>.av (dJ m cs)
 |.fn f cs=>.fn f (dJ m cs)
 |.ref _ _=>.dead
 |.az _ _ _ _=>.dead
 |.cut _ _ _ _=>.dead
 |.dead=>.dead
 |.int k n=>.int k n
 |.bool b=>.bool b
 |.str s=>.str s
def dJ(m:Md):List X->List X
 |[]=>[]
 |x::l=>x.md m::dJ m l
def bT(m:Md):List (List X)->List (List X)
 |[]=>[]
 |x::l=>dJ m x::bT m l
end
def iY:X->Bool
 |.row _ _ _=>true
 |.ptr _ _=>true
 |.agg _=>true
 |.av _=>true
 |_=>false
def pfx:Path->Path->Bool
 |[],_=>true
 |_::_,[]=>false
 |q::p,r::t=>q.1==r.1 && q.2==r.2 && pfx p t
mutual
def kill(r:Nat)(p:Path):X->X
 |.ref s q=>bif s==r && pfx p q then .dead else .ref s q
 |.az s q i c=>bif s==r && pfx p q then .dead else .az s q i c
 |.cut s q i c=>bif s==r && pfx p q then .dead else .cut s q i c
 |.ptr m cs=>.ptr m (gI r p cs)
 |.agg cs=>.agg (gI r p cs)
 |.av cs=>.av (gI r p cs)
 |.fn f cs=>.fn f (gI r p cs)
 |.dead=>.dead
 |.int k n=>.int k n
 |.bool b=>.bool b
 |.str s=>.str s
 |.row m sz xs=>.row m sz xs
def gI(r:Nat)(p:Path):List X->List X
 |[]=>[]
 |x::l=>x.kill r p::gI r p l
end
def Me(r:Nat)(p:Path):∀l:List X,(gI r p l).length=l.length
 |[]=>rfl
 |x::l=>by simp only[gI,cw,Me r p l]
mutual
def only(ks:List Nat):X->X
 |.ref s q=>bif ks.contains s then .ref s q else .dead
 |.az s q i c=>bif ks.contains s then .az s q i c else .dead
 |.cut s q i c=>bif ks.contains s then .cut s q i c else .dead
 |.ptr m cs=>.ptr m (nV ks cs)
 |.agg cs=>.agg (nV ks cs)
 |.av cs=>.av (nV ks cs)
 |.fn f cs=>.fn f (nV ks cs)
 |.dead=>.dead
 |.int k n=>.int k n
 |.bool b=>.bool b
 |.str s=>.str s
 |.row m sz xs=>.row m sz xs
def nV(ks:List Nat):List X->List X
 |[]=>[]
 |x::l=>x.only ks::nV ks l
end
end X
abbrev ah:=List (Nat×X)
def get:ah->Nat->X
 |[],_=>.dead
 |(k',v)::s,k=>bif k'==k then v else get s k
def sN(r:Nat)(p:Path):ah->ah
 |[]=>[]
 |(k,v)::s=>(k,v.kill r p)::sN r p s
def put(d:Nat)(v:X)(s:ah):ah:=bif (get s d).iY then (d,v.kill d [])::sN d [] s else (d,v)::s
def fS:Option Nat->X->ah->ah
 |some d,v,s=>put d v s
 |none,_,s=>s
inductive AV where
 |t (n:Nat)
 |k (x:X)
def X.clean:X->Bool
 |.ref _ _=>false
 |.az _ _ _ _=>false
 |.cut _ _ _ _=>false
 |.row m _ xs=>(match m with|.af=>false|_=>true) && bE xs
 |.ptr m cs=>(match m with|.af=>false|_=>true) && cH cs
 |.agg cs=>cH cs
 |.av cs=>cH cs
 |.fn _ cs=>cH cs
 |_=>true
where
 cH:List X->Bool
 |[]=>true
 |x::l=>X.clean x && cH l
 bE:List (List X)->Bool
 |[]=>true
 |x::l=>cH x && bE l
def jk(n:Nat)(p:Path):X->X
 |.row .own _ _=>.ref n p
 |.ptr .own _=>.az n p 0 0
 |x=>x
def uc(n:Nat)(p:Path)(i:Nat):Nat->List X->List X
 |_,[]=>[]
 |c,x::l=>jk n (p++[(i,c)]) x::uc n p i (c+1) l
def gS(n:Nat)(p:Path):X->X
 |.agg cs=>.agg (uc n p 0 0 cs)
 |x=>jk n p x
def Ac(n:Nat)(p:Path):Nat->List X->List X
 |_,[]=>[]
 |j,x::l=>gS n (p++[(0,j)]) x::Ac n p (j+1) l
def alias(n:Nat)(p:Path):X->X
 |.av cs=>.av (Ac n p 0 cs)
 |x=>gS n p x
def aC(s:ah):AV->X
 |.t n=>alias n [] (get s n)
 |.k x=>x
def look(s:ah)(r:Nat)(p:Path):Option X:=(get s r).sub p
def jb(r:Nat)(p:Path)(y:X)(s:ah):ah:=(r,X.putAt p (get (sN r p s) r) (y.kill r p))::sN r p s
def U4(r:Nat)(p:Path)(y:X)(s:ah):ah:=(r,X.putAt p (get s r) y)::s
inductive Tk where|mv|al|aM
def move(r:Nat)(p:Path)(s:ah):X×ah:=match look s r p with
 |some y=>(y.kill r p,jb r p .dead s)
 |none=>(.dead,s)
def sU(r:Nat)(p:Path)(lo hi:Nat)(s:ah):X×ah:=match look s r p with
 |some (.row .own z xs)=>(.row .own z ((xs.take hi).drop lo),jb r p .dead s)
 |_=>(.cut r p lo hi,s)
def B8(r:Nat)(p:Path)(i c:Nat)(s:ah):X×ah:=match look s r p with
 |some (.ptr .own cs)=>bif i==0 && c==0 then (.ptr .own (X.gI r p cs),jb r p .dead s) else (.az r p i c,s)
 |_=>(.az r p i c,s)
def Vq(h:Tk):X->ah->X×ah
 |.ref r p,s=>match h with
  |.al=>(.ref r p,s)
  |.aM=>match p with
   |[]=>move r [] s
   |q::t=>(.ref r (q::t),s)
  |.mv=>move r p s
 |.cut r p lo hi,s=>match h with
  |.al=>(.cut r p lo hi,s)
  |.aM=>match p with
   |[]=>sU r [] lo hi s
   |q::t=>(.cut r (q::t) lo hi,s)
  |.mv=>sU r p lo hi s
 |.az r p i c,s=>match h with
  |.al=>(.az r p i c,s)
  |.aM=>(.az r p i c,s)
  |.mv=>B8 r p i c s
 |x,s=>(x,s)
def b7:List X->ah->List X×ah
 |[],s=>([],s)
 |x::l,s=>match x with
  |.ref r p=>((move r p s).1::(b7 l (move r p s).2).1,(b7 l (move r p s).2).2)
  |.az _ _ _ _=>(.dead::(b7 l s).1,(b7 l s).2)
  |.cut _ _ _ _=>(.dead::(b7 l s).1,(b7 l s).2)
  |.fn _ _=>(.dead::(b7 l s).1,(b7 l s).2)
  |.ptr _ _=>(.dead::(b7 l s).1,(b7 l s).2)
  |.agg _=>(.dead::(b7 l s).1,(b7 l s).2)
  |.av _=>(.dead::(b7 l s).1,(b7 l s).2)
  |y=>(y::(b7 l s).1,(b7 l s).2)
def take(h:Tk):X->ah->X×ah
 |.agg cs,s=>match h with
  |.mv=>(.agg (b7 cs s).1,(b7 cs s).2)
  |_=>(.agg cs,s)
 |x,s=>Vq h x s
def uD(s:ah)(r:Nat)(p:Path):Bool:=match look s r p with
 |some .dead=>(match p.getLast? with
  |some _=>(match look s r p.dropLast with
   |some (.row .own _ _)=>true
   |some (.ptr .own _)=>true
   |some (.agg _)=>true
   |some (.av _)=>true
   |_=>false)
  |none=>false)
 |_=>false
def oV(r:Nat)(p:Path):List X->Bool
 |[]=>true
 |.ref r' p'::l=> !(r'==r && X.pfx p p') && oV r p l
 |_::l=>oV r p l
def kN:List X->List X->ah->Option ah
 |[],_,s=>some s
 |x::l,ys,s=>match x,ys with
  |.ref r p,y::ys=>bif uD s r p && oV r p l then kN l ys ((r,X.putAt p (get s r) y)::s) else none
  |_,_::ys=>kN l ys s
  |_,[]=>none
def cellsOf:X->List X
 |.agg cs=>cs
 |.av _=>[]
 |.dead=>[]
 |x=>[x]
inductive PM where|af|jI (n:Nat)|mv|mut (n:Nat)
def scalar:X->Bool
 |.int _ _=>true
 |.bool _=>true
 |.str _=>true
 |_=>false
def gD(s:ah):X->Option (List X)
 |.ptr _ cs=>some cs
 |.az r p i c=>match look s r p with
  |some (.row _ _ xs)=>(xs[i]?).map λe=>uc r p i c (e.drop c)
  |some (.ptr _ cs)=>some (uc r p i c (cs.drop c))
  |_=>none
 |_=>none
def rowAt(s:ah):X->Option (Nat×List (List X))
 |.row _ z xs=>some (z,xs)
 |.ref r p=>match look s r p with
  |some (.row _ z xs)=>some (z,xs)
  |_=>none
 |.cut r p lo hi=>match look s r p with
  |some (.row _ z xs)=>some (z,(xs.take hi).drop lo)
  |_=>none
 |_=>none
def lZ(s:ah):X->X
 |.ref r p=>match look s r p with
  |some y=>y.md .af
  |none=>.dead
 |.cut r p lo hi=>match look s r p with
  |some (.row _ sz xs)=>X.md .af (.row .af sz ((xs.take hi).drop lo))
  |_=>.dead
 |x=>x.md .af
def oY(s:ah):List X->List X
 |[]=>[]
 |x::l=>lZ s x::oY s l
def yp(n:Nat)(s:ah)(x:X):X:=match gD s x with
 |some (c::cs)=>.ptr .af (oY s ((c::cs).take n))
 |_=>.dead
def gj(s:ah):X->X
 |.az r p i c=>(match gD s (.az r p i c) with|some (c::cs)=>X.ptr .af (oY s (c::cs))|_=>.dead)
 |x=>lZ s x
def jz(s:ah):List X->List X
 |[]=>[]
 |x::l=>gj s x::jz s l
def fT(s:ah):List X->List X
 |[]=>[]
 |x::l=>(match x with
  |.az r p i c=>(match gD s (.az r p i c) with|some (c::cs)=>X.ptr .af (jz s (c::cs))|_=>.dead)
  |x=>lZ s x)::fT s l
def res(s:ah):X->X
 |.agg cs=>.agg (oY s cs)
 |.fn f cs=>.fn f (fT s cs)
 |x=>lZ s x
def oU(r:Nat)(p:Path)(i c:Nat)(s:ah):Bool:=match look s r (p++[(i,c)]) with
 |some z=>z.iY
 |none=>true
def setCell(r:Nat)(p:Path)(i c:Nat)(y:X)(s:ah):ah:=
 bif oU r p i c s then jb r (p++[(i,c)]) y s else U4 r (p++[(i,c)]) y s
def setCells(r:Nat)(p:Path)(i:Nat):Nat->List X->ah->ah
 |_,[],s=>s
 |c,y::l,s=>bif oU r p i c s then setCells r p i (c+1) (X.gI r (p++[(i,c)]) l) (setCell r p i c y s) else setCells r p i (c+1) l (setCell r p i c y s)
termination_by _ l=>l.length
decreasing_by all_goals simp[X.Me]
def r9(d:Nat)(cs:List X)(k:List X->X)(s:ah):Option ah:=
 bif X.clean.cH (b7 cs s).1 then (kN cs (X.dJ .sl (b7 cs s).1) (b7 cs s).2).map (put d (k (X.dJ .sl (b7 cs s).1))) else none
def ghost(fz:Bool)(d:Nat)(s:ah):Option ah:=
 bif fz then (match aC s (.t d) with
  |.agg cs=>r9 d cs .agg s
  |.ref r p=>r9 d [.ref r p] (·.headD .dead) s
  |_=>some s)
 else some (put d (take .mv (aC s (.t d)) s).1 (take .mv (aC s (.t d)) s).2)
inductive Ex where|normal|exit (id:Nat)|ret
inductive cA where
 |mv (d:Nat) (x:AV)
 |aN (d:Nat) (h:Tk) (x:AV)
 |pick (d:Nat) (c a b:AV)
 |un (d:Nat) (op:UnOp) (x:AV)
 |bin (d:Nat) (op:BinOp) (x y:AV)
 |beq (d:Nat) (neg:Bool) (x y:AV)
 |ua (d:Nat) (neg:Bool) (ks:List Nat) (x y:AV)
 |sV (d:Nat) (neg:Bool) (x:AV)
 |conv (d:Nat) (k:IntKind) (x:AV)
 |bytes (d:Nat) (x:AV)
 |text (d:Nat) (x:AV)
 |box (d:Nat) (h:Tk) (x:AV)
 |new (d:Nat) (zero:List X)
 |build (d:Nat) (h:Tk) (zero:List X) (parts:List ((Nat×Nat)×AV))
 |lit (d:Nat) (h:Tk) (sz:Nat) (parts:List AV)
 |make (d:Nat) (sz bytes:Nat) (zero:List X) (n:AV)
 |load (d:Nat) (sz:Nat) (agg:Bool) (a:AV)
 |store (sz:Nat) (h:Tk) (a x:AV)
 |bN (d:Nat) (x:AV)
 |p9 (d:Nat) (x:AV) (off:Nat)
 |uB (d:Nat) (x:AV) (off sz:Nat) (agg:Bool)
 |eT (d:Nat) (sz:Nat) (x i:AV)
 |dA (d:Nat) (x i:AV)
 |rE (d:Nat) (n sz:Nat) (agg:Bool) (x i:AV)
 |ext (d:Nat) (x:AV) (i:Nat)
 |gv (d:Nat) (x:AV) (lo hi:Option AV)
 |k8 (d:Nat) (sz:Nat) (x:AV) (lo hi:Option AV)
 |mQ (d:Nat) (f:FuncId) (caps:List AV)
 |len (d:Nat) (x:AV)
 |tG (d:Nat) (x:AV)
 |app (d:Nat) (h:Tk) (sz bytes:Nat) (x y:AV)
 |mn (d:Nat) (xs:List AV)
 |mx (d:Nat) (xs:List AV)
 |rL (d:Option Nat) (f:FuncId) (x:AV) (as:List (AV×PM))
 |uw (sz:Nat) (z:List X) (x:AV)
 |lT (d:Nat) (fz:Bool) (sz:Nat) (agg:Bool) (a:AV)
 |call (d:Option Nat) (f:FuncId) (as:List (AV×PM))
 |jZ (d:Option Nat) (f:AV) (as:List (AV×PM))
structure G where
 g:Option (Nat×Bool):=none
 o:cA
inductive DT where
 |nil (ks:List Nat)
 |step (i:Nat) (g:G) (t:DT)
 |alt (a b:DT)
 |kp (ks:List Nat) (t:DT)
inductive A where
 |skip|ret
 |ops (l:List G)
 |draw (t:DT)
 |seq (a b:A)
 |cond (c:AV) (a b:A)
 |block (id:Nat) (b:A)
 |loop (b:A)
 |exit (id:Nat)
 |pk (ks:List Nat) (b:A)
end M
namespace M
open Go Go.RowKit
abbrev Ad:=Nat×Nat×Option Nat
def jH(n:Nat)(q:Ad):Ad:=if n=0 then q else (q.1,q.2.1+n,none)
def pW(n g o:Nat):jH n (g,o,none)=(g,o+n,none):=by
 unfold jH;split;·rename_i h;subst h;rfl
 ·rfl
def Yv(n:Nat)(q:Ad):(⟨(jH n q).1,(jH n q).2.1,(jH n q).2.2⟩:Addr)=(⟨q.1,q.2.1,q.2.2⟩:Addr).add n:=by unfold jH Addr.add;split<;>rfl
inductive C where
 |dead (v:Value)
 |int (k:IntKind) (n:Int)
 |bool (b:Bool)
 |str (s:ByteArray)
 |row (m:Md) (sz:Nat) (A:Option Ad) (len cap:Nat) (e:Nat->Nat->C)
 |ptr (m:Md) (g o n:Nat) (c:Nat->C)
 |agg (n:Nat) (c:Nat->C)
 |av (n:Nat) (c:Nat->C)
 |fn (f:FuncId) (n:Nat) (c:Nat->C)
 |ref (v:Value) (s:Nat) (p:Path)
 |az (v:Value) (s:Nat) (p:Path) (i c:Nat)
 |cut (v:Value) (s:Nat) (p:Path) (lo hi:Nat)
namespace C
def val:C->Value
 |.dead v=>v
 |.int k n=>.int k n
 |.bool b=>.bool b
 |.str s=>.string s
 |.row _ _ A len cap _=>.slice (A.map λq=>⟨q.1,q.2.1,q.2.2⟩) len cap
 |.ptr _ g o _ _=>.pointer (some ⟨g,o,none⟩)
 |.agg n c=>.agg ((List.range n).map λj=>(c j).val).toArray
 |.av n c=>.tuple ((List.range n).map λj=>(c j).val).toArray
 |.fn f n c=>.func (.func f) #[] ((List.range n).map λj=>(c j).val).toArray
 |.ref v _ _=>v
 |.az v _ _ _ _=>v
 |.cut v _ _ _ _=>v
def er:C->X
 |.dead _=>.dead
 |.int k n=>.int k n
 |.bool b=>.bool b
 |.str s=>.str s
 |.row m sz _ len _ e=>.row m sz ((List.range len).map λi=>(List.range sz).map λj=>(e i j).er)
 |.ptr m _ _ n c=>.ptr m ((List.range n).map λj=>(c j).er)
 |.agg n c=>.agg ((List.range n).map λj=>(c j).er)
 |.av n c=>.av ((List.range n).map λj=>(c j).er)
 |.fn f n c=>.fn f ((List.range n).map λj=>(c j).er)
 |.ref _ s p=>.ref s p
 |.az _ s p i c=>.az s p i c
 |.cut _ s p lo hi=>.cut s p lo hi
def fp:C->Nat->Nat->Prop
 |.row m sz A len _ e=>λb k=>m=.own/\((∃o,A=some (b,o,none))\/∃i j,i<len/\j<sz/\(e i j).fp b k)
 |.ptr m g o n c=>λb k=>m=.own/\((b=g/\o<=k/\k<o+n)\/∃j,j<n/\(c j).fp b k)
 |.agg n c=>λb k=>∃j,j<n/\(c j).fp b k
 |.av n c=>λb k=>∃j,j<n/\(c j).fp b k
 |_=>λ_ _=>False
def cell:C->Prop
 |.agg _ _=>False
 |.av _ _=>False
 |.dead v=>v.oneCell'=true
 |.ref v _ _=>v.oneCell'=true
 |.az v _ _ _ _=>v.oneCell'=true
 |.cut v _ _ _ _=>v.oneCell'=true
 |_=>True
def gi:C->Prop
 |.av _ _=>False
 |_=>True
def cU:C->Prop
 |.agg _ _=>False
 |.av _ _=>False
 |.ref _ _ _=>False
 |.az _ _ _ _ _=>False
 |.cut _ _ _ _ _=>False
 |.fn _ _ _=>False
 |.ptr _ _ _ _ _=>False
 |_=>True
def fits(m:Md):C->Prop
 |.row m' _ _ _ _ _=>m=.own\/m'=m\/(m=.af/\m'=.sl)
 |.ptr m' _ _ _ _=>m=.own\/m'=m\/(m=.af/\m'=.sl)
 |_=>True
end C
def Zf(zl zb:Nat->Nat->Prop):Md->Nat->Nat->Prop
 |.own=>λ_ _=>False
 |.sl=>zl
 |.af=>λb k=>zl b k\/zb b k
namespace C
def ok(w:World)(Z:Md->Nat->Nat->Prop):C->Prop
 |.row m sz A len cap e=>
  len<=cap/\
  (∀i j,i<len->j<sz->∃g o,A=some (g,o,none)/\w.cell? ⟨g,o+i*sz+j,none⟩=some (e i j).val/\(m≠.own->Z m g (o+i*sz+j)))/\
  (∀i j,i<len->j<sz->(e i j).cell/\(e i j).cU/\(e i j).fits m/\(e i j).ok w Z)/\
  (m=.own->(A=none/\cap=0)\/∃g o arr t fz,A=some (g,o,none)/\w.heap[g]?=some (.cells arr t fz)/\o+cap*sz<=arr.size/\∀k,o<=k->k<o+cap*sz->w.frozen? ⟨g,k,none⟩=false)/\
  (∀i j,i<len->j<sz->∀b k,(e i j).fp b k->(m=.own->∀o,A≠some (b,o,none))/\∀i' j',i'<len->j'<sz->(i,j)≠(i',j')->¬(e i' j').fp b k)
 |.ptr m g o n c=>
  (∀j,j<n->w.cell? ⟨g,o+j,none⟩=some (c j).val/\(m≠.own->Z m g (o+j))/\(m=.own->w.frozen? ⟨g,o+j,none⟩=false))/\
  g<w.heap.size/\
  (∀j,j<n->(c j).cell/\(c j).fits m/\(c j).ok w Z)/\
  (∀j,j<n->∀b k,(c j).fp b k->(m=.own->¬(b=g/\o<=k/\k<o+n))/\∀j',j'<n->j≠j'->¬(c j').fp b k)
 |.agg n c=>(∀j,j<n->(c j).cell/\(c j).ok w Z)/\(∀j,j<n->∀b k,(c j).fp b k->∀j',j'<n->j≠j'->¬(c j').fp b k)
 |.av n c=>(∀j,j<n->(c j).gi/\(c j).ok w Z)/\(∀j,j<n->∀b k,(c j).fp b k->∀j',j'<n->j≠j'->¬(c j').fp b k)
 |.fn _ n c=>∀j,j<n->(c j).ok w Z/\∀b k,¬(c j).fp b k
 |.str s=>s.size<=9223372036854775807
 |_=>True
end C
class Bs where
 W0:World
def D8[B:Bs](w:World)(zl zb:Nat->Nat->Prop):Prop:=∀b,b<B.W0.heap.size->w.heap[b]?=B.W0.heap[b]?/\∀k,zl b k\/zb b k
structure Ext (S:Nat->Nat->Prop) (w w':World):Prop where
 os:w'.os=w.os
 tape:w'.tape=w.tape
 output:w'.output=w.output
 size:w.heap.size<=w'.heap.size
 block:∀b,b<w.heap.size->w'.heap[b]?=w.heap[b]?\/∃arr fX t fz,w.heap[b]?=some (.cells arr t fz)/\w'.heap[b]?=some (.cells fX t fz)/\fX.size=arr.size/\∀k,¬S b k->fX[k]?=arr[k]?
namespace Ext
variable {S S':Nat->Nat->Prop}{w w1 w2:World}
def refl(S:Nat->Nat->Prop)(w:World):Ext S w w:=⟨rfl,rfl,rfl,ek _,λ_ _=>.inl rfl⟩
def trans(h:Ext S w w1)(h':Ext S' w1 w2)(hs:∀b k,S' b k->b<w.heap.size->S b k):Ext S w w2:=by
 refine⟨h'.os.trans h.os,h'.tape.trans h.tape,h'.output.trans h.output,jF h.size h'.size,λb hb=>?_⟩;rcases h.block b hb with e|⟨arr,fX,t,fz,e1,e2,e3,e4⟩
 ·rcases h'.block b (lg hb h.size) with e'|⟨a1,a2,t',mH,f1,f2,f3,f4⟩;·exact .inl (e'.trans e)
  ·exact .inr ⟨a1,a2,t',mH,e▸f1,f2,f3,λk hk=>f4 k λhS=>hk (hs b k hS hb)⟩
 ·rcases h'.block b (lg hb h.size) with e'|⟨a1,a2,t',mH,f1,f2,f3,f4⟩;·exact .inr ⟨arr,fX,t,fz,e1,e'.trans e2,e3,e4⟩
  ·rw[e2] at f1;injection f1 with f1
   injection f1 with g1 g2 g3
   subst g1;subst g2;subst g3;exact .inr ⟨arr,a2,t,fz,e1,f2,f3.trans e3,λk hk=>(f4 k λhS=>hk (hs b k hS hb)).trans (e4 k hk)⟩
def mono(h:Ext S w w1)(hs:∀b k,S b k->b<w.heap.size->S' b k):Ext S' w w1:=by
 refine⟨h.os,h.tape,h.output,h.size,λb hb=>?_⟩;rcases h.block b hb with e|⟨arr,fX,t,fz,e1,e2,e3,e4⟩;·exact .inl e
 ·exact .inr ⟨arr,fX,t,fz,e1,e2,e3,λk hk=>e4 k λhS=>hk (hs b k hS hb)⟩
def cell(h:Ext S w w1){b k:Nat}(hS:¬S b k){v:Value}(hc:w.cell? ⟨b,k,none⟩=some v):w1.cell? ⟨b,k,none⟩=some v:=by
 have hb:b<w.heap.size:=by
  rcases fV b w.heap.size with h|h;·exact h
  ·simp[World.cell?,lB h] at hc
 rcases h.block b hb with e|⟨arr,fX,t,fz,e1,e2,e3,e4⟩;·simpa [World.cell?,e] using hc
 ·simp only[World.cell?,e1,e2] at hc⊢;simpa [e4 k hS] using hc
def frozen(h:Ext S w w1){b k:Nat}(hb:b<w.heap.size):w1.frozen? ⟨b,k,none⟩=w.frozen? ⟨b,k,none⟩:=by
 rcases h.block b hb with e|⟨arr,fX,t,fz,e1,e2,e3,e4⟩;·simp[World.frozen?,e]
 ·simp[World.frozen?,e1,e2]
def below(h:Ext (λ_ _=>False) w w1):Below w.heap.size w w1:=by
 refine⟨h.os,h.tape,h.output,h.size,λb hb=>?_⟩;rcases h.block b hb with e|⟨arr,fX,t,fz,e1,e2,e3,e4⟩;·exact e
 ·have:fX=arr:=by apply Jn;intro i;exact e4 i (by simp)
  rw[e1,e2,this]
def drew(w:World)(S:Nat->Nat->Prop):Ext S w w.drew:=⟨rfl,rfl,rfl,ek _,λ_ _=>.inl rfl⟩
def alloc(w:World)(S:Nat->Nat->Prop)(o:Obj):Ext S w (w.alloc o):=by exact⟨rfl,rfl,rfl,by show w.heap.size<=(w.heap.push o).size;simp,λb hb=>.inl (Below.heap_alloc w o b hb)⟩
end Ext
end M
namespace M
open Go
namespace C
def bare:C->Prop
 |.ref _ _ _=>False
 |.az _ _ _ _ _=>False
 |.cut _ _ _ _ _=>False
 |.ptr _ _ _ n c=>∀j,j<n->(c j).bare
 |.agg n c=>∀j,j<n->(c j).bare
 |.av n c=>∀j,j<n->(c j).bare
 |.fn _ n c=>∀j,j<n->(c j).bare
 |_=>True
end C
structure ry (w:World) (zl zb:Nat->Nat->Prop) (cs:List C):Prop where
 ok:∀x∈cs,x.ok w (Zf zl zb)
 bare:∀x∈cs,x.bare
 fz:∀x∈cs,∀b k,x.fp b k->¬zl b k/\¬zb b k
 cJ:∀b k,zl b k\/zb b k->b<w.heap.size
 apart:cs.Pairwise λa b=>∀x k,a.fp x k->¬b.fp x k
structure Pw (w:World) (zl:Nat->Nat->Prop) (cs:List C) (e:Ending) (w':World) (r:C) (ps:List C) (aH:Nat->Nat->Prop):Prop where
 ends:e=.returned r.val
 vals:ps.map C.val=cs.map C.val
 ext:Ext (λb k=>∃x∈cs,x.fp b k) w w'
 all:ry w' aH (λ_ _=>False) (r::ps)
 dom:∀x∈r::ps,∀b k,x.fp b k->(∃y∈cs,y.fp b k)\/w.heap.size<=b
 tV:∀b k,zl b k->aH b k
 tW:∀b k,aH b k->zl b k\/(∃y∈cs,y.fp b k)\/w.heap.size<=b
def AC[Bs](P:Program)(f:FuncId)(xs:List X)(Q:X->List X->Prop):Prop:=
 ∀w zl zb cs,cs.map C.er=xs->ry w zl zb cs->D8 w zl zb->Calls P f (cs.map C.val).toArray w λe w'=>∃r ps aH,Pw w zl cs e w' r ps aH/\Q r.er (ps.map C.er)
def j8:List Nat->List X->List X->Option Bool
 |[],[],[]=>some true
 |0::ks,.int k a::l,.int k' b::r=>if k=k' then (j8 ks l r).map λt=>(a==b) && t else none
 |1::ks,.bool a::l,.bool b::r=>(j8 ks l r).map λt=>(a==b) && t
 |2::ks,.str a::l,.str b::r=>(j8 ks l r).map λt=>decide (a=b) && t
 |_,_,_=>none
def wP(op:BinOp):X->X->Prop
 |.int k a,.int k' b=>match op with
  |.shl=>0<=b
  |.shr=>0<=b
  |.quo=>k=k'/\b≠0
  |.rem=>k=k'/\b≠0
  |.andNot=>False
  |_=>k=k'
 |.str a,.str b=>match op with
  |.add=>a.size+b.size<=9223372036854775807
  |.eql=>True
  |.neq=>True
  |_=>False
 |_,_=>False
def JR(op:BinOp):X->X->X
 |.int k a,.int _ b=>match op with
  |.add=>.int k (k.wrap (a+b))
  |.sub=>.int k (k.wrap (a - b))
  |.mul=>.int k (k.wrap (a*b))
  |.quo=>.int k (k.wrap (a.tdiv b))
  |.rem=>.int k (a.tmod b)
  |.shl=>.int k (k.wrap (a*2^(min b.toNat k.bits)))
  |.shr=>.int k (a.fdiv (2^(min b.toNat k.bits)))
  |.and=>.int k (k.wrap (BitVec.ofInt k.bits a &&& BitVec.ofInt k.bits b).toNat)
  |.or=>.int k (k.wrap (BitVec.ofInt k.bits a|||BitVec.ofInt k.bits b).toNat)
  |.xor=>.int k (k.wrap (BitVec.ofInt k.bits a^^^BitVec.ofInt k.bits b).toNat)
  |.eql=>.bool (decide (a=b))
  |.neq=>.bool (!decide (a=b))
  |.lss=>.bool (decide (a<b))
  |.leq=>.bool (decide (a<=b))
  |.gtr=>.bool (decide (b<a))
  |.geq=>.bool (decide (b<=a))
  |_=>.dead
 |.str a,.str b=>match op with
  |.add=>.str (a++b)
  |.eql=>.bool (decide (a=b))
  |.neq=>.bool (!decide (a=b))
  |_=>.dead
 |_,_=>.dead
def zw(op:UnOp):X->Prop
 |.int _ _=>match op with
  |.neg=>True
  |_=>False
 |.bool _=>match op with
  |.not=>True
  |_=>False
 |_=>False
def Oj(op:UnOp):X->X
 |.int k n=>.int k (k.wrap (0 - n))
 |.bool b=>.bool (!b)
 |_=>.dead
def Ch(t:Bool):X->X->X
 |.bool a,.bool b=>.bool (bif t then a else b)
 |x,y=>bif t then x else y
def cU:X->Bool
 |.dead=>true
 |.int _ _=>true
 |.bool _=>true
 |.str _=>true
 |.row _ _ _=>true
 |_=>false
def iq:List X->Bool
 |[]=>true
 |x::l=>cU x && iq l
def takes(h:Tk):List AV->ah->List X×ah
 |[],s=>([],s)
 |a::l,s=>((take h (aC s a) s).1::(takes h l (take h (aC s a) s).2).1,(takes h l (take h (aC s a) s).2).2)
def kQ{α:Type}:List α->Nat->List α->List α
 |cs,_,[]=>cs
 |cs,o,y::l=>kQ (cs.set o y) (o+1) l
def xh:List X->List Nat->List X->List X
 |cs,o::os,y::ys=>xh (kQ cs o (cellsOf y)) os ys
 |cs,_,_=>cs
def zk:List Nat->List X->Prop
 |[],[]=>True
 |n::ns,y::ys=>(cellsOf y).length=n/\zk ns ys
 |_,_=>False
def storable(s:ah)(r:Nat)(p:Path)(i c:Nat)(l:List X):Prop:=match look s r p with
 |some (.row .own _ xs)=>(match xs[i]? with
  |some e=>c+l.length<=e.length/\iq l=true
  |none=>False)
 |some (.ptr .own cs)=>c+l.length<=cs.length
 |_=>False
def IA:Tk->List X->Prop
 |.al,_=>True
 |_,l=>∀x∈l,iq (cellsOf x)=true
def asNat(s:ah):Option AV->Nat->Int
 |none,n=>n
 |some a,_=>match aC s a with
  |.int _ i=>i
  |_=>-1
def scalars:List (List X)->Prop:=λxs=>∀e∈xs,∀c∈e,scalar c=true
def bZ:List (AV×PM)->ah->List X×ah
 |[],s=>([],s)
 |(x,.mv)::l,s=>((take .mv (aC s x) s).1::(bZ l (take .mv (aC s x) s).2).1,(bZ l (take .mv (aC s x) s).2).2)
 |(_,.af)::l,s=>(.dead::(bZ l s).1,(bZ l s).2)
 |(_,.jI _)::l,s=>(.dead::(bZ l s).1,(bZ l s).2)
 |(_,.mut _)::l,s=>(.dead::(bZ l s).1,(bZ l s).2)
def gC(s1:ah)(y:X):List (AV×PM)->List X->List X
 |(x,.af)::l,_::ms=>res s1 (aC s1 x)::gC s1 y l ms
 |(x,.jI n)::l,_::ms=>yp n s1 (aC s1 x)::gC s1 y l ms
 |(_,.mv)::l,m::ms=>m::gC s1 y l ms
 |(_,.mut _)::l,_::ms=>y::gC s1 y l ms
 |_,_=>[]
def dS:List (AV×PM)->Option (AV×Nat)
 |[]=>none
 |(x,.mut n)::_=>some (x,n)
 |(_,.mv)::l=>dS l
 |(_,.af)::l=>dS l
 |(_,.jI _)::l=>dS l
def k7:List (AV×PM)->List X->X
 |(_,.mut _)::_,y::_=>y
 |(_,.mv)::l,_::r=>k7 l r
 |(_,.af)::l,_::r=>k7 l r
 |(_,.jI _)::l,_::r=>k7 l r
 |_,_=>.dead
def pY(p q:Path):Bool:=X.pfx p q && decide (p.length<q.length)
mutual
def X.e9(r:Nat)(p:Path):X->X
 |.ref s q=>bif s==r && pY p q then .dead else .ref s q
 |.az s q i c=>bif s==r && pY p q then .dead else .az s q i c
 |.cut s q i c=>bif s==r && pY p q then .dead else .cut s q i c
 |.ptr m cs=>.ptr m (X.qw r p cs)
 |.agg cs=>.agg (X.qw r p cs)
 |.av cs=>.av (X.qw r p cs)
 |.fn f cs=>.fn f (X.qw r p cs)
 |.dead=>.dead
 |.int k n=>.int k n
 |.bool b=>.bool b
 |.str s=>.str s
 |.row m sz xs=>.row m sz xs
def X.qw(r:Nat)(p:Path):List X->List X
 |[]=>[]
 |x::l=>x.e9 r p::X.qw r p l
end
def sM(r:Nat)(p:Path):ah->ah
 |[]=>[]
 |(k,v)::s=>(k,v.e9 r p)::sM r p s
def iI(r:Nat)(p:Path)(y:X)(s:ah):ah:=(r,X.putAt p (get (sM r p s) r) (y.e9 r p))::sM r p s
def x9(r:Nat)(p:Path)(s:ah)(n:Nat)(x:X)(go:X->(X->(ah->Prop)->Prop)->Prop):Prop:=
 match x with
 |.ref _ _=>(match look s r p with
  |some (.row .own z xs)=>go (.row .own z xs) λy K=>match y with
   |.row .own z' ys=>z'=z/\K (iI r p (.row .own z ys) s)
   |_=>False
  |_=>False)
 |.az _ _ i c=>(match look s r p with
  |some (.ptr .own cs)=>c+n<=cs.length/\go (.ptr .own ((cs.drop c).take n)) λy K=>match y with
   |.ptr .own ys=>ys.length=n/\K (iI r p (.ptr .own (cs.take c++ys++cs.drop (c+n))) s)
   |_=>False
  |some (.row .own z xs)=>(match xs[i]? with
   |some e=>c+n<=e.length/\go (.ptr .own ((e.drop c).take n)) λy K=>match y with
    |.ptr .own ys=>ys.length=n/\iq ys=true/\K (iI r p (.row .own z (xs.set i (e.take c++ys++e.drop (c+n)))) s)
    |_=>False
   |none=>False)
  |_=>False)
 |_=>False
def placeOf:X->Nat×Path
 |.ref r p=>(r,p)
 |.az r p _ _=>(r,p)
 |_=>(0,[])
def X.bare:X->Bool
 |.ref _ _=>false
 |.az _ _ _ _=>false
 |.cut _ _ _ _=>false
 |.ptr _ cs=>jl cs
 |.agg cs=>jl cs
 |.av cs=>jl cs
 |.fn _ cs=>jl cs
 |_=>true
where
 jl:List X->Bool
 |[]=>true
 |x::l=>X.bare x && jl l
def oz(s1:ah):Option AV->List X
 |none=>[]
 |some x=>match aC s1 x with
  |.fn _ cs=>fT s1 cs
  |_=>[]
def rN(s1:ah)(fv:Option AV)(f:FuncId):Prop:=match fv with
 |none=>True
 |some x=>match aC s1 x with
  |.fn g _=>g=f
  |_=>False
def um[Bs](P:Program)(f:FuncId)(d:Option Nat)(as:List (AV×PM))(fv:Option AV)(s:ah)(K:ah->Prop):Prop:=
 X.bare.jl (bZ as s).1=true/\
 match dS as with
 |none=>rN (bZ as s).2 fv f/\AC P f (gC (bZ as s).2 .dead as (bZ as s).1++oz (bZ as s).2 fv) λr _=>K (fS d r (bZ as s).2)
 |some (x,n)=>x9 (placeOf (aC (bZ as s).2 x)).1 (placeOf (aC (bZ as s).2 x)).2 (bZ as s).2 n (aC (bZ as s).2 x) λy back=>X.bare y=true/\rN (jb (placeOf (aC (bZ as s).2 x)).1 (placeOf (aC (bZ as s).2 x)).2 .dead (bZ as s).2) fv f/\
   AC P f (gC (jb (placeOf (aC (bZ as s).2 x)).1 (placeOf (aC (bZ as s).2 x)).2 .dead (bZ as s).2) y as (bZ as s).1++oz (jb (placeOf (aC (bZ as s).2 x)).1 (placeOf (aC (bZ as s).2 x)).2 .dead (bZ as s).2) fv)
    λq ps=>back (k7 as ps) λs'=>K (fS d q s')
def EP(lo hi:Nat)(xs:List (List X)):List (List X):=xs.mapIdx λi e=>if lo<=i/\i<hi then e.map (λ_=>.dead) else e
def rZ(lo hi:Nat)(z:List X)(xs:List (List X)):List (List X):=xs.mapIdx λi e=>if lo<=i/\i<hi then z else e
def bJ(x:X)(s:ah):X×ah:=match x with
 |.cut r p lo hi=>(match look s r p with
  |some (.row .own z xs)=>(.row .own z ((xs.take hi).drop lo),iI r p (.row .own z (EP lo hi xs)) s)
  |_=>(.dead,s))
 |x=>take .mv x s
def aA(P:Program)(f:FuncId):Bool:=match P.funcs[f]? with
 |some fn=> !(fn.name== "runtime.NumGoroutine") && !fn.body.isNone
 |none=>false
def iZ:List (List X)->Bool
 |(_::_)::_=>true
 |_=>false
def aT[Bs](P:Program)(o:cA)(s:ah)(K:ah->Prop):Prop:=
 match o with
 |.mv d x=>K (put d (aC s x) s)
 |.aN d h x=>K (put d (take h (aC s x) s).1 (take h (aC s x) s).2)
 |.pick d c a b=>match aC s c with
  |.bool t=>K (put d (Ch t (aC s a) (aC s b)) s)
  |_=>False
 |.un d op x=>zw op (aC s x)/\K (put d (Oj op (aC s x)) s)
 |.bin d op x y=>wP op (aC s x) (aC s y)/\K (put d (JR op (aC s x) (aC s y)) s)
 |.beq d neg x y=>match aC s x,aC s y with
  |.bool p,.bool q=>K (put d (.bool (xor neg (p==q))) s)
  |_,_=>False
 |.sV d neg x=>match aC s x with
  |.row _ _ xs=>∀b:Bool,(iZ xs=true->b=false)->K (put d (.bool (xor neg b)) s)
  |_=>False
 |.ua d neg ks x y=>match aC s x,aC s y with
  |.agg p,.agg q=>∃t,j8 ks p q=some t/\K (put d (.bool (xor neg t)) s)
  |_,_=>False
 |.conv d k x=>match aC s x with
  |.int _ n=>K (put d (.int k (k.wrap n)) s)
  |_=>False
 |.bytes d x=>match aC s x with
  |.str t=>K (put d (.row .own 1 (t.data.toList.map λb=>[.int .u8 b.toNat])) s)
  |_=>False
 |.text d x=>∃xs,rowAt s (aC s x)=some (1,xs)/\xs.length<=9223372036854775807/\∃l:List UInt8,xs=l.map (λb=>[.int .u8 b.toNat])/\K (put d (.str ⟨l.toArray⟩) s)
 |.box d h x=>0<(cellsOf (take h (aC s x) s).1).length/\K (put d (.ptr .own (cellsOf (take h (aC s x) s).1)) (take h (aC s x) s).2)
 |.new d z=>K (put d (.ptr .own z) s)
 |.build d h z ps=>IA h (takes h (ps.map (·.2)) s).1/\zk (ps.map (·.1.2)) (takes h (ps.map (·.2)) s).1/\K (put d (.agg (xh z (ps.map (·.1.1)) (takes h (ps.map (·.2)) s).1)) (takes h (ps.map (·.2)) s).2)
 |.lit d h sz ps=>(∀x∈(takes h ps s).1,(cellsOf x).length=sz/\iq (cellsOf x)=true)/\K (put d (.row .own sz ((takes h ps s).1.map cellsOf)) (takes h ps s).2)
 |.make d sz bytes z n=>match aC s n with
  |.int _ i=>0<=i/\i*bytes<=140737488355328/\K (put d (.row .own sz (List.replicate i.toNat z)) s)
  |_=>False
 |.load d sz agg a=>∃cs,gD s (aC s a)=some cs/\sz<=cs.length/\K (put d (bif agg then .agg (cs.take sz) else cs.headD .dead) s)
 |.store sz h a x=>(cellsOf (take h (aC s x) s).1).length=sz/\(match aC (take h (aC s x) s).2 a with
  |.az r p i c=>storable (take h (aC s x) s).2 r p i c (cellsOf (take h (aC s x) s).1)/\K (setCells r p i c (cellsOf (take h (aC s x) s).1) (take h (aC s x) s).2)
  |_=>False)
 |.bN d x=>match aC s x with
  |.az r p i c=>K (put d (.az r p i c) s)
  |.ptr m cs=>K (put d (.ptr m cs) s)
  |.fn f cs=>K (put d (.fn f cs) s)
  |_=>False
 |.p9 d x off=>match aC s x with
  |.az r p i c=>K (put d (.az r p i (c+off)) s)
  |.ptr m cs=>K (put d (.ptr m (cs.drop off)) s)
  |_=>False
 |.uB d x off sz agg=>match aC s x with
  |.agg cs=>off+sz<=cs.length/\K (put d (bif agg then .agg ((cs.drop off).take sz) else (cs.drop off).headD .dead) s)
  |_=>False
 |.eT d sz x i=>match aC s i with
  |.int _ n=>0<=n/\(match aC s x with
   |.row m z xs=>z=sz/\∃e,xs[n.toNat]?=some e/\K (put d (.ptr m e) s)
   |.ref r p=>(match look s r p with
    |some (.row _ z xs)=>z=sz/\n.toNat<xs.length/\K (put d (.az r p n.toNat 0) s)
    |_=>False)
   |.cut r p lo hi=>(match look s r p with
    |some (.row _ z _)=>z=sz/\lo+n.toNat<hi/\K (put d (.az r p (lo+n.toNat) 0) s)
    |_=>False)
   |_=>False)
  |_=>False
 |.dA d x i=>match aC s x,aC s i with
  |.str t,.int _ n=>0<=n/\∃b,t.data[n.toNat]?=some b/\K (put d (.int .u8 b.toNat) s)
  |_,_=>False
 |.rE d n sz agg x i=>match aC s x,aC s i with
  |.agg cs,.int _ j=>0<=j/\j<n/\cs.length=n*sz/\K (put d (bif agg then .agg ((cs.drop (j.toNat*sz)).take sz) else (cs.drop (j.toNat*sz)).headD .dead) s)
  |_,_=>False
 |.ext d x i=>match aC s x with
  |.av cs=>i<cs.length/\K (put d (cs.getD i .dead) s)
  |_=>False
 |.gv d x lo hi=>match aC s x with
  |.str t=>0<=asNat s lo 0/\asNat s lo 0<=asNat s hi t.size/\asNat s hi t.size<=t.size/\K (put d (.str (t.extract (asNat s lo 0).toNat (asNat s hi t.size).toNat)) s)
  |_=>False
 |.k8 d sz x lo hi=>∃xs,rowAt s (aC s x)=some (sz,xs)/\0<=asNat s lo 0/\asNat s lo 0<=asNat s hi xs.length/\asNat s hi xs.length<=xs.length/\(match aC s x with
  |.row m z _=>K (put d (.row m z ((xs.take (asNat s hi xs.length).toNat).drop (asNat s lo 0).toNat)) s)
  |.ref r p=>K (put d (.cut r p (asNat s lo 0).toNat (asNat s hi xs.length).toNat) s)
  |_=>False)
 |.lT d fz sz agg a=>∃cs,gD s (aC s a)=some cs/\sz<=cs.length/\∃s',ghost fz d (put d (bif agg then .agg (cs.take sz) else cs.headD .dead) s)=some s'/\K s'
 |.uw sz z x=>match aC s x with
  |.cut r p lo hi=>(match look s r p with
   |some (.row .own z' xs)=>z'=sz/\K (iI r p (.row .own z' (rZ lo hi z xs)) s)
   |_=>False)
  |_=>False
 |.rL d f x as=>match aC s x with
  |.agg cs=>X.bare.jl (b7 cs s).1=true/\AC P f (.agg (b7 cs s).1::gC (b7 cs s).2 .dead as (as.map λ_=>.dead)) λr ps=>match ps with
   |.agg ys::_=>iq ys=true/\∃s',kN cs ys (b7 cs s).2=some s'/\K (fS d r s')
   |_=>False
  |_=>False
 |.mQ d f cs=>K (put d (.fn f (cs.map (aC s))) s)
 |.len d x=>∃z xs,rowAt s (aC s x)=some (z,xs)/\K (put d (.int .i64 xs.length) s)
 |.tG d x=>match aC s x with
  |.str t=>K (put d (.int .i64 t.size) s)
  |_=>False
 |.app d h sz bytes x y=>match (take .mv (aC s x) s).1 with
  |.row .own z xs=>z=sz/\(match h with
   |.mv=>(match (bJ (aC (take .mv (aC s x) s).2 y) (take .mv (aC s x) s).2).1 with
    |.row .own z' ys=>z'=sz/\(xs.length+ys.length)*bytes<=140737488355328/\K (put d (.row .own z (xs++ys)) (bJ (aC (take .mv (aC s x) s).2 y) (take .mv (aC s x) s).2).2)
    |_=>False)
   |_=>∃ys,rowAt (take .mv (aC s x) s).2 (aC (take .mv (aC s x) s).2 y)=some (sz,ys)/\(xs.length+ys.length)*bytes<=140737488355328/\scalars ys/\K (put d (.row .own z (xs++ys)) (take .mv (aC s x) s).2))
  |_=>False
 |.mn d xs=>match xs.map (aC s) with
  |[.int k a,.int k' b]=>k=k'/\K (put d (.int k (if b<a then b else a)) s)
  |_=>False
 |.mx d xs=>match xs.map (aC s) with
  |[.int k a,.int k' b]=>k=k'/\K (put d (.int k (if b>a then b else a)) s)
  |_=>False
 |.call d f as=>um P f d as none s K
 |.jZ d x as=>match aC s x with
  |.fn f _=>aA P f=true/\um P f d as (some x) s K
  |_=>False
def cA.dst:cA->Option Nat
 |.mv d _|.aN d _ _|.pick d _ _ _|.un d _ _|.bin d _ _ _|.beq d _ _ _|.ua d _ _ _ _|.sV d _ _|.conv d _ _|.bytes d _|.text d _|.box d _ _|.new d _|.build d _ _ _|.lit d _ _ _
 |.make d _ _ _ _|.load d _ _ _|.bN d _|.p9 d _ _|.uB d _ _ _ _|.eT d _ _ _|.dA d _ _|.rE d _ _ _ _ _|.ext d _ _|.gv d _ _ _
 |.k8 d _ _ _ _|.mQ d _ _|.len d _|.tG d _|.app d _ _ _ _ _|.mn d _|.mx d _|.lT d _ _ _ _=>some d
 |.call d _ _=>d
 |.jZ d _ _=>d
 |.rL d _ _ _=>d
 |.store _ _ _ _=>none
 |.uw _ _ _=>none
def pX[Bs](P:Program)(g:G)(s:ah)(K:ah->Prop):Prop:=match g with
 |⟨none,o⟩=>aT P o s K
 |⟨some (t,b),o⟩=>match get s t with
  |.bool v=>(v=b->aT P o ((t,.bool b)::s) K)/\(v= !b->K (fS o.dst (.av []) ((t,.bool (!b))::s)))
  |.av []=>K (fS o.dst (.av []) s)
  |_=>False
def kM[Bs](P:Program):List G->ah->(Ex->ah->Prop)->Prop
 |[],s,Q=>Q .normal s
 |g::l,s,Q=>pX P g s λs'=>kM P l s' Q
def keep(ks:List Nat)(s:ah):ah:=ks.map λk=>(k,(get s k).only ks)
def iz[Bs](P:Program):DT->ah->(Ex->ah->Prop)->Prop
 |.nil ks,s,Q=>Q .normal (keep ks s)
 |.step _ g t,s,Q=>pX P g s λs'=>iz P t s' Q
 |.alt a b,s,Q=>iz P a s Q/\iz P b s Q
 |.kp ks t,s,Q=>iz P t (keep ks s) Q
def eN[Bs](P:Program):A->ah->(Ex->ah->Prop)->Prop
 |.skip,s,Q=>Q .normal s
 |.ret,s,Q=>Q .ret s
 |.exit id,s,Q=>Q (.exit id) s
 |.ops l,s,Q=>kM P l s Q
 |.draw t,s,Q=>iz P t s Q
 |.seq a b,s,Q=>eN P a s λe s'=>match e with
  |.normal=>eN P b s' Q
  |e=>Q e s'
 |.cond c a b,s,Q=>match aC s c with
  |.bool t=>(t=true->eN P a s Q)/\(t=false->eN P b s Q)
  |_=>False
 |.block id b,s,Q=>eN P b s λe s'=>match e with
  |.exit i=>bif i==id then Q .normal s' else Q (.exit i) s'
  |e=>Q e s'
 |.loop b,s,Q=>∃I:Nat->ah->Prop,(∃n,I n s)/\∀n s',I n s'->eN P b s' λe s''=>match e with
  |.normal=>∃m,m<n/\I m s''
  |e=>Q e s''
 |.pk ks b,s,Q=>eN P b s λe s'=>match e with
  |.normal=>Q .normal (keep ks s')
  |e=>Q e s'
def zW[Bs](P:Program)(t:DT)(Q:Ex->ah->Prop):ah->Prop:=λs=>iz P t s Q
def JD[Bs](P:Program)(l:List G)(Q:Ex->ah->Prop):ah->Prop:=λs=>kM P l s Q
def Ea[Bs](P:Program)(b:A)(Q:Ex->ah->Prop):Ex->ah->Prop:=λe s'=>match e with
  |.normal=>eN P b s' Q
  |e=>Q e s'
def D6(id:Nat)(Q:Ex->ah->Prop):Ex->ah->Prop:=λe s'=>match e with
  |.exit i=>bif i==id then Q .normal s' else Q (.exit i) s'
  |e=>Q e s'
end M
namespace M
open Go
variable [Bs]{P:Program}
@[simp] def am2(s:ah)(Q:Ex->ah->Prop):eN P .skip s Q=Q .normal s:=rfl
@[simp] def am0(s:ah)(Q:Ex->ah->Prop):eN P .ret s Q=Q .ret s:=rfl
@[simp] def amY(i:Nat)(s:ah)(Q:Ex->ah->Prop):eN P (.exit i) s Q=Q (.exit i) s:=rfl
@[simp] def amZ(l:List G)(s:ah)(Q:Ex->ah->Prop):eN P (.ops l) s Q=kM P l s Q:=rfl
@[simp] def amX(t:DT)(s:ah)(Q:Ex->ah->Prop):eN P (.draw t) s Q=iz P t s Q:=rfl
@[simp] def anY(ks:List Nat)(s:ah)(Q:Ex->ah->Prop):iz P (.nil ks) s Q=Q .normal (keep ks s):=rfl
@[simp] def anZ(i:Nat)(o:cA)(t:DT)(s:ah)(Q:Ex->ah->Prop):iz P (.step i ⟨none,o⟩ t) s Q=aT P o s (zW P t Q):=rfl
@[simp] def anW(i t:Nat)(b:Bool)(o:cA)(l:DT)(s:ah)(Q:Ex->ah->Prop):iz P (.step i ⟨some (t,b),o⟩ l) s Q=(match get s t with
  |.bool v=>(v=b->aT P o ((t,.bool b)::s) (zW P l Q))/\(v= !b->zW P l Q (fS o.dst (.av []) ((t,.bool (!b))::s)))
  |.av []=>zW P l Q (fS o.dst (.av []) s)
  |_=>False):=rfl
@[simp] def anV(a b:DT)(s:ah)(Q:Ex->ah->Prop):iz P (.alt a b) s Q=(iz P a s Q/\iz P b s Q):=rfl
@[simp] def anX(ks:List Nat)(t:DT)(s:ah)(Q:Ex->ah->Prop):iz P (.kp ks t) s Q=iz P t (keep ks s) Q:=rfl
@[simp] def anU(t:DT)(Q:Ex->ah->Prop)(s:ah):zW P t Q s=iz P t s Q:=rfl
@[simp] def am1(a b:A)(s:ah)(Q:Ex->ah->Prop):eN P (.seq a b) s Q=eN P a s (Ea P b Q):=rfl
@[simp] def amV(i:Nat)(b:A)(s:ah)(Q:Ex->ah->Prop):eN P (.block i b) s Q=eN P b s (D6 i Q):=rfl
@[simp] def amW(c:AV)(a b:A)(s:ah)(Q:Ex->ah->Prop):eN P (.cond c a b) s Q=(match aC s c with|.bool t=>(t=true->eN P a s Q)/\(t=false->eN P b s Q)|_=>False):=rfl
@[simp] def ap1(b:A)(Q:Ex->ah->Prop)(s:ah):Ea P b Q .normal s=eN P b s Q:=rfl
@[simp] def ap0(b:A)(Q:Ex->ah->Prop)(s:ah)(i:Nat):Ea P b Q (.exit i) s=Q (.exit i) s:=rfl
@[simp] def ap2(b:A)(Q:Ex->ah->Prop)(s:ah):Ea P b Q .ret s=Q .ret s:=rfl
@[simp] def anc(i:Nat)(Q:Ex->ah->Prop)(s:ah):D6 i Q .normal s=Q .normal s:=rfl
@[simp] def ane(i:Nat)(Q:Ex->ah->Prop)(s:ah):D6 i Q .ret s=Q .ret s:=rfl
@[simp] def anb(i j:Nat)(Q:Ex->ah->Prop)(s:ah):D6 i Q (.exit j) s=(bif j==i then Q .normal s else Q (.exit j) s):=rfl
@[simp] def apK(s:ah)(Q:Ex->ah->Prop):kM P [] s Q=Q .normal s:=rfl
@[simp] def apI(o:cA)(l:List G)(s:ah)(Q:Ex->ah->Prop):kM P (⟨none,o⟩::l) s Q=aT P o s (JD P l Q):=rfl
@[simp] def apJ(t:Nat)(b:Bool)(o:cA)(l:List G)(s:ah)(Q:Ex->ah->Prop):kM P (⟨some (t,b),o⟩::l) s Q=(match get s t with
  |.bool v=>(v=b->aT P o ((t,.bool b)::s) (JD P l Q))/\(v= !b->kM P l (fS o.dst (.av []) ((t,.bool (!b))::s)) Q)
  |.av []=>kM P l (fS o.dst (.av []) s) Q
  |_=>False):=rfl
@[simp] def apH(l:List G)(Q:Ex->ah->Prop)(s:ah):JD P l Q s=kM P l s Q:=rfl
attribute [simp] aT get put fS sN X.iY aC alias jk gS Ac uc look X.sub X.step X.putAt X.bu jb U4 move take Vq b7 cellsOf gD rowAt res lZ oY yp fT oU setCell setCells
 j8 wP JR zw Oj Ch cU iq takes kQ xh IA zk storable asNat bZ gC dS k7 pY X.e9 X.qw sM iI x9 placeOf X.bare X.bare.jl oz rN um X.md X.dJ X.bT X.kill X.gI X.pfx cA.dst scalar X.only X.nV keep
end M
namespace M
open Go Go.RowKit
namespace C
variable {w w':World}{Z Z':Md->Nat->Nat->Prop}{S:Nat->Nat->Prop}
def fF:∀(c:C),c.ok w Z->∀b k,c.fp b k->b<w.heap.size
 |.row m sz A len cap e,h,b,k,hf=>by
  obtain⟨h1,h2,h3,h4,h5⟩:=h;rcases hf with ⟨hm,⟨o,hA⟩|⟨i,j,hi,hj,hf⟩⟩
  ·rcases h4 hm with ⟨hn,_⟩|⟨g,o',arr,t,fz,kR,hh,_⟩;·rw[hn] at hA;cases hA
   ·rw[kR] at hA;injection hA with hA
    injection hA with e1 e2
    subst e1;exact(kL.1 hh).1
  ·exact fF (e i j) (h3 i j hi hj).2.2.2 b k hf
 |.ptr m g o n c,h,b,k,hf=>by
  obtain⟨h1,h2,h3,h4⟩:=h;rcases hf with ⟨_,⟨rfl,_⟩|⟨j,hj,hf⟩⟩;·exact h2
  ·exact fF (c j) (h3 j hj).2.2 b k hf
 |.agg n c,h,b,k,hf=>by obtain⟨j,hj,hf⟩:=hf;exact fF (c j) (h.1 j hj).2 b k hf
 |.av n c,h,b,k,hf=>by obtain⟨j,hj,hf⟩:=hf;exact fF (c j) (h.1 j hj).2 b k hf
 |.fn _ _ _,_,_,_,hf=>hf.elim
 |.dead _,_,_,_,hf=>hf.elim
 |.int _ _,_,_,_,hf=>hf.elim
 |.bool _,_,_,_,hf=>hf.elim
 |.str _,_,_,_,hf=>hf.elim
 |.ref _ _ _,_,_,_,hf=>hf.elim
 |.az _ _ _ _ _,_,_,_,hf=>hf.elim
 |.cut _ _ _ _ _,_,_,_,hf=>hf.elim
def RR{c:C}{m:Md}(hc:c.cell)(hf:c.fits m){b k:Nat}(h:c.fp b k):m=.own:=by
 cases c with
 |row m' sz A len cap e=>
  obtain⟨hm,_⟩:=h;subst hm;rcases hf with h|h|⟨_,h⟩;·exact h
  ·exact h.symm
  ·cases h
 |ptr m' g o n c=>
  obtain⟨hm,_⟩:=h;subst hm;rcases hf with h|h|⟨_,h⟩;·exact h
  ·exact h.symm
  ·cases h
 |agg n c=>exact hc.elim
 |av n c=>exact hc.elim
 |_=>exact h.elim
def kz{m:Md}{sz:Nat}{A:Option Ad}{len cap:Nat}{e:Nat->Nat->C}{i j:Nat}(h0:(e i j).cell)(h1:(e i j).fits m)(hi:i<len)(hj:j<sz){b k:Nat}(hf:(e i j).fp b k):(C.row m sz A len cap e).fp b k:=
 ⟨RR h0 h1 hf,.inr ⟨i,j,hi,hj,hf⟩⟩
def kY{m:Md}{g o n:Nat}{c:Nat->C}{j:Nat}(h0:(c j).cell)(h1:(c j).fits m)(hj:j<n){b k:Nat}(hf:(c j).fp b k):(C.ptr m g o n c).fp b k:=
 ⟨RR h0 h1 hf,.inr ⟨j,hj,hf⟩⟩
def fI(hE:Ext S w w')(hZ:∀m b k,Z m b k->¬S b k):∀(c:C),(∀b k,c.fp b k->¬S b k)->c.ok w Z->c.ok w' Z
 |.row m sz A len cap e,hS,h=>by
  obtain⟨h1,h2,h3,h4,h5⟩:=h;refine⟨h1,λi j hi hj=>?_,λi j hi hj=>?_,λhm=>?_,h5⟩
  ·obtain⟨g,o,hA,hc,hz⟩:=h2 i j hi hj;refine⟨g,o,hA,hE.cell ?_ hc,hz⟩;by_cases hm:m=.own;·exact hS _ _ ⟨hm,.inl ⟨o,hA⟩⟩
   ·exact hZ _ _ _ (hz hm)
  ·obtain⟨a1,a2,a3,a4⟩:=h3 i j hi hj;exact⟨a1,a2,a3,fI hE hZ (e i j) (λb k hf=>hS b k (kz a1 a3 hi hj hf)) a4⟩
  ·rcases h4 hm with h|⟨g,o,arr,t,fz,hA,hh,hsz,hfr⟩;·exact .inl h
   ·have hg:g<w.heap.size:=(kL.1 hh).1;rcases hE.block g hg with e'|⟨a1,a2,t',mH,e1,e2,e3,e4⟩;·exact .inr ⟨g,o,arr,t,fz,hA,e'.trans hh,hsz,λk hk hk'=>(hE.frozen hg).trans (hfr k hk hk')⟩
    ·rw[hh] at e1;injection e1 with e1
     injection e1 with q1 q2 q3
     subst q1;exact .inr ⟨g,o,a2,t',mH,hA,e2,by omega,λk hk hk'=>(hE.frozen hg).trans (hfr k hk hk')⟩
 |.ptr m g o n c,hS,h=>by
  obtain⟨h1,h2,h3,h4⟩:=h;refine⟨λj hj=>?_,lg h2 hE.size,λj hj=>?_,h4⟩
  ·obtain⟨a1,a2,a3⟩:=h1 j hj;refine⟨hE.cell ?_ a1,a2,λhm=>(hE.frozen h2).trans (a3 hm)⟩;by_cases hm:m=.own;·exact hS _ _ ⟨hm,.inl ⟨rfl,by omega,by omega⟩⟩
   ·exact hZ _ _ _ (a2 hm)
  ·obtain⟨a1,a3,a4⟩:=h3 j hj;exact⟨a1,a3,fI hE hZ (c j) (λb k hf=>hS b k (kY a1 a3 hj hf)) a4⟩
 |.agg n c,hS,h=>⟨λj hj=>⟨(h.1 j hj).1,fI hE hZ (c j) (λb k hf=>hS b k ⟨j,hj,hf⟩) (h.1 j hj).2⟩,h.2⟩
 |.av n c,hS,h=>⟨λj hj=>⟨(h.1 j hj).1,fI hE hZ (c j) (λb k hf=>hS b k ⟨j,hj,hf⟩) (h.1 j hj).2⟩,h.2⟩
 |.fn f n c,hS,h=>λj hj=>⟨fI hE hZ (c j) (λb k hf=>((h j hj).2 b k hf).elim) (h j hj).1,(h j hj).2⟩
 |.dead _,_,h=>h
 |.int _ _,_,h=>h
 |.bool _,_,h=>h
 |.str _,_,h=>h
 |.ref _ _ _,_,h=>h
 |.az _ _ _ _ _,_,h=>h
 |.cut _ _ _ _ _,_,h=>h
def gM(hZ:∀m b k,Z m b k->Z' m b k):∀(c:C),c.ok w Z->c.ok w Z'
 |.row m sz A len cap e,h=>by
  obtain⟨h1,h2,h3,h4,h5⟩:=h;refine⟨h1,λi j hi hj=>?_,λi j hi hj=>?_,h4,h5⟩;·obtain⟨g,o,hA,hc,hz⟩:=h2 i j hi hj;exact⟨g,o,hA,hc,λhm=>hZ _ _ _ (hz hm)⟩
  ·obtain⟨a1,a2,a3,a4⟩:=h3 i j hi hj;exact⟨a1,a2,a3,gM hZ (e i j) a4⟩
 |.ptr m g o n c,h=>by
  obtain⟨h1,h2,h3,h4⟩:=h;refine⟨λj hj=>?_,h2,λj hj=>?_,h4⟩;·obtain⟨a1,a2,a3⟩:=h1 j hj;exact⟨a1,λhm=>hZ _ _ _ (a2 hm),a3⟩
  ·obtain⟨a1,a3,a4⟩:=h3 j hj;exact⟨a1,a3,gM hZ (c j) a4⟩
 |.agg n c,h=>⟨λj hj=>⟨(h.1 j hj).1,gM hZ (c j) (h.1 j hj).2⟩,h.2⟩
 |.av n c,h=>⟨λj hj=>⟨(h.1 j hj).1,gM hZ (c j) (h.1 j hj).2⟩,h.2⟩
 |.fn f n c,h=>λj hj=>⟨gM hZ (c j) (h j hj).1,(h j hj).2⟩
 |.dead _,h=>h
 |.int _ _,h=>h
 |.bool _,h=>h
 |.str _,h=>h
 |.ref _ _ _,h=>h
 |.az _ _ _ _ _,h=>h
 |.cut _ _ _ _ _,h=>h
def step:C->Nat×Nat->Option C
 |.row _ sz _ len _ e,q=>if q.1<len/\q.2<sz then some (e q.1 q.2) else none
 |.ptr _ _ _ n c,q=>if q.1=0/\q.2<n then some (c q.2) else none
 |.agg n c,q=>if q.1=0/\q.2<n then some (c q.2) else none
 |.av n c,q=>if q.1=0/\q.2<n then some (c q.2) else none
 |_,_=>none
def sub(c:C):Path->Option C
 |[]=>some c
 |q::p=>(c.step q).bind (·.sub p)
def b8(f:Nat->C)(j:Nat)(y:C):Nat->C:=λi=>if i=j then y else f i
def bu:C->Nat×Nat->C->C
 |.row m sz A len cap e,q,y=>.row m sz A len cap (λi j=>if i=q.1/\j=q.2 then y else e i j)
 |.ptr m g o n c,q,y=>.ptr m g o n (b8 c q.2 y)
 |.agg n c,q,y=>.agg n (b8 c q.2 y)
 |.av n c,q,y=>.av n (b8 c q.2 y)
 |c,_,_=>c
def putAt:Path->C->C->C
 |[],_,y=>y
 |q::p,c,y=>match c.step q with
  |some z=>c.bu q (putAt p z y)
  |none=>c
def de{α:Type}(f:Nat->α)(n i:Nat):((List.range n).map f)[i]?=if i<n then some (f i) else none:=by
 rw[cZ];by_cases h:i<n;·rw[tS h,ax h];rfl
 ·rw[jG (by simpa using h),aF h];rfl
def Vh(c:C)(q:Nat×Nat):c.er.step q=(c.step q).map er:=by
 cases c with
 |row m sz A len cap e=>
  simp only[er,X.step,step,de];by_cases h1:q.1<len
  ·by_cases h2:q.2<sz;·simp[h1,h2,de]
   ·simp[h1,h2,de]
  ·simp[h1]
 |ptr m g o n c=>simp only[er,X.step,step,de];cases h0:q.1==0<;>by_cases h1:q.2<n<;>simp_all
 |agg n c=>simp only[er,X.step,step,de];cases h0:q.1==0<;>by_cases h1:q.2<n<;>simp_all
 |av n c=>simp only[er,X.step,step,de];cases h0:q.1==0<;>by_cases h1:q.2<n<;>simp_all
 |_=>rfl
def gP:∀(p:Path) (c:C),c.er.sub p=(c.sub p).map er
 |[],c=>rfl
 |q::p,c=>by
  simp only[X.sub,sub,Vh];cases h:c.step q with
  |none=>rfl
  |some d=>simpa using gP p d
def B3{α:Type}(f g:Nat->α)(n j:Nat)(y:α)(h:∀i,i<n->g i=if i=j then y else f i):((List.range n).map f).set j y=(List.range n).map g:=by
 apply gy;intro i;rw[ru,de,de];simp only[cV,tU];by_cases hi:i<n
 ·by_cases hj:j=i;·subst hj;simp[hi,h j hi]
  ·have:i≠j:=λe=>hj e.symm;simp[hi,hj,h i hi,this]
 ·by_cases hj:j=i;·subst hj;simp[hi]
  ·simp[hi,hj]
def ahQ(c:C)(q:Nat×Nat)(y:C):(c.bu q y).er=c.er.bu q y.er:=by
 cases c with
 |row m sz A len cap e=>
  simp only[bu,er,X.bu];congr 1;apply gy;intro i;rw[tR,de,de];by_cases hi:i<len
  ·rw[ax hi,ax hi];show some _=some _;congr 1;by_cases hq:q.1=i;·subst hq;simp only[dh];symm;apply B3;intro j hj;by_cases hj':j=q.2<;>simp[hj']
   ·have oG:i≠q.1:=λe=>hq e.symm;simp[hq,oG]
  ·simp[hi]
 |ptr m g o n c=>simp only[bu,er,X.bu];congr 1;symm;apply B3;intro i hi;unfold b8;split<;>rfl
 |agg n c=>simp only[bu,er,X.bu];congr 1;symm;apply B3;intro i hi;unfold b8;split<;>rfl
 |av n c=>simp only[bu,er,X.bu];congr 1;symm;apply B3;intro i hi;unfold b8;split<;>rfl
 |_=>rfl
def MN:∀(p:Path) (c y:C),(putAt p c y).er=X.putAt p c.er y.er
 |[],c,y=>rfl
 |q::p,c,y=>by
  simp only[putAt,X.putAt,Vh];cases h:c.step q with
  |none=>rfl
  |some d=>simp only[cv,ahQ,MN p d y]
end C
end M
namespace M
open Go Go.RowKit
namespace C
variable {w w':World}{Z Z':Md->Nat->Nat->Prop}{S:Nat->Nat->Prop}
def N2{c z:C}{q:Nat×Nat}(h:c.step q=some z)(ho:c.ok w Z){b k:Nat}(hf:z.fp b k):c.fp b k:=by
 cases c with
 |row m sz A len cap e=>
  simp only[step] at h;split at h
  ·rename_i hq;injection h with h
   subst h;obtain⟨a1,a2,a3,a4⟩:=ho.2.2.1 _ _ hq.1 hq.2;exact kz a1 a3 hq.1 hq.2 hf
  ·cases h
 |ptr m g o n c=>
  simp only[step] at h;split at h
  ·rename_i hq;injection h with h
   subst h;obtain⟨a1,a3,a4⟩:=ho.2.2.1 _ hq.2;exact kY a1 a3 hq.2 hf
  ·cases h
 |agg n c=>
  simp only[step] at h;split at h
  ·rename_i hq;injection h with h
   subst h;exact⟨q.2,hq.2,hf⟩
  ·cases h
 |av n c=>
  simp only[step] at h;split at h
  ·rename_i hq;injection h with h
   subst h;exact⟨q.2,hq.2,hf⟩
  ·cases h
 |_=>simp[step] at h
def wg{c z:C}{q:Nat×Nat}(h:c.step q=some z)(ho:c.ok w Z):z.ok w Z:=by
 cases c with
 |row m sz A len cap e=>
  simp only[step] at h;split at h
  ·rename_i hq;injection h with h
   subst h;exact(ho.2.2.1 _ _ hq.1 hq.2).2.2.2
  ·cases h
 |ptr m g o n c=>
  simp only[step] at h;split at h
  ·rename_i hq;injection h with h
   subst h;exact(ho.2.2.1 _ hq.2).2.2
  ·cases h
 |agg n c=>
  simp only[step] at h;split at h
  ·rename_i hq;injection h with h
   subst h;exact(ho.1 _ hq.2).2
  ·cases h
 |av n c=>
  simp only[step] at h;split at h
  ·rename_i hq;injection h with h
   subst h;exact(ho.1 _ hq.2).2
  ·cases h
 |_=>simp[step] at h
def iu:∀(p:Path) {c d:C},c.sub p=some d->c.ok w Z->d.ok w Z
 |[],c,d,h,ho=>by simp only[sub] at h;injection h with h;subst h;exact ho
 |q::p,c,d,h,ho=>by
  simp only[sub] at h;cases hs:c.step q with
  |none=>rw[hs] at h;cases h
  |some z=>rw[hs] at h;exact iu p h (wg hs ho)
def gQ:∀(p:Path) {c d:C},c.sub p=some d->c.ok w Z->∀{b k:Nat},d.fp b k->c.fp b k
 |[],c,d,h,_,b,k,hf=>by simp only[sub] at h;injection h with h;subst h;exact hf
 |q::p,c,d,h,ho,b,k,hf=>by
  simp only[sub] at h;cases hs:c.step q with
  |none=>rw[hs] at h;cases h
  |some z=>rw[hs] at h;exact N2 hs ho (gQ p h (wg hs ho) hf)
structure iy (c c':C):Prop where
 val:c'.val=c.val
 cell:c.cell->c'.cell
 gi:c.gi->c'.gi
 cU:c.cU->c'.cU
 fits:∀m,c.fits m->c'.fits m
def iy.bu(c:C)(q:Nat×Nat)(z z':C)(hs:c.step q=some z)(hv:z'.val=z.val):iy c (c.bu q z'):=by
 have list:∀(n:Nat) (f:Nat->C),f q.2=z->((List.range n).map λj=>(b8 f q.2 z' j).val)=((List.range n).map λj=>(f j).val):=by
  intro n f hf;apply cm;intro j _;unfold b8;split;·rename_i e;subst e;rw[hv,hf]
  ·rfl
 cases c with
 |row m sz A len cap e=>exact⟨rfl,λh=>h,λh=>h,λh=>h,λm h=>h⟩
 |ptr m g o n c=>exact⟨rfl,λh=>h,λh=>h,λh=>h,λm h=>h⟩
 |agg n c=>
  simp only[step] at hs;split at hs
  ·injection hs with hs
   exact⟨by simp only[C.bu,C.val];rw[list n c hs],λh=>h,λh=>h,λh=>h,λm h=>h⟩
  ·cases hs
 |av n c=>
  simp only[step] at hs;split at hs
  ·injection hs with hs
   exact⟨by simp only[C.bu,C.val];rw[list n c hs],λh=>h,λh=>h,λh=>h,λm h=>h⟩
  ·cases hs
 |_=>simp[step] at hs
def Cd(hM:∀m b k,Z m b k->Z' m b k)(hE:Ext S w w')(hZ:∀m b k,Z m b k->¬S b k):∀(p:Path) (c d d':C),c.ok w Z->c.sub p=some d->d'.ok w' Z'->iy d d'->
  (∀b k,S b k->d.fp b k\/¬c.fp b k)->(∀b k,d'.fp b k->d.fp b k\/¬c.fp b k)->
  (putAt p c d').ok w' Z'/\(∀b k,(putAt p c d').fp b k->d'.fp b k\/(c.fp b k/\¬d.fp b k))/\iy c (putAt p c d')
 |[],c,d,d',hc,hs,hd,hl,hS,hF=>by
  simp only[sub] at hs;injection hs with hs
  subst hs;exact⟨hd,λb k h=>.inl h,hl⟩
 |q::p,c,d,d',hc,hs,hd,hl,hS,hF=>by
  simp only[sub] at hs;cases hst:c.step q with
  |none=>rw[hst] at hs;cases hs
  |some z=>
   rw[hst] at hs;have hs':z.sub p=some d:=hs;obtain⟨i1,i2,i3⟩:=Cd hM hE hZ p z d d' (wg hst hc) hs' hd hl (λb k h=>(hS b k h).imp id (λhn hz=>hn (N2 hst hc hz))) (λb k h=>(hF b k h).imp id (λhn hz=>hn (N2 hst hc hz)));simp only[putAt,hst];generalize fG:putAt p z d'=z' at i1 i2 i3;have sA:=iy.bu c q z z' hst i3.val;have lK:∀{b k},d.fp b k->z.fp b k:=λh=>gQ p hs' (wg hst hc) h
   have Fo:∀(y:C),(∀b k,y.fp b k->c.fp b k)->(∀b k,y.fp b k->¬z.fp b k)->∀b k,y.fp b k->¬S b k:=λy hy hyz b k Ta AL=>by
    rcases hS b k AL with h|h;·exact hyz b k Ta (lK h)
    ·exact h (hy b k Ta)
   cases c with
   |row m sz A len cap e=>
    simp only[step] at hst;split at hst
    ·rename_i hq;injection hst with hst
     obtain⟨h1,h2,h3,h4,h5⟩:=hc;have fN:∀b k,z.fp b k->(m=.own->∀o,A≠some (b,o,none))/\∀i' j',i'<len->j'<sz->(q.1,q.2)≠(i',j')->¬(e i' j').fp b k:=λb k h=>h5 q.1 q.2 hq.1 hq.2 b k (by rw[hst];exact h)
     have hval:∀i j,(if i=q.1/\j=q.2 then z' else e i j).val=(e i j).val:=by
      intro i j;split;·rename_i h;obtain⟨rfl,rfl⟩:=h;rw[hst];exact i3.val
      ·rfl
     have lR:∀b k,z'.fp b k->(m=.own->∀o,A≠some (b,o,none))/\∀i' j',i'<len->j'<sz->(q.1,q.2)≠(i',j')->¬(e i' j').fp b k:=by
      intro b k h;rcases i2 b k h with h|⟨h,_⟩
      ·rcases hF b k h with h|h;·exact fN b k (lK h)
       ·exact⟨λhm o hA=>h ⟨hm,.inl ⟨o,hA⟩⟩,λi' j' hi hj _ hf=>h (kz (h3 i' j' hi hj).1 (h3 i' j' hi hj).2.2.1 hi hj hf)⟩
      ·exact fN b k h
     refine⟨⟨h1,λi j hi hj=>?_,λi j hi hj=>?_,λhm=>?_,λi j hi hj b k hf=>?_⟩,λb k hf=>?_,sA⟩
     ·obtain⟨g,o,hA,hcell,hz⟩:=h2 i j hi hj;refine⟨g,o,hA,?_,λhm=>hM _ _ _ (hz hm)⟩;rw[hval];refine hE.cell ?_ hcell;by_cases hm:m=.own
      ·intro AL;rcases hS _ _ AL with h|h;·exact(fN _ _ (lK h)).1 hm o hA
       ·exact h ⟨hm,.inl ⟨o,hA⟩⟩
      ·exact hZ _ _ _ (hz hm)
     ·obtain⟨a1,a2,a3,a4⟩:=h3 i j hi hj;by_cases hij:i=q.1/\j=q.2;·obtain⟨rfl,rfl⟩:=hij;simp only[zL,dh];rw[hst] at a1 a2 a3;exact⟨i3.cell a1,i3.cU a2,i3.fits _ a3,i1⟩
      ·simp only[aF hij];refine⟨a1,a2,a3,gM hM _ (fI hE hZ _ (Fo _ (λb k hf=>kz a1 a3 hi hj hf) λb k hf jP=>?_) a4)⟩;exact(fN b k jP).2 i j hi hj (λe=>hij (by simpa using (jU _ _ _ _▸e.symm:i=q.1/\j=q.2))) hf
     ·rcases h4 hm with h|⟨g,o,arr,t,fz,hA,hh,hsz,hfr⟩;·exact .inl h
      ·have hg:g<w.heap.size:=(kL.1 hh).1;rcases hE.block g hg with e'|⟨a1,a2,t',mH,e1,e2,e3,e4⟩;·exact .inr ⟨g,o,arr,t,fz,hA,e'.trans hh,hsz,λk hk hk'=>(hE.frozen hg).trans (hfr k hk hk')⟩
       ·rw[hh] at e1;injection e1 with e1
        injection e1 with q1 q2 q3
        subst q1;exact .inr ⟨g,o,a2,t',mH,hA,e2,by omega,λk hk hk'=>(hE.frozen hg).trans (hfr k hk hk')⟩
     ·by_cases hij:i=q.1/\j=q.2;·obtain⟨rfl,rfl⟩:=hij;simp only[zL,dh] at hf;refine⟨(lR b k hf).1,λi' j' hi' hj' hne=>?_⟩;show ¬(if i'=q.1/\j'=q.2 then z' else e i' j').fp b k;rw[aF (λh=>hne (by rw[h.1,h.2]))];exact(lR b k hf).2 i' j' hi' hj' hne
      ·simp only[aF hij] at hf;refine⟨(h5 i j hi hj b k hf).1,λi' j' hi' hj' hne=>?_⟩;show ¬(if i'=q.1/\j'=q.2 then z' else e i' j').fp b k;by_cases hij':i'=q.1/\j'=q.2;·obtain⟨rfl,rfl⟩:=hij';simp only[zL,dh];intro hf';exact(lR b k hf').2 i j hi hj (λe=>hij (by simpa using (jU _ _ _ _▸e.symm:i=q.1/\j=q.2))) hf
       ·rw[aF hij'];exact(h5 i j hi hj b k hf).2 i' j' hi' hj' hne
     ·rcases hf with ⟨hm,h|⟨i,j,hi,hj,hf⟩⟩;·refine .inr ⟨⟨hm,.inl h⟩,λhd=>?_⟩;obtain⟨o,hA⟩:=h;exact(fN b k (lK hd)).1 hm o hA
      ·by_cases hij:i=q.1/\j=q.2
       ·obtain⟨rfl,rfl⟩:=hij;simp only[zL,dh] at hf;rcases i2 b k hf with h|⟨h,hn⟩;·exact .inl h
        ·exact .inr ⟨⟨hm,.inr ⟨_,_,hi,hj,by rw[hst];exact h⟩⟩,hn⟩
       ·simp only[aF hij] at hf;exact .inr ⟨⟨hm,.inr ⟨i,j,hi,hj,hf⟩⟩,λhd=>(fN b k (lK hd)).2 i j hi hj (λe=>hij (by simpa using (jU _ _ _ _▸e.symm:i=q.1/\j=q.2))) hf⟩
    ·cases hst
   |ptr m g o n c=>
    simp only[step] at hst;split at hst
    ·rename_i hq;injection hst with hst
     obtain⟨h1,h2,h3,h4⟩:=hc;have fN:∀b k,z.fp b k->(m=.own->¬(b=g/\o<=k/\k<o+n))/\∀j',j'<n->q.2≠j'->¬(c j').fp b k:=λb k h=>h4 q.2 hq.2 b k (by rw[hst];exact h)
     have hval:∀j,(b8 c q.2 z' j).val=(c j).val:=by
      intro j;unfold b8;split;·rename_i h;subst h;rw[hst];exact i3.val
      ·rfl
     have lR:∀b k,z'.fp b k->(m=.own->¬(b=g/\o<=k/\k<o+n))/\∀j',j'<n->q.2≠j'->¬(c j').fp b k:=by
      intro b k h;rcases i2 b k h with h|⟨h,_⟩
      ·rcases hF b k h with h|h;·exact fN b k (lK h)
       ·exact⟨λhm hA=>h ⟨hm,.inl hA⟩,λj' hj _ hf=>h (kY (h3 j' hj).1 (h3 j' hj).2.1 hj hf)⟩
      ·exact fN b k h
     refine⟨⟨λj hj=>?_,lg h2 hE.size,λj hj=>?_,λj hj b k hf=>?_⟩,λb k hf=>?_,sA⟩
     ·obtain⟨a1,a2,a3⟩:=h1 j hj;refine⟨?_,λhm=>hM _ _ _ (a2 hm),λhm=>(hE.frozen h2).trans (a3 hm)⟩;rw[hval];refine hE.cell ?_ a1;by_cases hm:m=.own
      ·intro AL;rcases hS _ _ AL with h|h;·exact(fN _ _ (lK h)).1 hm ⟨rfl,by omega,by omega⟩
       ·exact h ⟨hm,.inl ⟨rfl,by omega,by omega⟩⟩
      ·exact hZ _ _ _ (a2 hm)
     ·obtain⟨a1,a3,a4⟩:=h3 j hj;unfold b8;by_cases hij:j=q.2;·subst hij;simp only[dh];rw[hst] at a1 a3;exact⟨i3.cell a1,i3.fits _ a3,i1⟩
      ·simp only[aF hij];refine⟨a1,a3,gM hM _ (fI hE hZ _ (Fo _ (λb k hf=>kY a1 a3 hj hf) λb k hf jP=>?_) a4)⟩;exact(fN b k jP).2 j hj (λe=>hij e.symm) hf
     ·unfold b8 at hf⊢;by_cases hij:j=q.2;·subst hij;simp only[dh] at hf;refine⟨(lR b k hf).1,λj' hj' hne=>?_⟩;rw[aF (λh=>hne h.symm)];exact(lR b k hf).2 j' hj' hne
      ·simp only[aF hij] at hf;refine⟨(h4 j hj b k hf).1,λj' hj' hne=>?_⟩;by_cases hij':j'=q.2;·subst hij';simp only[dh];intro hf';exact(lR b k hf').2 j hj (λe=>hij e.symm) hf
       ·rw[aF hij'];exact(h4 j hj b k hf).2 j' hj' hne
     ·rcases hf with ⟨hm,h|⟨j,hj,hf⟩⟩;·refine .inr ⟨⟨hm,.inl h⟩,λhd=>?_⟩;exact(fN b k (lK hd)).1 hm h
      ·unfold b8 at hf;by_cases hij:j=q.2
       ·subst hij;simp only[dh] at hf;rcases i2 b k hf with h|⟨h,hn⟩;·exact .inl h
        ·exact .inr ⟨⟨hm,.inr ⟨_,hj,by rw[hst];exact h⟩⟩,hn⟩
       ·simp only[aF hij] at hf;exact .inr ⟨⟨hm,.inr ⟨j,hj,hf⟩⟩,λhd=>(fN b k (lK hd)).2 j hj (λe=>hij e.symm) hf⟩
    ·cases hst
   |agg n c=>
    simp only[step] at hst;split at hst
    ·rename_i hq;injection hst with hst
     obtain⟨h3,h4⟩:=hc;have fN:∀b k,z.fp b k->∀j',j'<n->q.2≠j'->¬(c j').fp b k:=λb k h=>h4 q.2 hq.2 b k (by rw[hst];exact h)
     have lR:∀b k,z'.fp b k->∀j',j'<n->q.2≠j'->¬(c j').fp b k:=by
      intro b k h;rcases i2 b k h with h|⟨h,_⟩
      ·rcases hF b k h with h|h;·exact fN b k (lK h)
       ·exact λj' hj _ hf=>h ⟨j',hj,hf⟩
      ·exact fN b k h
     refine⟨⟨λj hj=>?_,λj hj b k hf=>?_⟩,λb k hf=>?_,sA⟩
     ·obtain⟨a1,a4⟩:=h3 j hj;unfold b8;by_cases hij:j=q.2;·subst hij;simp only[dh];rw[hst] at a1;exact⟨i3.cell a1,i1⟩
      ·simp only[aF hij];refine⟨a1,gM hM _ (fI hE hZ _ (Fo _ (λb k hf=>⟨j,hj,hf⟩) λb k hf jP=>?_) a4)⟩;exact fN b k jP j hj (λe=>hij e.symm) hf
     ·unfold b8 at hf⊢;by_cases hij:j=q.2;·subst hij;simp only[dh] at hf;intro j' hj' hne;rw[aF (λh=>hne h.symm)];exact lR b k hf j' hj' hne
      ·simp only[aF hij] at hf;intro j' hj' hne;by_cases hij':j'=q.2;·subst hij';simp only[dh];intro hf';exact lR b k hf' j hj (λe=>hij e.symm) hf
       ·rw[aF hij'];exact h4 j hj b k hf j' hj' hne
     ·obtain⟨j,hj,hf⟩:=hf;unfold b8 at hf;by_cases hij:j=q.2
      ·subst hij;simp only[dh] at hf;rcases i2 b k hf with h|⟨h,hn⟩;·exact .inl h
       ·exact .inr ⟨⟨_,hj,by rw[hst];exact h⟩,hn⟩
      ·simp only[aF hij] at hf;exact .inr ⟨⟨j,hj,hf⟩,λhd=>fN b k (lK hd) j hj (λe=>hij e.symm) hf⟩
    ·cases hst
   |av n c=>
    simp only[step] at hst;split at hst
    ·rename_i hq;injection hst with hst
     obtain⟨h3,h4⟩:=hc;have fN:∀b k,z.fp b k->∀j',j'<n->q.2≠j'->¬(c j').fp b k:=λb k h=>h4 q.2 hq.2 b k (by rw[hst];exact h)
     have lR:∀b k,z'.fp b k->∀j',j'<n->q.2≠j'->¬(c j').fp b k:=by
      intro b k h;rcases i2 b k h with h|⟨h,_⟩
      ·rcases hF b k h with h|h;·exact fN b k (lK h)
       ·exact λj' hj _ hf=>h ⟨j',hj,hf⟩
      ·exact fN b k h
     refine⟨⟨λj hj=>?_,λj hj b k hf=>?_⟩,λb k hf=>?_,sA⟩
     ·obtain⟨a1,a4⟩:=h3 j hj;unfold b8;by_cases hij:j=q.2;·subst hij;simp only[dh];rw[hst] at a1;exact⟨i3.gi a1,i1⟩
      ·simp only[aF hij];refine⟨a1,gM hM _ (fI hE hZ _ (Fo _ (λb k hf=>⟨j,hj,hf⟩) λb k hf jP=>?_) a4)⟩;exact fN b k jP j hj (λe=>hij e.symm) hf
     ·unfold b8 at hf⊢;by_cases hij:j=q.2;·subst hij;simp only[dh] at hf;intro j' hj' hne;rw[aF (λh=>hne h.symm)];exact lR b k hf j' hj' hne
      ·simp only[aF hij] at hf;intro j' hj' hne;by_cases hij':j'=q.2;·subst hij';simp only[dh];intro hf';exact lR b k hf' j hj (λe=>hij e.symm) hf
       ·rw[aF hij'];exact h4 j hj b k hf j' hj' hne
     ·obtain⟨j,hj,hf⟩:=hf;unfold b8 at hf;by_cases hij:j=q.2
      ·subst hij;simp only[dh] at hf;rcases i2 b k hf with h|⟨h,hn⟩;·exact .inl h
       ·exact .inr ⟨⟨_,hj,by rw[hst];exact h⟩,hn⟩
      ·simp only[aF hij] at hf;exact .inr ⟨⟨j,hj,hf⟩,λhd=>fN b k (lK hd) j hj (λe=>hij e.symm) hf⟩
    ·cases hst
   |_=>simp[step] at hst
end C
end M
namespace M
open Go Go.RowKit
namespace X
def xS(r:Nat)(p:Path){α:Type}(f:α->X):∀l:List α,gI r p (l.map f)=l.map λa=>(f a).kill r p
 |[]=>rfl
 |a::l=>by simp only[bn,gI,xS r p f l]
def Ce(ks:List Nat){α:Type}(f:α->X):∀l:List α,nV ks (l.map f)=l.map λa=>(f a).only ks
 |[]=>rfl
 |a::l=>by simp only[bn,nV,Ce ks f l]
end X
namespace C
variable {w w':World}{Z Z':Md->Nat->Nat->Prop}{S:Nat->Nat->Prop}
def aE(t:Nat->Path->Bool):C->C
 |.ref v s q=>bif t s q then .dead v else .ref v s q
 |.az v s q i c=>bif t s q then .dead v else .az v s q i c
 |.cut v s q lo hi=>bif t s q then .dead v else .cut v s q lo hi
 |.ptr m g o n c=>.ptr m g o n λj=>(c j).aE t
 |.agg n c=>.agg n λj=>(c j).aE t
 |.av n c=>.av n λj=>(c j).aE t
 |.fn f n c=>.fn f n λj=>(c j).aE t
 |c=>c
def bQ(r:Nat)(p:Path):Nat->Path->Bool:=λs q=>s==r && X.pfx p q
def others(ks:List Nat):Nat->Path->Bool:=λs _=> !ks.contains s
def oK(r:Nat)(p:Path):∀c:C,(c.aE (bQ r p)).er=c.er.kill r p
 |.ref v s q=>by simp only[aE,er,X.kill,bQ];cases s==r && X.pfx p q<;>rfl
 |.az v s q i c=>by simp only[aE,er,X.kill,bQ];cases s==r && X.pfx p q<;>rfl
 |.cut v s q i c=>by simp only[aE,er,X.kill,bQ];cases s==r && X.pfx p q<;>rfl
 |.ptr m g o n c=>by simp only[aE,er,X.kill,X.xS];congr 1;exact cm λj _=>oK r p (c j)
 |.agg n c=>by simp only[aE,er,X.kill,X.xS];congr 1;exact cm λj _=>oK r p (c j)
 |.av n c=>by simp only[aE,er,X.kill,X.xS];congr 1;exact cm λj _=>oK r p (c j)
 |.fn f n c=>by simp only[aE,er,X.kill,X.xS];congr 1;exact cm λj _=>oK r p (c j)
 |.dead _=>by simp only[aE,er,X.kill]
 |.int _ _=>by simp only[aE,er,X.kill]
 |.bool _=>by simp only[aE,er,X.kill]
 |.str _=>by simp only[aE,er,X.kill]
 |.row _ _ _ _ _ _=>by simp only[aE,er,X.kill]
def Cf(ks:List Nat):∀c:C,(c.aE (others ks)).er=c.er.only ks
 |.ref v s q=>by simp only[aE,er,X.only,others];cases ks.contains s<;>rfl
 |.az v s q i c=>by simp only[aE,er,X.only,others];cases ks.contains s<;>rfl
 |.cut v s q i c=>by simp only[aE,er,X.only,others];cases ks.contains s<;>rfl
 |.ptr m g o n c=>by simp only[aE,er,X.only,X.Ce];congr 1;exact cm λj _=>Cf ks (c j)
 |.agg n c=>by simp only[aE,er,X.only,X.Ce];congr 1;exact cm λj _=>Cf ks (c j)
 |.av n c=>by simp only[aE,er,X.only,X.Ce];congr 1;exact cm λj _=>Cf ks (c j)
 |.fn f n c=>by simp only[aE,er,X.only,X.Ce];congr 1;exact cm λj _=>Cf ks (c j)
 |.dead _=>by simp only[aE,er,X.only]
 |.int _ _=>by simp only[aE,er,X.only]
 |.bool _=>by simp only[aE,er,X.only]
 |.str _=>by simp only[aE,er,X.only]
 |.row _ _ _ _ _ _=>by simp only[aE,er,X.only]
section
variable (t:Nat->Path->Bool)
def jw:∀c:C,(c.aE t).val=c.val
 |.ref v s q=>by simp only[aE];cases t s q<;>rfl
 |.az v s q i c=>by simp only[aE];cases t s q<;>rfl
 |.cut v s q i c=>by simp only[aE];cases t s q<;>rfl
 |.ptr m g o n c=>rfl
 |.agg n c=>by simp only[aE,val];congr 2;exact cm λj _=>jw (c j)
 |.av n c=>by simp only[aE,val];congr 2;exact cm λj _=>jw (c j)
 |.fn f n c=>by simp only[aE,val];congr 2;exact cm λj _=>jw (c j)
 |.dead _=>rfl
 |.int _ _=>rfl
 |.bool _=>rfl
 |.str _=>rfl
 |.row _ _ _ _ _ _=>rfl
def cO:∀(c:C) (b k:Nat),(c.aE t).fp b k↔c.fp b k
 |.ref v s q,b,k=>by simp only[aE];cases t s q<;>exact kJ
 |.az v s q i c,b,k=>by simp only[aE];cases t s q<;>exact kJ
 |.cut v s q i c,b,k=>by simp only[aE];cases t s q<;>exact kJ
 |.ptr m g o n c,b,k=>Jm λ_=>or_congr_right (O2 λj=>Jm λ_=>cO (c j) b k)
 |.agg n c,b,k=>O2 λj=>Jm λ_=>cO (c j) b k
 |.av n c,b,k=>O2 λj=>Jm λ_=>cO (c j) b k
 |.fn f n c,b,k=>kJ
 |.dead _,_,_=>kJ
 |.int _ _,_,_=>kJ
 |.bool _,_,_=>kJ
 |.str _,_,_=>kJ
 |.row _ _ _ _ _ _,_,_=>kJ
def GL(c:C)(h:c.cell):(c.aE t).cell:=by
 cases c with
 |ref v s q=>simp only[aE];cases t s q<;>exact h
 |az v s q i c=>simp only[aE];cases t s q<;>exact h
 |cut v s q i c=>simp only[aE];cases t s q<;>exact h
 |agg=>exact h.elim
 |av=>exact h.elim
 |_=>exact h
def agX(c:C)(h:c.gi):(c.aE t).gi:=by
 cases c with
 |ref v s q=>simp only[aE];cases t s q<;>exact h
 |az v s q i c=>simp only[aE];cases t s q<;>exact h
 |cut v s q i c=>simp only[aE];cases t s q<;>exact h
 |av=>exact h.elim
 |_=>exact h
def agW(m:Md)(c:C)(h:c.fits m):(c.aE t).fits m:=by
 cases c with
 |ref v s q=>simp only[aE];cases t s q<;>trivial
 |az v s q i c=>simp only[aE];cases t s q<;>trivial
 |cut v s q i c=>simp only[aE];cases t s q<;>trivial
 |_=>exact h
def yg(c:C)(h:c.cU):c.aE t=c:=by
 cases c with
 |ref v s q=>exact h.elim
 |az v s q i c=>exact h.elim
 |cut v s q i c=>exact h.elim
 |ptr=>exact h.elim
 |agg=>exact h.elim
 |av=>exact h.elim
 |fn=>exact h.elim
 |_=>rfl
def mU:∀c:C,c.ok w Z->(c.aE t).ok w Z
 |.ref v s q,h=>by simp only[aE];cases t s q<;>trivial
 |.az v s q i c,h=>by simp only[aE];cases t s q<;>trivial
 |.cut v s q i c,h=>by simp only[aE];cases t s q<;>trivial
 |.ptr m g o n c,h=>by
  obtain⟨h1,h2,h3,h4⟩:=h;refine⟨λj hj=>?_,h2,λj hj=>⟨GL t _ (h3 j hj).1,agW t _ _ (h3 j hj).2.1,mU (c j) (h3 j hj).2.2⟩,λj hj b k hf=>?_⟩;·rw[jw];exact h1 j hj
  ·rw[cO] at hf;exact⟨(h4 j hj b k hf).1,λj' hj' hne=>by rw[cO];exact(h4 j hj b k hf).2 j' hj' hne⟩
 |.agg n c,h=>⟨λj hj=>⟨GL t _ (h.1 j hj).1,mU (c j) (h.1 j hj).2⟩,λj hj b k hf j' hj' hne=>by rw[cO] at hf⊢;exact h.2 j hj b k hf j' hj' hne⟩
 |.av n c,h=>⟨λj hj=>⟨agX t _ (h.1 j hj).1,mU (c j) (h.1 j hj).2⟩,λj hj b k hf j' hj' hne=>by rw[cO] at hf⊢;exact h.2 j hj b k hf j' hj' hne⟩
 |.fn f n c,h=>λj hj=>⟨mU (c j) (h j hj).1,λb k hf=>by rw[cO] at hf;exact(h j hj).2 b k hf⟩
 |.dead _,h=>h
 |.int _ _,h=>h
 |.bool _,h=>h
 |.str _,h=>h
 |.row _ _ _ _ _ _,h=>h
def jv:∀(q:Path) (c y:C),c.ok w Z->c.sub q=some y->(c.aE t).sub q=some (y.aE t)
 |[],c,y,ho,h=>by simp only[sub] at h⊢;injection h with h;rw[h]
 |q::p,c,y,ho,h=>by
  simp only[sub] at h⊢;cases hs:c.step q with
  |none=>rw[hs] at h;cases h
  |some z=>
   rw[hs] at h;have hz:(z.aE t).sub p=some (y.aE t):=jv p z y (wg hs ho) h;suffices hst:(c.aE t).step q=some (z.aE t) by rw[hst];exact hz
   cases c with
   |row m sz A len cap e=>
    simp only[step] at hs;split at hs
    ·rename_i hq;injection hs with hs
     have:=yg t z (by rw[<-hs];exact(ho.2.2.1 _ _ hq.1 hq.2).2.1);simp only[aE,step,ax hq,hs,this]
    ·cases hs
   |ptr m g o n c=>
    simp only[step] at hs;split at hs
    ·rename_i hq;injection hs with hs
     simp only[aE,step,ax hq,hs]
    ·cases hs
   |agg n c=>
    simp only[step] at hs;split at hs
    ·rename_i hq;injection hs with hs
     simp only[aE,step,ax hq,hs]
    ·cases hs
   |av n c=>
    simp only[step] at hs;split at hs
    ·rename_i hq;injection hs with hs
     simp only[aE,step,ax hq,hs]
    ·cases hs
   |_=>simp[step] at hs
end
inductive gB:C->C->Prop where
 |row (m m':Md) (sz:Nat) (A:Option Ad) (len cap:Nat) (e e':Nat->Nat->C):gB (.row m sz A len cap e) (.row m' sz A len cap e')
 |ptr (m m':Md) (g o n:Nat) (c c':Nat->C):gB (.ptr m g o n c) (.ptr m' g o n c')
def gB.off(t:Nat->Path->Bool){y z:C}(h:gB y z):gB y (z.aE t):=by
 cases h with
 |row=>exact .row ..
 |ptr=>exact .ptr ..
def gB.trans{x y z:C}(h:gB x y)(h':gB y z):gB x z:=by cases h<;>cases h'<;>constructor
def free(t:Nat->Path->Bool):C->Prop
 |.ref _ s q=>t s q=false
 |.az _ s q _ _=>t s q=false
 |.cut _ s q _ _=>t s q=false
 |.ptr _ _ _ n c=>∀j,j<n->(c j).free t
 |.agg n c=>∀j,j<n->(c j).free t
 |.av n c=>∀j,j<n->(c j).free t
 |.fn _ n c=>∀j,j<n->(c j).free t
 |_=>True
def gL(t:Nat->Path->Bool):∀c:C,(c.aE t).free t
 |.ref v s q=>by simp only[aE];cases h:t s q<;>simp[free,h]
 |.az v s q i c=>by simp only[aE];cases h:t s q<;>simp[free,h]
 |.cut v s q i c=>by simp only[aE];cases h:t s q<;>simp[free,h]
 |.ptr m g o n c=>λj _=>gL t (c j)
 |.agg n c=>λj _=>gL t (c j)
 |.av n c=>λj _=>gL t (c j)
 |.fn f n c=>λj _=>gL t (c j)
 |.dead _=>trivial
 |.int _ _=>trivial
 |.bool _=>trivial
 |.str _=>trivial
 |.row _ _ _ _ _ _=>trivial
def rf(G:Nat->C):C->Prop
 |.ref v s p=>∃y z,(G s).sub p=some y/\gB z y/\y.val=v/\∃m sz A len cap e,z=.row m sz A len cap e
 |.az v s p i c=>∃y,(G s).sub p=some y/\((∃m sz g o len cap e,y=.row m sz (some (g,o,none)) len cap e/\v=.pointer (some ⟨g,o+i*sz+c,none⟩))\/∃m g o n cc,y=.ptr m g o n cc/\i=0/\v=.pointer (some ⟨g,o+c,none⟩))
 |.cut v s p lo hi=>∃m sz A len cap e A' cap',(G s).sub p=some (.row m sz A len cap e)/\v=.slice (Option.map (λq:Ad=>⟨q.1,q.2.1,q.2.2⟩) A') (hi - lo) cap'/\lo<=hi/\hi<=len/\hi - lo<=cap'/\(lo<hi->A'=A.map λq=>jH (lo*sz) q)/\lo+cap'=cap/\((A'=A/\cap'=0)\/A'=A.map λq=>jH (lo*sz) q)
 |.ptr _ _ _ n c=>∀j,j<n->(c j).rf G
 |.agg n c=>∀j,j<n->(c j).rf G
 |.av n c=>∀j,j<n->(c j).rf G
 |.fn _ n c=>∀j,j<n->(c j).rf G
 |_=>True
def l5{G G':Nat->C}(t:Nat->Path->Bool)(h:∀s q y,t s q=false->(G s).sub q=some y->(∃z,gB y z/\(G' s).sub q=some z)\/∀z,¬gB z y):∀c:C,c.free t->c.rf G->c.rf G'
 |.ref v s p,hf,hr=>by
  obtain⟨y,z,hs,hF,hv,m,sz,A,len,cap,e,rfl⟩:=hr;rcases h s p y hf hs with ⟨z',fG,hs'⟩|hno;·refine⟨z',_,hs',hF.trans fG,?_,m,sz,A,len,cap,e,rfl⟩;cases hF;cases fG;exact hv
  ·exact(hno _ hF).elim
 |.az v s p i c,hf,hr=>by
  obtain⟨y,hs,hy⟩:=hr;rcases h s p y hf hs with ⟨z',fG,hs'⟩|hno
  ·refine⟨z',hs',?_⟩;rcases hy with ⟨m,sz,g,o,len,cap,e,rfl,hv⟩|⟨m,g,o,n,cc,rfl,hv⟩;·cases fG;exact .inl ⟨_,_,_,_,_,_,_,rfl,hv⟩
   ·cases fG;exact .inr ⟨_,_,_,_,_,rfl,hv⟩
  ·rcases hy with ⟨m,sz,g,o,len,cap,e,rfl,hv⟩|⟨m,g,o,n,cc,rfl,hv⟩;·exact(hno _ (.row m m sz (some (g,o,none)) len cap e e)).elim
   ·exact(hno _ (.ptr m m g o n cc cc)).elim
 |.cut v s p lo hi,hf,hr=>by
  obtain⟨m,sz,A,len,cap,e,A',cap',hs,hv⟩:=hr;rcases h s p _ hf hs with ⟨z',fG,hs'⟩|hno;·cases fG;exact⟨_,_,_,_,_,_,A',cap',hs',hv⟩
  ·exact(hno _ (.row m m sz A len cap e e)).elim
 |.ptr m g o n c,hf,hr=>λj hj=>l5 t h (c j) (hf j hj) (hr j hj)
 |.agg n c,hf,hr=>λj hj=>l5 t h (c j) (hf j hj) (hr j hj)
 |.av n c,hf,hr=>λj hj=>l5 t h (c j) (hf j hj) (hr j hj)
 |.fn f n c,hf,hr=>λj hj=>l5 t h (c j) (hf j hj) (hr j hj)
 |.dead _,_,_=>trivial
 |.int _ _,_,_=>trivial
 |.bool _,_,_=>trivial
 |.str _,_,_=>trivial
 |.row _ _ _ _ _ _,_,_=>trivial
def nT{G:Nat->C}(t:Nat->Path->Bool):∀c:C,c.rf G->(c.aE t).rf G
 |.ref v s q,h=>by simp only[aE];cases t s q<;>first|exact h|trivial
 |.az v s q i c,h=>by simp only[aE];cases t s q<;>first|exact h|trivial
 |.cut v s q i c,h=>by simp only[aE];cases t s q<;>first|exact h|trivial
 |.ptr m g o n c,h=>λj hj=>nT t (c j) (h j hj)
 |.agg n c,h=>λj hj=>nT t (c j) (h j hj)
 |.av n c,h=>λj hj=>nT t (c j) (h j hj)
 |.fn f n c,h=>λj hj=>nT t (c j) (h j hj)
 |.dead _,_=>trivial
 |.int _ _,_=>trivial
 |.bool _,_=>trivial
 |.str _,_=>trivial
 |.row _ _ _ _ _ _,_=>trivial
def self(y z:C)(t:Path)(h:z.sub t=some y):(∃z',gB y z'/\z.sub t=some z')\/∀z,¬gB z y:=by
 cases y with
 |row m sz A len cap e=>exact .inl ⟨_,.row m m sz A len cap e e,h⟩
 |ptr m g o n c=>exact .inl ⟨_,.ptr m m g o n c c,h⟩
 |_=>exact .inr λz hz=>by cases hz
def IE:∀(p q:Path) (c d' y:C),X.pfx p q=false->c.sub q=some y->(∃z,gB y z/\(putAt p c d').sub q=some z)\/∀z,¬gB z y
 |[],q,c,d',y,h,hs=>by simp[X.pfx] at h
 |r::p,[],c,d',y,h,hs=>by
  simp only[sub] at hs;injection hs with hs
  subst hs;simp only[putAt,sub];cases hst:c.step r with
  |none=>
   cases c with
   |row m sz A len cap e=>exact .inl ⟨_,.row m m sz A len cap e _,rfl⟩
   |ptr m g o n c=>exact .inl ⟨_,.ptr m m g o n c _,rfl⟩
   |_=>exact .inr λz hz=>by cases hz
  |some z=>
   cases c with
   |row m sz A len cap e=>exact .inl ⟨_,.row m m sz A len cap e _,rfl⟩
   |ptr m g o n c=>exact .inl ⟨_,.ptr m m g o n c _,rfl⟩
   |_=>exact .inr λz hz=>by cases hz
 |r::p,q::t,c,d',y,h,hs=>by
  simp only[sub] at hs⊢;cases cI:c.step q with
  |none=>rw[cI] at hs;cases hs
  |some z=>
   rw[cI] at hs;have hs':z.sub t=some y:=hs;simp only[putAt];cases lN:c.step r with
   |none=>simp only[cI];exact self y z t hs'
   |some z0=>
    simp only;by_cases FB:r.1=q.1/\r.2=q.2
    ·have ae8:r=q:=by cases r;cases q;simp only at FB;rw[FB.1,FB.2]
     subst ae8;rw[cI] at lN;injection lN with lN
     subst lN;have hp:X.pfx p t=false:=by simpa [X.pfx] using h
     have:(c.bu r (putAt p z d')).step r=some (putAt p z d'):=by
      cases c with
      |row m sz A len cap e=>
       simp only[step] at cI;split at cI;·rename_i hq;simp[bu,step,hq]
       ·cases cI
      |ptr m g o n c=>
       simp only[step] at cI;split at cI;·rename_i hq;simp[bu,step,hq,b8]
       ·cases cI
      |agg n c=>
       simp only[step] at cI;split at cI;·rename_i hq;simp[bu,step,hq,b8]
       ·cases cI
      |av n c=>
       simp only[step] at cI;split at cI;·rename_i hq;simp[bu,step,hq,b8]
       ·cases cI
      |_=>simp[step] at cI
     rw[this];exact IE p t z d' y hp hs'
    ·by_cases h2:r.2=q.2
     ·have h1:r.1≠q.1:=λe=>FB ⟨e,h2⟩;cases c with
      |row m sz A len cap e=>
       simp only[step] at cI;split at cI
       ·rename_i hq;have:((C.row m sz A len cap e).bu r (putAt p z0 d')).step q=some z:=by simp only[bu,step,ax hq];rw[aF (λe=>h1 e.1.symm)];exact cI
        rw[this];exact self y z t hs'
       ·cases cI
      |ptr m g o n c=>
       simp only[step] at cI lN;split at cI
       ·split at lN;·rename_i hq hr;exact(h1 (hr.1.trans hq.1.symm)).elim
        ·cases lN
       ·cases cI
      |agg n c=>
       simp only[step] at cI lN;split at cI
       ·split at lN;·rename_i hq hr;exact(h1 (hr.1.trans hq.1.symm)).elim
        ·cases lN
       ·cases cI
      |av n c=>
       simp only[step] at cI lN;split at cI
       ·split at lN;·rename_i hq hr;exact(h1 (hr.1.trans hq.1.symm)).elim
        ·cases lN
       ·cases cI
      |_=>simp[step] at cI
     ·have:(c.bu r (putAt p z0 d')).step q=some z:=by
       cases c with
       |row m sz A len cap e=>
        simp only[step] at cI;split at cI;·rename_i hq;simp only[bu,step,ax hq];rw[aF (λe=>h2 e.2.symm)];exact cI
        ·cases cI
       |ptr m g o n c=>
        simp only[step] at cI;split at cI;·rename_i hq;simp only[bu,step,ax hq,b8];rw[aF (λe=>h2 e.symm)];exact cI
        ·cases cI
       |agg n c=>
        simp only[step] at cI;split at cI;·rename_i hq;simp only[bu,step,ax hq,b8];rw[aF (λe=>h2 e.symm)];exact cI
        ·cases cI
       |av n c=>
        simp only[step] at cI;split at cI;·rename_i hq;simp only[bu,step,ax hq,b8];rw[aF (λe=>h2 e.symm)];exact cI
        ·cases cI
       |_=>simp[step] at cI
      rw[this];exact self y z t hs'
end C
end M
namespace M
open Go Go.RowKit
def Sd(r:Nat)(p:Path)(t:Nat):∀s:ah,get (sN r p s) t=(get s t).kill r p
 |[]=>rfl
 |(k,v)::s=>by
  simp only[sN,get];cases k==t with
  |true=>rfl
  |false=>exact Sd r p t s
def xo(k:Nat)(v:X)(s:ah)(t:Nat):get ((k,v)::s) t=if t=k then v else get s t:=by
 simp only[get];by_cases h:t=k;·subst h;simp
 ·have:(k==t)=false:=by simpa using λe=>h e.symm
  rw[this,aF h];rfl
structure Inv (w:World) (zl zb:Nat->Nat->Prop) (G:Nat->C) (s:ah):Prop where
 er:∀t,(G t).er=get s t
 ok:∀t,(G t).ok w (Zf zl zb)
 sep:∀t u,t≠u->∀b k,(G t).fp b k->¬(G u).fp b k
 fz:∀t b k,(G t).fp b k->¬zl b k/\¬zb b k
 rf:∀t,(G t).rf G
 cJ:∀b k,zl b k\/zb b k->b<w.heap.size
def JH{zl zb:Nat->Nat->Prop}{n:Nat}(h:∀b k,zl b k\/zb b k->b<n):∀m b k,Zf zl zb m b k->b<n
 |.own,b,k,hz=>hz.elim
 |.sl,b,k,hz=>h b k (.inl hz)
 |.af,b,k,hz=>h b k hz
namespace Inv
variable {w w':World}{zl zb:Nat->Nat->Prop}{G:Nat->C}{s:ah}
def zU(h:Inv w zl zb G s)(t:Nat):∀m b k,Zf zl zb m b k->¬(G t).fp b k
 |.own,b,k,hz=>hz.elim
 |.sl,b,k,hz=>λhf=>(h.fz t b k hf).1 hz
 |.af,b,k,hz=>λhf=>by
  rcases hz with hz|hz;·exact(h.fz t b k hf).1 hz
  ·exact(h.fz t b k hf).2 hz
def off(h:Inv w zl zb G s)(f:Nat->Path->Bool){s':ah}(hs:∀t,((G t).aE f).er=get s' t):Inv w zl zb (λt=>(G t).aE f) s' where
 er:=hs
 ok:=λt=>C.mU f _ (h.ok t)
 sep:=λt u hne b k hf=>by rw[C.cO] at hf⊢;exact h.sep t u hne b k hf
 fz:=λt b k hf=>by rw[C.cO] at hf;exact h.fz t b k hf
 rf:=λt=>C.l5 f (λs' q y hf hs=>by
   rcases C.self y _ q hs with ⟨z,hz,A7⟩|hno;·exact .inl ⟨_,hz.off f,C.jv f q _ _ (h.ok s') A7⟩
   ·exact .inr hno) _ (C.gL f _) (C.nT f _ (h.rf t))
 cJ:=h.cJ
def kill(h:Inv w zl zb G s)(r:Nat)(p:Path):Inv w zl zb (λt=>(G t).aE (C.bQ r p)) (sN r p s):=
 h.off _ λt=>by rw[C.oK,Sd,h.er]
def world(h:Inv w zl zb G s){S:Nat->Nat->Prop}(hE:Ext S w w')(hS:∀b k,S b k->w.heap.size<=b):Inv w' zl zb G s where
 er:=h.er
 ok:=λt=>C.fI hE (λm b k hz hs=>by have:=JH h.cJ m b k hz;have:=hS b k hs;omega) _ (λb k hf hs=>by have:=C.fF _ (h.ok t) b k hf;have:=hS b k hs;omega) (h.ok t)
 sep:=h.sep
 fz:=h.fz
 rf:=h.rf
 cJ:=λb k hz=>lg (h.cJ b k hz) hE.size
def zx(h:Inv w zl zb G s){d:Nat}(hd:(get s d).iY=false):∀c:C,c.rf G->c.free (C.bQ d [])
 |.ref v r p,hr=>by
  obtain⟨y,z,hs,hF,_⟩:=hr;simp only[C.free,C.bQ,X.pfx,OY];by_cases e:r=d;·subst e;exact(no h hd hs (by cases hF<;>rfl)).elim
  ·simpa using e
 |.az v r p i c,hr=>by
  obtain⟨y,hs,hy⟩:=hr;simp only[C.free,C.bQ,X.pfx,OY];by_cases e:r=d;·subst e;refine(no h hd hs ?_).elim;rcases hy with ⟨m,sz,g,o,len,cap,e,rfl,hv⟩|⟨m,g,o,n,cc,rfl,hv⟩<;>rfl
  ·simpa using e
 |.cut v r p lo hi,hr=>by
  obtain⟨m,sz,A,len,cap,e,A',cap',hs,_⟩:=hr;simp only[C.free,C.bQ,X.pfx,OY];by_cases e:r=d;·subst e;exact(no h hd hs rfl).elim
  ·simpa using e
 |.ptr m g o n c,hr=>λj hj=>zx h hd (c j) (hr j hj)
 |.agg n c,hr=>λj hj=>zx h hd (c j) (hr j hj)
 |.av n c,hr=>λj hj=>zx h hd (c j) (hr j hj)
 |.fn f n c,hr=>λj hj=>zx h hd (c j) (hr j hj)
 |.dead _,_=>trivial
 |.int _ _,_=>trivial
 |.bool _,_=>trivial
 |.str _,_=>trivial
 |.row _ _ _ _ _ _,_=>trivial
where
 no {r:Nat} {p:Path} {y:C} (h:Inv w zl zb G s) (hd:(get s r).iY=false) (hs:(G r).sub p=some y) (hy:y.er.iY=true):False:=by
  rw[<-h.er] at hd
  cases p with
  |nil=>
   simp only[C.sub] at hs
   injection hs with hs
   rw[hs,hy] at hd
   cases hd
  |cons q p=>
   simp only[C.sub] at hs
   cases hc:G r with
   |row=>rw[hc] at hd;simp[C.er,X.iY] at hd
   |ptr=>rw[hc] at hd;simp[C.er,X.iY] at hd
   |agg=>rw[hc] at hd;simp[C.er,X.iY] at hd
   |av=>rw[hc] at hd;simp[C.er,X.iY] at hd
   |_=>rw[hc] at hs;simp[C.step] at hs
end Inv
def fK(G:Nat->C)(d:Nat)(c:C):Nat->C:=λt=>if t=d then c else G t
def dI(G:Nat->C)(d:Nat)(c:C):fK G d c d=c:=by simp[fK]
def dx(G:Nat->C){d t:Nat}(c:C)(h:t≠d):fK G d c t=G t:=by simp[fK,h]
namespace Inv
variable {w w':World}{zl zb:Nat->Nat->Prop}{G:Nat->C}{s:ah}
def Uy(h:Inv w zl zb G s)(d:Nat)(c:C)(hfree:∀t,t≠d->(G t).free (C.bQ d []))(hok:c.ok w (Zf zl zb))(hsep:∀t,t≠d->∀b k,c.fp b k->¬(G t).fp b k)
  (hfz:∀b k,c.fp b k->¬zl b k/\¬zb b k)(hrf:c.rf G)(jq:c.free (C.bQ d [])):Inv w zl zb (fK G d c) ((d,c.er)::s) where
 er:=λt=>by
  rw[xo];by_cases e:t=d;·subst e;rw[dI,ax rfl]
  ·rw[dx _ _ e,aF e];exact h.er t
 ok:=λt=>by
  by_cases e:t=d;·subst e;rw[dI];exact hok
  ·rw[dx _ _ e];exact h.ok t
 sep:=λt u hne b k hf=>by
  by_cases e:t=d;·subst e;rw[dI] at hf;rw[dx _ _ (λe=>hne e.symm)];exact hsep u (λe=>hne e.symm) b k hf
  ·rw[dx _ _ e] at hf;by_cases e':u=d;·subst e';rw[dI];exact λhc=>hsep t e b k hc hf
   ·rw[dx _ _ e'];exact h.sep t u hne b k hf
 fz:=λt b k hf=>by
  by_cases e:t=d;·subst e;rw[dI] at hf;exact hfz b k hf
  ·rw[dx _ _ e] at hf;exact h.fz t b k hf
 rf:=λt=>by
  have key:∀c':C,c'.free (C.bQ d [])->c'.rf G->c'.rf (fK G d c):=λc' hf hr=>C.l5 (C.bQ d []) (λs' q y hk hs=>by
   have hne:s'≠d:=by intro e;subst e;simp[C.bQ,X.pfx] at hk
   rw[dx _ _ hne];exact C.self y _ q hs) c' hf hr
  by_cases e:t=d;·subst e;rw[dI];exact key c jq hrf
  ·rw[dx _ _ e];exact key _ (hfree t e) (h.rf t)
 cJ:=h.cJ
def put(h:Inv w zl zb G s)(d:Nat)(c:C)(hok:c.ok w (Zf zl zb))(hsep:∀t,t≠d->∀b k,c.fp b k->¬(G t).fp b k)
  (hfz:∀b k,c.fp b k->¬zl b k/\¬zb b k)(hrf:c.rf G):
  ∃G',Inv w zl zb G' (M.put d c.er s)/\(G' d).val=c.val/\(∀t,t≠d->(G' t).val=(G t).val)/\(∀b k,(G' d).fp b k->c.fp b k)/\∀t,t≠d->∀b k,(G' t).fp b k->(G t).fp b k:=by
 unfold M.put;cases hr:(get s d).iY with
 |false=>refine⟨fK G d c,h.Uy d c (λt _=>h.zx hr _ (h.rf t)) hok hsep hfz hrf (h.zx hr _ hrf),by rw[dI],λt e=>by rw[dx _ _ e],λb k hf=>by rwa [dI] at hf,λt e b k hf=>by rwa [dx _ _ e] at hf⟩
 |true=>
  have h1:=h.kill d []
  have hc:(c.aE (C.bQ d [])).rf λt=>(G t).aE (C.bQ d []):=C.l5 (C.bQ d []) (λs' q y hf hs=>by
   rcases C.self y _ q hs with ⟨z,hz,A7⟩|hno;·exact .inl ⟨_,hz.off _,C.jv _ q _ _ (h.ok s') A7⟩
   ·exact .inr hno) _ (C.gL _ _) (C.nT _ _ hrf)
  have h2:=h1.Uy d (c.aE (C.bQ d [])) (λt _=>C.gL _ _) (C.mU _ _ hok) (λt e b k hf=>by rw[C.cO] at hf⊢;exact hsep t e b k hf) (λb k hf=>by rw[C.cO] at hf;exact hfz b k hf) hc (C.gL _ _);rw[C.oK] at h2;refine⟨_,h2,by rw[dI,C.jw],λt e=>by rw[dx _ _ e,C.jw],λb k hf=>by rw[dI,C.cO] at hf;exact hf,λt e b k hf=>by rw[dx _ _ e,C.cO] at hf;exact hf⟩
def Is(h:Inv w zl zb G s)(r:Nat)(p q:Path)(d d' y:C){S:Nat->Nat->Prop}(hq:C.putAt q (G r) y=C.putAt p (G r) d')(hfree:∀t,(G t).free (C.bQ r q))(hE:Ext S w w')(hsub:(G r).sub p=some d)
  (hS:∀b k,S b k->d.fp b k\/w.heap.size<=b)(hok:d'.ok w' (Zf zl zb))(hl:C.iy d d')(hrf:y.rf G)(hdf:y.free (C.bQ r q))
  (cC:∀b k,d'.fp b k->d.fp b k\/((∀t,¬(G t).fp b k)/\¬zl b k/\¬zb b k)):
  (Inv w' zl zb (fK G r (C.putAt p (G r) d')) ((r,X.putAt q (get s r) y.er)::s)/\(∀t,(fK G r (C.putAt p (G r) d') t).val=(G t).val)/\
   ∀t b k,(fK G r (C.putAt p (G r) d') t).fp b k->(t=r/\d'.fp b k)\/(G t).fp b k)/\∀c':C,c'.free (C.bQ r q)->c'.rf G->c'.rf (fK G r (C.putAt p (G r) d')):=by
 have bx:∀{b k},d.fp b k->(G r).fp b k:=λhf=>C.gQ p hsub (h.ok r) hf
 have hZ:∀m b k,Zf zl zb m b k->¬S b k:=λm b k hz hs=>by
  rcases hS b k hs with hs|hs;·exact h.zU r m b k hz (bx hs)
  ·have:=JH h.cJ m b k hz;omega
 obtain⟨i1,i2,i3⟩:=C.Cd (λ_ _ _ h=>h) hE hZ p (G r) d d' (h.ok r) hsub hok hl (λb k hs=>(hS b k hs).imp id λhb hf=>by have:=C.fF _ (h.ok r) b k hf;omega) (λb k hf=>(cC b k hf).imp id λhn=>hn.1 r);have Lf:∀b k,(C.putAt p (G r) d').fp b k->d'.fp b k\/(G r).fp b k:=λb k hf=>(i2 b k hf).imp id λhh=>hh.1
 have hr':∀t,t≠r->∀b k,(C.putAt p (G r) d').fp b k->¬(G t).fp b k:=λt e b k hf=>by
  rcases Lf b k hf with hf|hf
  ·rcases cC b k hf with hf|hf;·exact h.sep r t (λe'=>e e'.symm) b k (bx hf)
   ·exact hf.1 t
  ·exact h.sep r t (λe'=>e e'.symm) b k hf
 have key:∀c':C,c'.free (C.bQ r q)->c'.rf G->c'.rf (fK G r (C.putAt p (G r) d')):=λc' hf hr=>C.l5 (C.bQ r q) (λs' q' y' hk hs=>by
  by_cases e:s'=r;·subst e;rw[dI,<-hq];exact C.IE q q' (G s') y y' (by simpa [C.bQ] using hk) hs
  ·rw[dx _ _ e];exact C.self y' _ q' hs) c' hf hr
 refine⟨⟨⟨λt=>?_,λt=>?_,λt u hne b k hf=>?_,λt b k hf=>?_,λt=>?_,λb k hz=>lg (h.cJ b k hz) hE.size⟩,λt=>?_,λt b k hf=>?_⟩,key⟩
 ·rw[xo];by_cases e:t=r;·subst e;rw[dI,ax rfl,<-hq,C.MN,h.er]
  ·rw[dx _ _ e,aF e];exact h.er t
 ·by_cases e:t=r;·subst e;rw[dI];exact i1
  ·rw[dx _ _ e];refine C.fI hE hZ _ (λb k hf hs=>?_) (h.ok t);rcases hS b k hs with hs|hs;·exact h.sep t r e b k hf (bx hs)
   ·have:=C.fF _ (h.ok t) b k hf;omega
 ·by_cases e:t=r;·subst e;rw[dI] at hf;rw[dx _ _ (λe=>hne e.symm)];exact hr' u (λe=>hne e.symm) b k hf
  ·rw[dx _ _ e] at hf;by_cases e':u=r;·subst e';rw[dI];exact λhc=>hr' t e b k hc hf
   ·rw[dx _ _ e'];exact h.sep t u hne b k hf
 ·by_cases e:t=r
  ·subst e;rw[dI] at hf;rcases Lf b k hf with hf|hf
   ·rcases cC b k hf with hf|hf;·exact h.fz t b k (bx hf)
    ·exact hf.2
   ·exact h.fz t b k hf
  ·rw[dx _ _ e] at hf;exact h.fz t b k hf
 ·by_cases e:t=r
  ·subst e;rw[dI]
   have inner:∀(p':Path) (c':C),c'.free (C.bQ t q)->c'.rf G->(C.putAt p' c' y).rf (fK G t (C.putAt p (G t) d')):=by
    intro p';induction p' with
    |nil=>intro c' _ _;exact key y hdf hrf
    |cons x p' ih=>
     intro c' jq ki;simp only[C.putAt];cases hst:c'.step x with
     |none=>exact key c' jq ki
     |some z=>
      cases c' with
      |row m sz A len cap e=>trivial
      |ptr m g o n c=>
       simp only[C.step] at hst;split at hst
       ·rename_i hq;injection hst with hst
        intro j hj;simp only[C.b8];split;·exact ih z (by rw[<-hst];exact jq _ hq.2) (by rw[<-hst];exact ki _ hq.2)
        ·exact key _ (jq j hj) (ki j hj)
       ·cases hst
      |agg n c=>
       simp only[C.step] at hst;split at hst
       ·rename_i hq;injection hst with hst
        intro j hj;simp only[C.b8];split;·exact ih z (by rw[<-hst];exact jq _ hq.2) (by rw[<-hst];exact ki _ hq.2)
        ·exact key _ (jq j hj) (ki j hj)
       ·cases hst
      |av n c=>
       simp only[C.step] at hst;split at hst
       ·rename_i hq;injection hst with hst
        intro j hj;simp only[C.b8];split;·exact ih z (by rw[<-hst];exact jq _ hq.2) (by rw[<-hst];exact ki _ hq.2)
        ·exact key _ (jq j hj) (ki j hj)
       ·cases hst
      |_=>simp[C.step] at hst
   rw[<-hq] at*;exact inner q (G t) (hfree t) (h.rf t)
  ·rw[dx _ _ e];exact key _ (hfree t) (h.rf t)
 ·by_cases e:t=r;·subst e;rw[dI];exact i3.val
  ·rw[dx _ _ e]
 ·by_cases e:t=r;·subst e;rw[dI] at hf;exact(Lf b k hf).imp (λhh=>⟨rfl,hh⟩) id
  ·rw[dx _ _ e] at hf;exact .inr hf
def U3(h:Inv w zl zb G s)(r:Nat)(p:Path)(d d':C){S:Nat->Nat->Prop}(hfree:∀t,(G t).free (C.bQ r p))(hE:Ext S w w')(hsub:(G r).sub p=some d)
  (hS:∀b k,S b k->d.fp b k\/w.heap.size<=b)(hok:d'.ok w' (Zf zl zb))(hl:C.iy d d')(hrf:d'.rf G)(hdf:d'.free (C.bQ r p))
  (cC:∀b k,d'.fp b k->d.fp b k\/((∀t,¬(G t).fp b k)/\¬zl b k/\¬zb b k)):
  (Inv w' zl zb (fK G r (C.putAt p (G r) d')) ((r,X.putAt p (get s r) d'.er)::s)/\(∀t,(fK G r (C.putAt p (G r) d') t).val=(G t).val)/\
   ∀t b k,(fK G r (C.putAt p (G r) d') t).fp b k->(t=r/\d'.fp b k)\/(G t).fp b k)/\∀c':C,c'.free (C.bQ r p)->c'.rf G->c'.rf (fK G r (C.putAt p (G r) d')):=
 h.Is r p p d d' d' rfl hfree hE hsub hS hok hl hrf hdf cC
def rO{c:C}(h:c.cell):c.val.oneCell'=true:=by
 cases c with
 |agg=>exact h.elim
 |av=>exact h.elim
 |dead=>exact h
 |ref=>exact h
 |az=>exact h
 |cut=>exact h
 |_=>rfl
def Gw(d:C):C.iy d (.dead d.val) where
 val:=rfl
 cell:=λh=>rO h
 gi:=λ_=>trivial
 cU:=λ_=>trivial
 fits:=λ_ _=>trivial
def wh(h:Inv w zl zb G s)(r:Nat)(p:Path)(y:C)(hsub:(G r).sub p=some y):
  ∃(c:C) (G':Nat->C),c.er=y.er.kill r p/\c.val=y.val/\Inv w zl zb G' (jb r p .dead s)/\c.ok w (Zf zl zb)/\c.rf G'/\(c.cell↔y.cell)/\(y.cU->c=y)/\(∀t b k,c.fp b k->¬(G' t).fp b k)/\(∀b k,c.fp b k->(G r).fp b k)/\
   (∀t,(G' t).val=(G t).val)/\(∀t b k,(G' t).fp b k->(G t).fp b k)/\∀b k,c.fp b k↔y.fp b k:=by
 have h1:=h.kill r p;have hs1:((G r).aE (C.bQ r p)).sub p=some (y.aE (C.bQ r p)):=C.jv _ p _ _ (h.ok r) hsub;have qo:=C.iu p hsub (h.ok r);obtain⟨⟨i1,i2,i3⟩,_⟩:=h1.U3 r p (y.aE (C.bQ r p)) (.dead (y.aE (C.bQ r p)).val) (S:=λ_ _=>False) (λt=>C.gL _ _) (Ext.refl _ _) hs1 (λ_ _ hf=>hf.elim) trivial (Gw _) trivial trivial (λ_ _ hf=>hf.elim);have ae4:y.rf G:=Dr p (h.ok r) hsub (h.rf r);refine⟨y.aE (C.bQ r p),_,C.oK r p y,C.jw _ y,i1,C.mU _ _ qo,?_,?_,λhs=>C.yg _ _ hs,?_,?_,λt=>(i2 t).trans (C.jw _ _),λt b k hf=>?_,λb k=>C.cO _ y b k⟩
 ·refine C.l5 (C.bQ r p) (λs' q z hk hs=>?_) _ (C.gL _ _) (C.nT _ _ ae4);by_cases e:s'=r
  ·subst e;rw[dI];rcases C.self z _ q hs with ⟨z',fG,hs'⟩|hno
   ·have hs2:=C.jv (C.bQ s' p) q _ _ (h.ok s') hs';rcases C.IE p q _ (.dead (y.aE (C.bQ s' p)).val) _ (by simpa [C.bQ] using hk) hs2 with ⟨z'',afg,A7⟩|hno;·exact .inl ⟨z'',(fG.off _).trans afg,A7⟩
    ·exact(hno _ ((fG.off _))).elim
   ·exact .inr hno
  ·rw[dx _ _ e];rcases C.self z _ q hs with ⟨z',fG,hs'⟩|hno;·exact .inl ⟨_,fG.off _,C.jv _ q _ _ (h.ok s') hs'⟩
   ·exact .inr hno
 ·cases y with
  |ref v s q=>simp only[C.aE];cases C.bQ r p s q<;>exact kJ
  |az v s q i c=>simp only[C.aE];cases C.bQ r p s q<;>exact kJ
  |cut v s q i c=>simp only[C.aE];cases C.bQ r p s q<;>exact kJ
  |_=>exact kJ
 ·intro t b k hf hf';rw[C.cO] at hf;have LA:=C.gQ p hsub (h.ok r) hf;have hG':Inv w zl zb (fK (λt=>(G t).aE (C.bQ r p)) r (C.putAt p ((G r).aE (C.bQ r p)) (.dead (y.aE (C.bQ r p)).val))) (jb r p .dead s):=i1;by_cases e:t=r
  ·subst e;rw[dI] at hf';obtain⟨_,j2,_⟩:=C.Cd (λ_ _ _ h=>h) (Ext.refl (λ_ _=>False) w) (λm b k _ hs=>hs) p ((G t).aE (C.bQ t p)) _ (.dead (y.aE (C.bQ t p)).val) (h1.ok t) hs1 trivial (Gw _) (λ_ _ hs=>hs.elim) (λ_ _ hs=>hs.elim);rcases j2 b k hf' with hh|⟨_,hn⟩;·exact hh
   ·exact hn (by rw[C.cO];exact hf)
  ·rw[dx _ _ e,C.cO] at hf';exact h.sep r t (λe'=>e e'.symm) b k LA hf'
 ·intro b k hf;rw[C.cO] at hf;exact C.gQ p hsub (h.ok r) hf
 ·rcases i3 t b k hf with ⟨_,hh⟩|hh;·exact hh.elim
  ·rwa [C.cO] at hh
where
 Dr:∀(p:Path) {c d:C},c.ok w (Zf zl zb)->c.sub p=some d->c.rf G->d.rf G
  |[],c,d,_,h,hr=>by simp only[C.sub] at h;injection h with h;subst h;exact hr
  |q::p,c,d,ho,h,hr=>by
   simp only[C.sub] at h
   cases hs:c.step q with
   |none=>rw[hs] at h;cases h
   |some z=>
    rw[hs] at h
    refine Dr p (C.wg hs ho) h ?_
    cases c with
    |row m sz A len cap e=>
     simp only[C.step] at hs
     split at hs
     ·rename_i hq
      injection hs with hs
      have:=(ho.2.2.1 _ _ hq.1 hq.2).2.1
      rw[hs] at this
      cases z with
      |ref=>exact this.elim
      |az=>exact this.elim
      |cut=>exact this.elim
      |ptr=>exact this.elim
      |agg=>exact this.elim
      |av=>exact this.elim
      |fn=>exact this.elim
      |_=>trivial
     ·cases hs
    |ptr m g o n c=>
     simp only[C.step] at hs
     split at hs
     ·rename_i hq
      injection hs with hs
      rw[<-hs]
      exact hr _ hq.2
     ·cases hs
    |agg n c=>
     simp only[C.step] at hs
     split at hs
     ·rename_i hq
      injection hs with hs
      rw[<-hs]
      exact hr _ hq.2
     ·cases hs
    |av n c=>
     simp only[C.step] at hs
     split at hs
     ·rename_i hq
      injection hs with hs
      rw[<-hs]
      exact hr _ hq.2
     ·cases hs
    |_=>simp[C.step] at hs
end Inv
end M
namespace M
open Go Go.RowKit
def Ext.setCell(w:World)(g k:Nat)(v:Value):Ext (λb i=>b=g/\i=k) w (w.setCell ⟨g,k,none⟩ v):=by
 refine⟨rfl,rfl,rfl,by simp[World.setCell],λb hb=>?_⟩;simp only[World.setCell,WQ];by_cases e:g=b
 ·subst e;rw[ax rfl];cases hh:w.heap[g]? with
  |none=>exact .inl rfl
  |some o=>
   cases o with
   |cells arr t fz=>
    refine .inr ⟨arr,arr.setIfInBounds k v,t,fz,rfl,?_,by simp,λi hi=>?_⟩;·simp
    ·rw[Pp];intro e;exact hi ⟨rfl,e.symm⟩
   |_=>exact .inl (by simp)
 ·rw[aF e];exact .inl rfl
def QV(w:World)(g k:Nat)(v u:Value)(h:w.cell? ⟨g,k,none⟩=some u):(w.setCell ⟨g,k,none⟩ v).cell? ⟨g,k,none⟩=some v:=by
 simp only[World.cell?] at h⊢;simp only[World.setCell,WQ,ax];cases hh:w.heap[g]? with
 |none=>simp[hh] at h
 |some o=>
  cases o with
  |cells arr t fz=>
   simp[hh] at h⊢
   have hk:k<arr.size:=by
    rcases fV k arr.size with h'|h';·exact h'
    ·simp[lB h'] at h
   simp[hk]
  |_=>simp[hh] at h
def MJ{sz i j i' j':Nat}(hj:j<sz)(hj':j'<sz)(h:i*sz+j=i'*sz+j'):i=i'/\j=j':=by
 have h1:i=i':=by
  have e1:(i*sz+j) / sz=i:=by rw[q9,Nat.mul_add_div (by omega),Nat.div_eq_of_lt hj];rfl
  have e2:(i'*sz+j') / sz=i':=by rw[q9,Nat.mul_add_div (by omega),Nat.div_eq_of_lt hj'];rfl
  rw[<-e1,<-e2,h]
 subst h1;exact⟨rfl,by omega⟩
def MI:∀(p q:Path),X.pfx p q=true->∃t,q=p++t
 |[],q,_=>⟨q,rfl⟩
 |x::p,[],h=>by simp[X.pfx] at h
 |x::p,y::q,h=>by simp only[X.pfx,aB,en] at h;obtain⟨⟨h1,h2⟩,h3⟩:=h;obtain⟨t,rfl⟩:=MI p q h3;exact⟨t,by rw[fM];congr 1;cases x;cases y;simp only at h1 h2;rw[h1,h2]⟩
namespace C
variable {w:World}{Z:Md->Nat->Nat->Prop}
def Cm:∀(p:Path) {c d o y:C} {x:Nat×Nat},c.sub p=some d->d.step x=some o->putAt (p++[x]) c y=putAt p c (d.bu x y)
 |[],c,d,o,y,x,h,hs=>by
  simp only[sub] at h;injection h with h
  subst h;simp[putAt,hs]
 |q::p,c,d,o,y,x,h,hs=>by
  simp only[sub] at h;cases hst:c.step q with
  |none=>rw[hst] at h;cases h
  |some z=>rw[hst] at h;simp only[fM,putAt,hst,Cm p h hs]
def tI:∀(p:Path) {c d o:C} {x:Nat×Nat},c.sub p=some d->d.step x=some o->c.sub (p++[x])=some o
 |[],c,d,o,x,h,hs=>by
  simp only[sub] at h;injection h with h
  subst h;simp[sub,hs]
 |q::p,c,d,o,x,h,hs=>by
  simp only[sub] at h;cases hst:c.step q with
  |none=>rw[hst] at h;cases h
  |some z=>rw[hst] at h;simp only[fM,sub,hst,gx];exact tI p h hs
def ID:∀(p q:Path) {c d:C},c.sub p=some d->c.sub (p++q)=d.sub q
 |[],q,c,d,h=>by simp only[sub] at h;injection h with h;subst h;rfl
 |x::p,q,c,d,h=>by
  simp only[sub] at h;cases hst:c.step x with
  |none=>rw[hst] at h;cases h
  |some z=>rw[hst] at h;simp only[fM,sub,hst,gx];exact ID p q h
def aiO{c z:C}{x:Nat×Nat}(h:c.step x=some z)(y:C):(c.bu x y).step x=some y:=by
 cases c with
 |row m sz A len cap e=>
  simp only[step] at h⊢;split at h;·rename_i hq;simp[bu,step,hq]
  ·cases h
 |ptr m g o n c=>
  simp only[step] at h⊢;split at h;·rename_i hq;simp[bu,step,hq,b8]
  ·cases h
 |agg n c=>
  simp only[step] at h⊢;split at h;·rename_i hq;simp[bu,step,hq,b8]
  ·cases h
 |av n c=>
  simp only[step] at h⊢;split at h;·rename_i hq;simp[bu,step,hq,b8]
  ·cases h
 |_=>simp[step] at h
def IF:∀(p:Path) {c d d':C},c.sub p=some d->(putAt p c d').sub p=some d'
 |[],c,d,d',h=>rfl
 |q::p,c,d,d',h=>by
  simp only[sub] at h;cases hst:c.step q with
  |none=>rw[hst] at h;cases h
  |some z=>rw[hst] at h;simp only[putAt,hst,sub,aiO hst,gx];exact IF p h
def UP{sz g o len cap:Nat}{e:Nat->Nat->C}{i j:Nat}{y:C}(h:(C.row .own sz (some (g,o,none)) len cap e).ok w Z)(hi:i<len)(hj:j<sz)(hy:y.ok w Z)(hc:y.cell)(hs:y.cU)
  (hZ:∀m k,¬Z m g k)(hd:∀b k,y.fp b k->¬(C.row .own sz (some (g,o,none)) len cap e).fp b k):
  ((C.row .own sz (some (g,o,none)) len cap e).bu (i,j) y).ok (w.setCell ⟨g,o+i*sz+j,none⟩ y.val) Z/\
   ∀b k,((C.row .own sz (some (g,o,none)) len cap e).bu (i,j) y).fp b k->(C.row .own sz (some (g,o,none)) len cap e).fp b k\/y.fp b k:=by
 have hE:=Ext.setCell w g (o+i*sz+j) y.val;have AN:∀m b k,Z m b k->¬(b=g/\k=o+i*sz+j):=λm b k hz hh=>by obtain⟨rfl,_⟩:=hh;exact hZ m k hz
 have kV:∀i' j',i'<len->j'<sz->∀b k,(e i' j').fp b k->b≠g:=λi' j' hi' hj' b k hf hb=>by subst hb;exact(h.2.2.2.2 i' j' hi' hj' b k hf).1 rfl o rfl
 have Bf:∀b k,y.fp b k->b≠g:=λb k hf hb=>by subst hb;exact hd b k hf ⟨rfl,.inl ⟨o,rfl⟩⟩
 obtain⟨h1,h2,h3,h4,h5⟩:=h;refine⟨⟨h1,λi' j' hi' hj'=>?_,λi' j' hi' hj'=>?_,λ_=>?_,λi' j' hi' hj' b k hf=>?_⟩,λb k hf=>?_⟩
 ·obtain⟨g',o',hA,hcell,hz⟩:=h2 i' j' hi' hj';injection hA with hA
  injection hA with e1 e2
  injection e2 with e2
  subst e1;subst e2;refine⟨g,o,rfl,?_,hz⟩;show _=some (if i'=i/\j'=j then y else e i' j').val;by_cases hij:i'=i/\j'=j;·obtain⟨rfl,rfl⟩:=hij;rw[ax ⟨rfl,rfl⟩];exact QV w g _ _ _ hcell
  ·rw[aF hij];refine hE.cell (λhh=>hij ?_) hcell;exact MJ hj' hj (by omega)
 ·show (if i'=i/\j'=j then y else e i' j').cell/\(if i'=i/\j'=j then y else e i' j').cU/\(if i'=i/\j'=j then y else e i' j').fits .own/\(if i'=i/\j'=j then y else e i' j').ok _ Z;by_cases hij:i'=i/\j'=j;·rw[ax hij];refine⟨hc,hs,?_,fI hE AN _ (λb k hf hh=>Bf b k hf hh.1) hy⟩;cases y<;>first|trivial|exact .inl rfl
  ·rw[aF hij];obtain⟨a1,a2,a3,a4⟩:=h3 i' j' hi' hj';exact⟨a1,a2,a3,fI hE AN _ (λb k hf hh=>kV i' j' hi' hj' b k hf hh.1) a4⟩
 ·rcases h4 rfl with h|⟨g',o',arr,t,fz,hA,hh,hsz,hfr⟩;·exact .inl h
  ·injection hA with hA
   injection hA with e1 e2
   injection e2 with e2
   subst e1;subst e2;have hg:g<w.heap.size:=(kL.1 hh).1;rcases hE.block g hg with e'|⟨a1,a2,t',mH,e1,e2,e3,e4⟩;·exact .inr ⟨g,o,arr,t,fz,rfl,e'.trans hh,hsz,λk hk hk'=>(hE.frozen hg).trans (hfr k hk hk')⟩
   ·rw[hh] at e1;injection e1 with e1
    injection e1 with q1 q2 q3
    subst q1;exact .inr ⟨g,o,a2,t',mH,rfl,e2,by omega,λk hk hk'=>(hE.frozen hg).trans (hfr k hk hk')⟩
 ·have hf':(if i'=i/\j'=j then y else e i' j').fp b k:=hf;by_cases hij:i'=i/\j'=j
  ·rw[ax hij] at hf';refine⟨λ_ o' hA=>?_,λi2 j2 hi2 hj2 hne=>?_⟩
   ·injection hA with hA
    injection hA with e1 e2
    exact Bf b k hf' e1.symm
   ·show ¬(if i2=i/\j2=j then y else e i2 j2).fp b k;rw[aF (λhh=>hne (by rw[hij.1,hij.2,hh.1,hh.2]))];intro hk;exact hd b k hf' (kz (h3 i2 j2 hi2 hj2).1 (h3 i2 j2 hi2 hj2).2.2.1 hi2 hj2 hk)
  ·rw[aF hij] at hf';refine⟨(h5 i' j' hi' hj' b k hf').1,λi2 j2 hi2 hj2 hne=>?_⟩;show ¬(if i2=i/\j2=j then y else e i2 j2).fp b k;by_cases hij2:i2=i/\j2=j;·rw[ax hij2];intro hk;exact hd b k hk (kz (h3 i' j' hi' hj').1 (h3 i' j' hi' hj').2.2.1 hi' hj' hf')
   ·rw[aF hij2];exact(h5 i' j' hi' hj' b k hf').2 i2 j2 hi2 hj2 hne
 ·obtain⟨_,hf|⟨i',j',hi',hj',hf⟩⟩:=hf;·exact .inl ⟨rfl,.inl hf⟩
  ·have hf':(if i'=i/\j'=j then y else e i' j').fp b k:=hf;by_cases hij:i'=i/\j'=j;·rw[ax hij] at hf';exact .inr hf'
   ·rw[aF hij] at hf';exact .inl (kz (h3 i' j' hi' hj').1 (h3 i' j' hi' hj').2.2.1 hi' hj' hf')
def Uw{g o n:Nat}{c:Nat->C}{j:Nat}{y:C}(h:(C.ptr .own g o n c).ok w Z)(hj:j<n)(hy:y.ok w Z)(hc:y.cell)
  (hZ:∀m k,o<=k->k<o+n->¬Z m g k)(hd:∀b k,y.fp b k->¬(C.ptr .own g o n c).fp b k):
  ((C.ptr .own g o n c).bu (0,j) y).ok (w.setCell ⟨g,o+j,none⟩ y.val) Z/\
   ∀b k,((C.ptr .own g o n c).bu (0,j) y).fp b k->(C.ptr .own g o n c).fp b k\/y.fp b k:=by
 have hE:=Ext.setCell w g (o+j) y.val;have AN:∀m b k,Z m b k->¬(b=g/\k=o+j):=λm b k hz hh=>by obtain⟨rfl,rfl⟩:=hh;exact hZ m _ (by omega) (by omega) hz
 have kV:∀j',j'<n->∀b k,(c j').fp b k->¬(b=g/\k=o+j):=λj' hj' b k hf hb=>by exact(h.2.2.2 j' hj' b k hf).1 rfl ⟨hb.1,by omega,by omega⟩
 have Bf:∀b k,y.fp b k->¬(b=g/\o<=k/\k<o+n):=λb k hf hb=>hd b k hf ⟨rfl,.inl hb⟩;obtain⟨h1,h2,h3,h4⟩:=h;refine⟨⟨λj' hj'=>?_,lg h2 hE.size,λj' hj'=>?_,λj' hj' b k hf=>?_⟩,λb k hf=>?_⟩
 ·obtain⟨a1,a2,a3⟩:=h1 j' hj';refine⟨?_,a2,λhm=>(hE.frozen h2).trans (a3 hm)⟩;simp only[b8];by_cases hij:j'=j;·subst hij;rw[ax rfl];exact QV w g _ _ _ a1
  ·rw[aF hij];exact hE.cell (λhh=>hij (by omega)) a1
 ·simp only[b8];by_cases hij:j'=j;·rw[ax hij];refine⟨hc,?_,fI hE AN _ (λb k hf hh=>Bf b k hf ⟨hh.1,by omega,by omega⟩) hy⟩;cases y<;>first|trivial|exact .inl rfl
  ·rw[aF hij];obtain⟨a1,a3,a4⟩:=h3 j' hj';exact⟨a1,a3,fI hE AN _ (λb k hf hh=>kV j' hj' b k hf hh) a4⟩
 ·simp only[b8] at hf⊢;by_cases hij:j'=j;·rw[ax hij] at hf;refine⟨λ_ hA=>Bf b k hf hA,λj2 hj2 hne=>?_⟩;rw[aF (λhh=>hne (by rw[hij,hh]))];intro hk;exact hd b k hf (kY (h3 j2 hj2).1 (h3 j2 hj2).2.1 hj2 hk)
  ·rw[aF hij] at hf;refine⟨λ_=>(h4 j' hj' b k hf).1 rfl,λj2 hj2 hne=>?_⟩;by_cases hij2:j2=j;·rw[ax hij2];intro hk;exact hd b k hk (kY (h3 j' hj').1 (h3 j' hj').2.1 hj' hf)
   ·rw[aF hij2];exact(h4 j' hj' b k hf).2 j2 hj2 hne
 ·obtain⟨_,hf|⟨j',hj',hf⟩⟩:=hf;·exact .inl ⟨rfl,.inl hf⟩
  ·simp only[b8] at hf;by_cases hij:j'=j;·rw[ax hij] at hf;exact .inr hf
   ·rw[aF hij] at hf;exact .inl (kY (h3 j' hj').1 (h3 j' hj').2.1 hj' hf)
end C
inductive fm (d:C) (i c:Nat) (y:C):Nat->Nat->Prop where
 |row {sz g o len cap e} (h:d=.row .own sz (some (g,o,none)) len cap e) (hi:i<len) (hc:c<sz) (hs:y.cU):fm d i c y g (o+i*sz+c)
 |ptr {g o n f} (h:d=.ptr .own g o n f) (hi:i=0) (hc:c<n):fm d i c y g (o+c)
def fm.off(f:Nat->Path->Bool){d y:C}{i c g k:Nat}(h:fm d i c y g k):fm (d.aE f) i c y g k:=by
 cases h with
 |row h hi hc hs=>subst h;exact .row rfl hi hc hs
 |ptr h hi hc=>subst h;exact .ptr rfl hi hc
def fm.bu{d y y0 z:C}{i c g k i' c' g' k':Nat}(h:fm d i c y g k)(h':fm d i' c' y0 g' k'):fm (d.bu (i,c) z) i' c' y0 g' k':=by
 cases h' with
 |row h' hi' iS hs'=>subst h';exact .row rfl hi' iS hs'
 |ptr h' hi' iS=>subst h';exact .ptr rfl hi' iS
namespace Inv
variable {w w':World}{zl zb:Nat->Nat->Prop}{G:Nat->C}{s:ah}
def store(h:Inv w zl zb G s)(r:Nat)(p:Path)(i c:Nat)(d y:C)(g k:Nat)(hsub:(G r).sub p=some d)(hsp:fm d i c y g k)(hy:y.ok w (Zf zl zb))(hcell:y.cell)(hrf:y.rf G)
  (hsep:∀t b k,y.fp b k->¬(G t).fp b k)(hfz:∀b k,y.fp b k->¬zl b k/\¬zb b k):
  ∃G',Inv (w.setCell ⟨g,k,none⟩ y.val) zl zb G' (setCell r p i c y.er s)/\(∀t,(G' t).val=(G t).val)/\(∀t b k,(G' t).fp b k->y.fp b k\/(G t).fp b k)/\d.fp g k/\(∃v,w.cell? ⟨g,k,none⟩=some v)/\w.frozen? ⟨g,k,none⟩=false/\
   (∀c':C,c'.rf G->(bif oU r p i c s then c'.aE (C.bQ r (p++[(i,c)])) else c').rf G')/\
   ∃d',(G' r).sub p=some d'/\∀i' c' y' g' k',fm d i' c' y' g' k'->fm d' i' c' y' g' k':=by
 have xq:=C.iu p hsub (h.ok r)
 obtain⟨old,hold⟩:∃old,d.step (i,c)=some old:=by
  cases hsp with
  |row hd hi hc hs=>subst hd;exact⟨_,ax (And.intro hi hc)⟩
  |ptr hd hi hc=>subst hd;exact⟨_,ax (And.intro hi hc)⟩
 have Li:d.fp g k:=by
  cases hsp with
  |row hd hi hc hs=>subst hd;exact⟨rfl,.inl ⟨_,rfl⟩⟩
  |ptr hd hi hc=>subst hd;exact⟨rfl,.inl ⟨rfl,by omega,by omega⟩⟩
 have bx:∀{b k},d.fp b k->(G r).fp b k:=λhf=>C.gQ p hsub (h.ok r) hf;have Fp:∀m b k,d.fp b k->¬Zf zl zb m b k:=λm b k hf hz=>h.zU r m b k hz (bx hf);have Bd:∀b k,y.fp b k->¬d.fp b k:=λb k hf hd=>hsep r b k hf (bx hd)
 have hnew:(d.bu (i,c) y).ok (w.setCell ⟨g,k,none⟩ y.val) (Zf zl zb)/\∀b k,(d.bu (i,c) y).fp b k->d.fp b k\/y.fp b k:=by
  cases hsp with
  |row hd hi hc hs=>subst hd;exact C.UP xq hi hc hy hcell hs (λm k hz=>Fp m _ k ⟨rfl,.inl ⟨_,rfl⟩⟩ hz) Bd
  |ptr hd hi hc=>subst hd;subst hi;exact C.Uw xq hc hy hcell (λm k h1 h2 hz=>Fp m _ k ⟨rfl,.inl ⟨rfl,h1,h2⟩⟩ hz) Bd
 have hread:(∃v,w.cell? ⟨g,k,none⟩=some v)/\w.frozen? ⟨g,k,none⟩=false:=by
  cases hsp with
  |row hd hi hc hs=>
   rename_i sz o len cap e;subst hd;obtain⟨h1,h2,h3,h4,h5⟩:=xq;obtain⟨g',o',hA,hcl,_⟩:=h2 i c hi hc;injection hA with hA
   injection hA with e1 e2
   injection e2 with e2
   subst e1;subst e2;refine⟨⟨_,hcl⟩,?_⟩;rcases h4 rfl with ⟨hn,_⟩|⟨g',o',arr,t,fz,hA,hh,hsz,hfr⟩;·cases hn
   ·injection hA with hA
    injection hA with e1 e2
    injection e2 with e2
    subst e1;subst e2;refine hfr _ (by omega) ?_;have:(i+1)*sz<=cap*sz:=oo _ (by omega);rw[fk] at this;omega
  |ptr hd hi hc=>subst hd;obtain⟨a1,_,a3⟩:=xq.1 c hc;exact⟨⟨_,a1⟩,a3 rfl⟩
 have hE:=Ext.setCell w g k y.val;have hS:∀b i',b=g/\i'=k->d.fp b i'\/w.heap.size<=b:=λb i' hh=>.inl (by rw[hh.1,hh.2];exact Li);have hq:=C.tI p hsub hold;have aeN:look s r (p++[(i,c)])=some old.er:=by simp only[look];rw[<-h.er,C.gP,hq];rfl
 have like:∀(d:C) (y:C),C.iy d (d.bu (i,c) y)\/(∃n f,d=.agg n f)\/(∃n f,d=.av n f):=by
  intro d y;cases d with
  |row=>exact .inl ⟨rfl,λh=>h,λh=>h,λh=>h,λ_ h=>h⟩
  |ptr=>exact .inl ⟨rfl,λh=>h,λh=>h,λh=>h,λ_ h=>h⟩
  |agg n f=>exact .inr (.inl ⟨n,f,rfl⟩)
  |av n f=>exact .inr (.inr ⟨n,f,rfl⟩)
  |_=>exact .inl ⟨rfl,λh=>h,λh=>h,λh=>h,λ_ h=>h⟩
 have sA:∀y,C.iy d (d.bu (i,c) y):=by
  intro y;rcases like d y with hl|⟨n,f,hd⟩|⟨n,f,hd⟩;·exact hl
  ·cases hsp with
   |row hd'=>rw[hd] at hd';cases hd'
   |ptr hd'=>rw[hd] at hd';cases hd'
  ·cases hsp with
   |row hd'=>rw[hd] at hd';cases hd'
   |ptr hd'=>rw[hd] at hd';cases hd'
 have xB:oU r p i c s=old.er.iY:=by unfold oU;rw[aeN]
 unfold setCell;rw[xB];cases hr:old.er.iY with
 |false=>
  have hno:∀c':C,c'.rf G->c'.free (C.bQ r (p++[(i,c)])):=by
   intro c'
   have none:∀(q:Path) (z:C),X.pfx (p++[(i,c)]) q=true->(G r).sub q=some z->(∀m sz A len cap e,z≠.row m sz A len cap e)/\∀m g o n f,z≠.ptr m g o n f:=by
    intro q z hp hz;obtain⟨q',rfl⟩:=MI _ _ hp;rw[C.ID _ _ hq] at hz;cases q' with
    |nil=>
     simp only[C.sub] at hz;injection hz with hz
     subst hz;constructor;·intro m sz A len cap e e';rw[e'] at hr;simp[C.er,X.iY] at hr
     ·intro m g o n f e';rw[e'] at hr;simp[C.er,X.iY] at hr
    |cons x q'=>cases old<;>first|(simp[C.er,X.iY] at hr;done)|(simp[C.sub,C.step] at hz;done)
   induction c' with
   |ref v r' q=>
    intro hrf;obtain⟨y,z,hs,hF,hv,m,sz,A,len,cap,e,rfl⟩:=hrf;simp only[C.free,C.bQ];cases hk:(r'==r && X.pfx (p++[(i,c)]) q) with
    |false=>rfl
    |true=>simp only[aB,en] at hk;obtain⟨rfl,hk⟩:=hk;cases hF;exact((none q _ hk hs).1 _ _ _ _ _ _ rfl).elim
   |az v r' q i' c'=>
    intro hrf;obtain⟨y,hs,hy⟩:=hrf;simp only[C.free,C.bQ];cases hk:(r'==r && X.pfx (p++[(i,c)]) q) with
    |false=>rfl
    |true=>
     simp only[aB,en] at hk;obtain⟨rfl,hk⟩:=hk;rcases hy with ⟨m,sz,g,o,len,cap,e,rfl,hv⟩|⟨m,g,o,n,cc,rfl,hv⟩;·exact((none q _ hk hs).1 _ _ _ _ _ _ rfl).elim
     ·exact((none q _ hk hs).2 _ _ _ _ _ rfl).elim
   |cut v r' q lo hi=>
    intro hrf;obtain⟨m,sz,A,len,cap,e,A',cap',hs,_⟩:=hrf;simp only[C.free,C.bQ];cases hk:(r'==r && X.pfx (p++[(i,c)]) q) with
    |false=>rfl
    |true=>simp only[aB,en] at hk;obtain⟨rfl,hk⟩:=hk;exact((none q _ hk hs).1 _ _ _ _ _ _ rfl).elim
   |ptr m g o n f ih=>exact λhrf j hj=>ih j (hrf j hj)
   |agg n f ih=>exact λhrf j hj=>ih j (hrf j hj)
   |av n f ih=>exact λhrf j hj=>ih j (hrf j hj)
   |fn _ n f ih=>exact λhrf j hj=>ih j (hrf j hj)
   |_=>exact λ_=>trivial
  obtain⟨⟨i1,i2,i3⟩,i4⟩:=h.Is r p (p++[(i,c)]) d (d.bu (i,c) y) y (C.Cm p hsub hold) (λt=>hno _ (h.rf t)) hE hsub hS hnew.1 (sA y) hrf (hno _ hrf)
   (λb k hf=>(hnew.2 b k hf).imp id λhf=>⟨λt=>hsep t b k hf,hfz b k hf⟩)
  refine⟨_,i1,i2,λt b k hf=>?_,Li,hread.1,hread.2,λc' hr=>i4 c' (hno c' hr) hr,_,by rw[dI];exact C.IF p hsub,λi' c' y' g' k' hs=>fm.bu hsp hs⟩;rcases i3 t b k hf with ⟨ht,hf'⟩|hf';·subst ht;exact(hnew.2 b k hf').symm.imp id bx
  ·exact .inr hf'
 |true=>
  have h1:=h.kill r (p++[(i,c)]);let f:=C.bQ r (p++[(i,c)]);have Lu:((G r).aE f).sub p=some (d.aE f):=C.jv f p _ _ (h.ok r) hsub;have aeT:(d.aE f).step (i,c)=some (old.aE f):=by have:=C.jv f [(i,c)] d old xq (by simp[C.sub,hold]);simpa [C.sub] using this
  have hval:∀b k,(y.aE f).fp b k↔y.fp b k:=λb k=>C.cO f y b k
  have hnew1:((d.aE f).bu (i,c) (y.aE f)).ok (w.setCell ⟨g,k,none⟩ y.val) (Zf zl zb)/\∀b k,((d.aE f).bu (i,c) (y.aE f)).fp b k->(d.aE f).fp b k\/(y.aE f).fp b k:=by
   have S9:∀b k,(y.aE f).fp b k->¬(d.aE f).fp b k:=λb k hf hd=>Bd b k ((hval b k).1 hf) ((C.cO f d b k).1 hd);have SM:=C.mU f d xq;have hy1:=C.mU f y hy;have hc1:=C.GL f y hcell;rw[<-C.jw f y];cases hsp with
   |row hd hi hc hs=>subst hd;have e1:C.aE f y=y:=C.yg f y hs;exact C.UP SM hi hc hy1 hc1 (by rw[e1];exact hs) (λm k hz=>Fp m _ k ⟨rfl,.inl ⟨_,rfl⟩⟩ hz) S9
   |ptr hd hi hc=>subst hd;subst hi;exact C.Uw SM hc hy1 hc1 (λm k h1 h2 hz=>Fp m _ k ⟨rfl,.inl ⟨rfl,h1,h2⟩⟩ hz) S9
  have aeL:C.iy (d.aE f) ((d.aE f).bu (i,c) (y.aE f)):=by
   rcases like (d.aE f) (y.aE f) with hl|⟨n,f',hd⟩|⟨n,f',hd⟩;·exact hl
   ·cases hsp with
    |row hd'=>rw[hd'] at hd;cases hd
    |ptr hd'=>rw[hd'] at hd;cases hd
   ·cases hsp with
    |row hd'=>rw[hd'] at hd;cases hd
    |ptr hd'=>rw[hd'] at hd;cases hd
  have ae5:(y.aE f).rf λt=>(G t).aE f:=C.l5 f (λs' q z hk hs=>by
   rcases C.self z _ q hs with ⟨z',fG,hs'⟩|hno;·exact .inl ⟨_,fG.off f,C.jv f q _ _ (h.ok s') hs'⟩
   ·exact .inr hno) _ (C.gL f _) (C.nT f _ hrf)
  obtain⟨⟨i1,i2,i3⟩,i4⟩:=h1.Is r p (p++[(i,c)]) (d.aE f) _ (y.aE f) (C.Cm p Lu aeT) (λt=>C.gL _ _) hE Lu (λb k hh=>(hS b k hh).imp (λhh=>(C.cO f d b k).2 hh) id) hnew1.1 aeL ae5 (C.gL _ _)
   (λb k hf=>(hnew1.2 b k hf).imp id λhf=>⟨λt hf'=>hsep t b k ((hval b k).1 hf) ((C.cO f _ b k).1 hf'),hfz b k ((hval b k).1 hf)⟩)
  rw[C.oK] at i1
  refine⟨_,i1,λt=>(i2 t).trans (C.jw f _),λt b k hf=>?_,Li,hread.1,hread.2,λc' hr=>i4 _ (C.gL f c') (C.l5 f (λs' q z hk hs=>by
   rcases C.self z _ q hs with ⟨z',fG,hs'⟩|hno;·exact .inl ⟨_,fG.off f,C.jv f q _ _ (h.ok s') hs'⟩
   ·exact .inr hno) _ (C.gL f _) (C.nT f _ hr)),_,by rw[dI];exact C.IF p Lu,λi' c' y' g' k' hs=>fm.bu (fm.off f hsp) (fm.off f hs)⟩
  rcases i3 t b k hf with ⟨ht,hf'⟩|hf'
  ·subst ht;rcases hnew1.2 b k hf' with hf'|hf';·exact .inr (bx ((C.cO f d b k).1 hf'))
   ·exact .inl ((hval b k).1 hf')
  ·exact .inr ((C.cO f _ b k).1 hf')
end Inv
end M
namespace M
open Go Go.RowKit
structure Ctx where
 w0:World
 F0:Nat->Nat->Prop
 pT:Nat->Nat->Prop
 zb:Nat->Nat->Prop
 nt:Nat
 args:List Value
abbrev base:Nat:=100000
structure Tr [B:Bs] (c:Ctx) (w:World) (zl:Nat->Nat->Prop) (G:Nat->C):Prop where
 ext:Ext c.F0 c.w0 w
 dom:∀t b k,(G t).fp b k->c.F0 b k\/c.w0.heap.size<=b
 pT:∀b k,c.pT b k->zl b k
 zl:∀b k,zl b k->c.pT b k\/c.F0 b k\/c.w0.heap.size<=b
 gl:D8 c.w0 c.pT c.zb
 AH:∀b k,b<B.W0.heap.size->¬c.F0 b k
structure St [Bs] (c:Ctx) (G:Nat->C) (zl:Nat->Nat->Prop) (s:ah) (a:Act) (w:World):Prop where
 inv:Inv w zl c.zb G s
 val:∀t,t<base->(G t).val=a.tmps.getD t undef
 size:a.tmps.size=c.nt
 small:c.nt<=base
 defers:a.defers=[]
 tr:Tr c w zl G
 args:∀i v,c.args[i]?=some v->(G (base+i)).val=v
namespace C
def jk(n:Nat)(p:Path):C->C
 |.row .own sz A len cap e=>.ref (C.row .own sz A len cap e).val n p
 |.ptr .own g o m c=>.az (C.ptr .own g o m c).val n p 0 0
 |x=>x
def gS(n:Nat)(p:Path):C->C
 |.agg m c=>.agg m λj=>(c j).jk n (p++[(0,j)])
 |x=>x.jk n p
def alias(n:Nat)(p:Path):C->C
 |.av m c=>.av m λj=>(c j).gS n (p++[(0,j)])
 |x=>x.gS n p
def JK(n:Nat)(p:Path)(c:C):(c.jk n p).er=M.jk n p c.er:=by
 cases c with
 |row m=>cases m<;>rfl
 |ptr m=>cases m<;>rfl
 |_=>rfl
def wN(n:Nat)(p:Path)(i:Nat):∀(l:List Nat) (k:Nat) (f:Nat->C),l=(List.range l.length).map (· +k)->M.uc n p i k (l.map λj=>(f j).er)=l.map λj=>((f j).jk n (p++[(i,j)])).er
 |[],k,f,h=>rfl
 |x::l,k,f,h=>by
  have hx:x=k:=by simp only[cw,zG,bn,nq] at h;exact(Jr h).1
  have hl:l=(List.range l.length).map (· +(k+1)):=by simp only[cw,zG,bn,nq,cP] at h;have:=(Jr h).2;rw[this];simp only[cV,tU];apply cm;intro j _;show j+1+k=j+(k+1);omega
  simp only[bn,M.uc];rw[wN n p i l (k+1) f hl,JK,hx]
def UC(m:Nat):List.range m=(List.range (List.range m).length).map (· +0):=by simp
def Ec(n:Nat)(p:Path)(c:C):(c.gS n p).er=M.gS n p c.er:=by
 cases c with
 |agg m c=>simp only[gS,er,M.gS];rw[wN n p 0 (List.range m) 0 c (UC m)]
 |row m=>exact JK n p _
 |ptr m=>exact JK n p _
 |_=>rfl
def PF(n:Nat)(p:Path):∀(l:List Nat) (k:Nat) (f:Nat->C),l=(List.range l.length).map (· +k)->M.Ac n p k (l.map λj=>(f j).er)=l.map λj=>((f j).gS n (p++[(0,j)])).er
 |[],k,f,h=>rfl
 |x::l,k,f,h=>by
  have hx:x=k:=by simp only[cw,zG,bn,nq] at h;exact(Jr h).1
  have hl:l=(List.range l.length).map (· +(k+1)):=by simp only[cw,zG,bn,nq,cP] at h;have:=(Jr h).2;rw[this];simp only[cV,tU];apply cm;intro j _;show j+1+k=j+(k+1);omega
  simp only[bn,M.Ac];rw[PF n p l (k+1) f hl,Ec,hx]
def PI(n:Nat)(p:Path)(c:C):(c.alias n p).er=M.alias n p c.er:=by
 cases c with
 |av m c=>simp only[alias,er,M.alias];rw[PF n p (List.range m) 0 c (UC m)]
 |row m sz A len cap e=>exact Ec n p (.row m sz A len cap e)
 |ptr m g o k c=>exact Ec n p (.ptr m g o k c)
 |agg m c=>exact Ec n p (.agg m c)
 |_=>rfl
def Ab(n:Nat)(p:Path)(c:C):(c.jk n p).val=c.val:=by
 cases c with
 |row m=>cases m<;>rfl
 |ptr m=>cases m<;>rfl
 |_=>rfl
def Ed(n:Nat)(p:Path)(c:C):(c.gS n p).val=c.val:=by
 cases c with
 |agg m c=>simp only[gS,val];congr 2;exact cm λj _=>Ab _ _ _
 |row m=>exact Ab n p _
 |ptr m=>exact Ab n p _
 |_=>rfl
def PJ(n:Nat)(p:Path)(c:C):(c.alias n p).val=c.val:=by
 cases c with
 |av m c=>simp only[alias,val];congr 2;exact cm λj _=>Ed _ _ _
 |row m sz A len cap e=>exact Ed n p (.row m sz A len cap e)
 |ptr m g o k c=>exact Ed n p (.ptr m g o k c)
 |agg m c=>exact Ed n p (.agg m c)
 |_=>rfl
variable {w:World}{Z:Md->Nat->Nat->Prop}{G:Nat->C}
def z7(n:Nat)(p:Path)(c:C)(hc:(∀m f,c≠.agg m f)/\∀m f,c≠.av m f)(b k:Nat):¬(c.jk n p).fp b k:=by
 cases c with
 |row m=>cases m<;>first|exact λh=>h|exact λh=>by cases h.1
 |ptr m=>cases m<;>first|exact λh=>h|exact λh=>by cases h.1
 |agg m f=>exact(hc.1 m f rfl).elim
 |av m f=>exact(hc.2 m f rfl).elim
 |_=>exact λh=>h
def Kj{c:C}(h:c.cell):(∀m f,c≠.agg m f)/\∀m f,c≠.av m f:=by constructor<;>(intro m f e;subst e;exact h)
def z8(n:Nat)(p:Path)(c:C)(h:c.ok w Z):(c.jk n p).ok w Z:=by
 cases c with
 |row m=>cases m<;>first|trivial|exact h
 |ptr m=>cases m<;>first|trivial|exact h
 |_=>exact h
def JJ(n:Nat)(p:Path)(c:C)(h:c.cell):(c.jk n p).cell:=by
 cases c with
 |row m=>cases m<;>first|rfl|exact h
 |ptr m=>cases m<;>first|rfl|exact h
 |_=>exact h
def Aa(n:Nat)(p:Path)(c:C)(hs:(G n).sub p=some c)(h:c.rf G):(c.jk n p).rf G:=by
 cases c with
 |row m sz A len cap e=>cases m<;>first|exact⟨_,_,hs,.row .own .own sz A len cap e e,rfl,_,_,_,_,_,_,rfl⟩|trivial
 |ptr m g o k c=>cases m<;>first|exact⟨_,hs,.inr ⟨_,_,_,_,_,rfl,rfl,by simp[val]⟩⟩|exact h
 |_=>exact h
def T0{n:Nat}{f:Nat->C}(h:∀j,j<n->∀b k,¬(f j).fp b k):∀j,j<n->∀b k,(f j).fp b k->∀j',j'<n->j≠j'->¬(f j').fp b k:=λj hj b k hf=>(h j hj b k hf).elim
def Eb(n:Nat)(p:Path)(c:C)(hnt:∀m f,c≠.av m f)(hs:(G n).sub p=some c)(ho:c.ok w Z)(hr:c.rf G):(c.gS n p).ok w Z/\(c.gS n p).rf G/\∀b k,¬(c.gS n p).fp b k:=by
 cases c with
 |agg m f=>have cC:∀j,j<m->∀b k,¬((f j).jk n (p++[(0,j)])).fp b k:=λj hj=>z7 _ _ _ (Kj (ho.1 j hj).1);refine⟨⟨λj hj=>⟨JJ _ _ _ (ho.1 j hj).1,z8 _ _ _ (ho.1 j hj).2⟩,T0 cC⟩,λj hj=>Aa _ _ _ ?_ (hr j hj),λb k ⟨j,hj,hf⟩=>cC j hj b k hf⟩;exact tI p hs (by simp[step,hj])
 |av m f=>exact(hnt m f rfl).elim
 |row m sz A len cap e=>exact⟨z8 n p _ ho,Aa n p _ hs hr,z7 n p _ ⟨λ_ _ e=>(by cases e),λ_ _ e=>(by cases e)⟩⟩
 |ptr m g o k c=>exact⟨z8 n p _ ho,Aa n p _ hs hr,z7 n p _ ⟨λ_ _ e=>(by cases e),λ_ _ e=>(by cases e)⟩⟩
 |_=>exact⟨ho,hr,λb k hf=>hf⟩
def YC(n:Nat)(p:Path)(c:C)(h:c.gi):(c.gS n p).gi:=by
 cases c with
 |av=>exact h.elim
 |row m=>cases m<;>trivial
 |ptr m=>cases m<;>trivial
 |_=>trivial
def PG(n:Nat)(c:C)(hs:G n=c)(ho:c.ok w Z)(hr:c.rf G):(c.alias n []).ok w Z/\(c.alias n []).rf G/\∀b k,¬(c.alias n []).fp b k:=by
 have hs':(G n).sub []=some c:=by rw[hs];rfl
 cases c with
 |av m f=>
  have key:∀j,j<m->((f j).gS n ([]++[(0,j)])).ok w Z/\((f j).gS n ([]++[(0,j)])).rf G/\∀b k,¬((f j).gS n ([]++[(0,j)])).fp b k:=λj hj=>
   Eb n _ (f j) (λm' f' e=>by have:=(ho.1 j hj).1;rw[e] at this;exact this) (tI [] hs' (by simp[step,hj])) (ho.1 j hj).2 (hr j hj)
  refine⟨⟨λj hj=>⟨?_,(key j hj).1⟩,T0 λj hj=>(key j hj).2.2⟩,λj hj=>(key j hj).2.1,λb k ⟨j,hj,hf⟩=>(key j hj).2.2 b k hf⟩;exact YC _ _ _ (ho.1 j hj).1
 |row m sz A len cap e=>exact Eb n [] _ (λ_ _ e=>(by cases e)) hs' ho hr
 |ptr m g o k c=>exact Eb n [] _ (λ_ _ e=>(by cases e)) hs' ho hr
 |agg m c=>exact Eb n [] _ (λ_ _ e=>(by cases e)) hs' ho hr
 |_=>exact⟨ho,hr,λb k hf=>hf⟩
end C
end M
namespace M
open Go Go.RowKit
variable [Bs]
namespace C
def plain:C->Prop
 |.dead v=>v.oneCell'=true
 |.int _ _=>True
 |.bool _=>True
 |.str _=>True
 |.row _ _ _ _ _ _=>True
 |_=>False
def lY{c:C}(h:c.plain):c.cell:=by cases c<;>first|exact h|exact h.elim
def Ci{c:C}(h:c.plain):c.cU:=by cases c<;>first|exact h|exact h.elim|trivial
def oW{c:C}(h:c.plain)(G:Nat->C):c.rf G:=by cases c<;>first|exact h.elim|trivial
def ML{c:C}(h:c.plain)(t:Nat->Path->Bool):c.aE t=c:=yg t c (Ci h)
def agY(t:Nat->Path->Bool)(v:Value)(s:Nat)(q:Path)(x:Nat×Nat):(C.aE t (.ref v s q)).step x=none:=by simp only[aE];cases t s q<;>rfl
def agU(t:Nat->Path->Bool)(v:Value)(s:Nat)(q:Path)(i c:Nat)(x:Nat×Nat):(C.aE t (.az v s q i c)).step x=none:=by simp only[aE];cases t s q<;>rfl
def agV(t:Nat->Path->Bool)(v:Value)(s:Nat)(q:Path)(i c:Nat)(x:Nat×Nat):(C.aE t (.cut v s q i c)).step x=none:=by simp only[aE];cases t s q<;>rfl
def Vi{c z:C}{x:Nat×Nat}(h:c.step x=some z)(y:C):(c.bu x y).step x=some y:=by
 cases c with
 |row m sz A len cap e=>
  simp only[step] at h⊢;split at h;·rename_i hq;simp[bu,step,hq]
  ·cases h
 |ptr m g o n c=>
  simp only[step] at h⊢;split at h;·rename_i hq;simp[bu,step,hq,b8]
  ·cases h
 |agg n c=>
  simp only[step] at h⊢;split at h;·rename_i hq;simp[bu,step,hq,b8]
  ·cases h
 |av n c=>
  simp only[step] at h⊢;split at h;·rename_i hq;simp[bu,step,hq,b8]
  ·cases h
 |_=>simp[step] at h
def Vl:∀(p q:Path) (c d y:C),c.sub p=some d->(putAt p c (.dead d.val)).sub q=some y->∃y',c.sub q=some y'/\y'.val=y.val/\(y'.plain->y.plain)
 |[],[],c,d,y,h,hy=>by
  simp only[sub] at h;injection h with h
  subst h;simp only[putAt,sub] at hy;injection hy with hy
  subst hy;exact⟨_,rfl,rfl,λhp=>Inv.rO (lY hp)⟩
 |[],q::t,c,d,y,h,hy=>by simp[putAt,sub,step] at hy
 |x::p,[],c,d,y,h,hy=>by
  simp only[sub] at h;cases hst:c.step x with
  |none=>rw[hst] at h;cases h
  |some z=>
   rw[hst] at h;simp only[putAt,hst,sub] at hy;injection hy with hy
   subst hy;have hv:=(Ug p z d h);exact⟨c,rfl,((iy.bu c x z _ hst hv).val).symm,λhp=>by cases c<;>first|exact hp.elim|trivial|(simp[step] at hst)⟩
 |x::p,q::t,c,d,y,h,hy=>by
  simp only[sub] at h;cases hst:c.step x with
  |none=>rw[hst] at h;cases h
  |some z=>
   rw[hst] at h;simp only[putAt,hst] at hy;simp only[sub] at hy⊢;by_cases Bc:x=q;·subst Bc;rw[hst];have hs:(c.bu x (putAt p z (.dead d.val))).step x=some (putAt p z (.dead d.val)):=Vi hst _;rw[hs] at hy;exact Vl p t z d y h hy
   ·have hs:(c.bu x (putAt p z (.dead d.val))).step q=c.step q:=by
     cases c with
     |row m sz A len cap e=>
      simp only[step,bu];split;·rw[aF];intro hh;exact Bc (by cases x;cases q;simp only at hh;rw[hh.1,hh.2])
      ·rfl
     |ptr m g o n c=>
      simp only[step] at hst;split at hst
      ·rename_i hx;simp only[step,bu,b8];split;·rename_i hq;rw[aF];intro hh;exact Bc (by cases x;cases q;simp only at hh hx hq;rw[hh,hx.1,hq.1])
       ·rfl
      ·cases hst
     |agg n c=>
      simp only[step] at hst;split at hst
      ·rename_i hx;simp only[step,bu,b8];split;·rename_i hq;rw[aF];intro hh;exact Bc (by cases x;cases q;simp only at hh hx hq;rw[hh,hx.1,hq.1])
       ·rfl
      ·cases hst
     |av n c=>
      simp only[step] at hst;split at hst
      ·rename_i hx;simp only[step,bu,b8];split;·rename_i hq;rw[aF];intro hh;exact Bc (by cases x;cases q;simp only at hh hx hq;rw[hh,hx.1,hq.1])
       ·rfl
      ·cases hst
     |_=>simp[step] at hst
    rw[hs] at hy;cases hq:c.step q with
    |none=>rw[hq] at hy;cases hy
    |some z'=>rw[hq] at hy;exact⟨y,hy,rfl,λhp=>hp⟩
where
 Ug:∀(p:Path) (z d:C),z.sub p=some d->(putAt p z (.dead d.val)).val=z.val
  |[],z,d,h=>by simp only[sub] at h;injection h with h;subst h;rfl
  |x::p,z,d,h=>by
   simp only[sub] at h
   cases hst:z.step x with
   |none=>rw[hst] at h;cases h
   |some z'=>
    rw[hst] at h
    simp only[putAt,hst]
    exact(iy.bu z x z' _ hst (Ug p z' d h)).val
end C
structure fE (w:World) (zl zb:Nat->Nat->Prop) (G:Nat->C) (c:C) (G':Nat->C) (s':ah):Prop where
 inv:Inv w zl zb G' s'
 ok:c.ok w (Zf zl zb)
 rf:c.rf G'
 sep:∀t b k,c.fp b k->¬(G' t).fp b k
 fz:∀b k,c.fp b k->¬zl b k/\¬zb b k
 val:∀t,(G' t).val=(G t).val
 dom:∀b k,c.fp b k->∃t,(G t).fp b k
 mono:∀t b k,(G' t).fp b k->(G t).fp b k
variable {w:World}{zl zb:Nat->Nat->Prop}{G:Nat->C}{s:ah}
def fE.self(h:Inv w zl zb G s){c:C}(ho:c.ok w (Zf zl zb))(hr:c.rf G)(hn:∀b k,¬c.fp b k):fE w zl zb G c G s:=
 ⟨h,ho,hr,λt b k hf=>(hn b k hf).elim,λb k hf=>(hn b k hf).elim,λ_=>rfl,λb k hf=>(hn b k hf).elim,λ_ _ _ hf=>hf⟩
def weak(G:Nat->C)(v:Value)(r:Nat)(p:Path):Prop:=∀y,(G r).sub p=some y->y.val=v/\y.plain
def Dz{v:Value}{r:Nat}{p:Path}(h:(C.ref v r p).rf G):weak G v r p:=by
 obtain⟨y,z,hs,hF,hv,m,sz,A,len,cap,e,rfl⟩:=h;intro y' hy';rw[hs] at hy';injection hy' with hy'
 subst hy';cases hF;exact⟨hv,trivial⟩
def TX(h:Inv w zl zb G s){v:Value}{r:Nat}{p:Path}(hw:weak G v r p)(hv:v.oneCell'=true):
  ∃c G',c.er=(move r p s).1/\c.val=v/\c.plain/\fE w zl zb G c G' (move r p s).2/\∀v' r' p',weak G v' r' p'->weak G' v' r' p':=by
 unfold move look;rw[<-h.er,C.gP];cases hs:(G r).sub p with
 |none=>exact⟨.dead v,G,rfl,rfl,hv,fE.self h trivial trivial (λ_ _ hf=>hf),λ_ _ _ hh=>hh⟩
 |some y=>
  obtain⟨oH,hyp⟩:=hw y hs;have h1:=h.kill r p;have hs1:((G r).aE (C.bQ r p)).sub p=some (y.aE (C.bQ r p)):=C.jv _ p _ _ (h.ok r) hs;rw[C.ML hyp] at hs1;have qo:=C.iu p hs (h.ok r);obtain⟨⟨i1,i2,i3⟩,_⟩:=h1.U3 r p y (.dead y.val) (S:=λ_ _=>False) (λt=>C.gL _ _) (Ext.refl _ _) hs1 (λ_ _ hf=>hf.elim) trivial (Inv.Gw _) trivial trivial (λ_ _ hf=>hf.elim);refine⟨y,_,?_,oH,hyp,⟨i1,qo,C.oW hyp _,?_,λb k hf=>h.fz r b k (C.gQ p hs (h.ok r) hf),λt=>(i2 t).trans (C.jw _ _),λb k hf=>⟨r,C.gQ p hs (h.ok r) hf⟩,λt b k hf=>?_⟩,λv' r' p' hw' y' hy'=>?_⟩;·show y.er=y.er.kill r p;rw[<-C.oK,C.ML hyp]
  ·intro t b k hf hf';have LA:=C.gQ p hs (h.ok r) hf;by_cases e:t=r
   ·subst e;rw[dI] at hf';obtain⟨_,j2,_⟩:=C.Cd (λ_ _ _ h=>h) (Ext.refl (λ_ _=>False) w) (λm b k _ hs=>hs) p ((G t).aE (C.bQ t p)) y (.dead y.val) (h1.ok t) hs1 trivial (Inv.Gw _) (λ_ _ hs=>hs.elim) (λ_ _ hs=>hs.elim);rcases j2 b k hf' with hh|⟨_,hn⟩;·exact hh
    ·exact hn hf
   ·rw[dx _ _ e,C.cO] at hf';exact h.sep r t (λe'=>e e'.symm) b k LA hf'
  ·rcases i3 t b k hf with ⟨_,hh⟩|hh;·exact hh.elim
   ·rwa [C.cO] at hh
  ·by_cases e:r'=r;·subst e;rw[dI] at hy';obtain⟨y1,a1,a2,a3⟩:=C.Vl p p' _ _ _ hs1 hy';obtain⟨y2,b1,b2,b3⟩:=Uf (C.bQ r' p) p' _ (h.ok r') a1;obtain⟨c1,c2⟩:=hw' y2 b1;exact⟨by rw[<-a2,<-b2,c1],a3 (b3 c2)⟩
   ·rw[dx _ _ e] at hy';obtain⟨y2,b1,b2,b3⟩:=Uf (C.bQ r p) p' _ (h.ok r') hy';obtain⟨c1,c2⟩:=hw' y2 b1;exact⟨by rw[<-b2,c1],b3 c2⟩
where
 Uf (t:Nat->Path->Bool):∀(q:Path) (c:C) {y:C},c.ok w (Zf zl zb)->(c.aE t).sub q=some y->∃y',c.sub q=some y'/\y'.val=y.val/\(y'.plain->y.plain):=by
  intro q c y ho hy
  cases hc:c.sub q with
  |some y'=>
   have:=C.jv t q c y' ho hc
   rw[hy] at this
   injection this with this
   subst this
   exact⟨y',rfl,(C.jw _ _).symm,λhp=>by rw[C.ML hp];exact hp⟩
  |none=>
   exfalso
   induction q generalizing c with
   |nil=>simp[C.sub] at hc
   |cons x q ih=>
    simp only[C.sub] at hc hy
    have hstep:∀z,(c.aE t).step x=some z->∃z',c.step x=some z'/\z'.aE t=z:=by
     intro z hz
     cases c with
     |row m sz A len cap e=>
      simp only[C.aE,C.step] at hz⊢
      split at hz
      ·rename_i hq
       injection hz with hz
       rw[ax hq]
       exact⟨_,rfl,by rw[<-hz];exact C.yg t _ (ho.2.2.1 _ _ hq.1 hq.2).2.1⟩
      ·cases hz
     |ptr m g o n c=>
      simp only[C.aE,C.step] at hz⊢
      split at hz
      ·rename_i hq
       injection hz with hz
       rw[ax hq]
       exact⟨_,rfl,hz⟩
      ·cases hz
     |agg n c=>
      simp only[C.aE,C.step] at hz⊢
      split at hz
      ·rename_i hq
       injection hz with hz
       rw[ax hq]
       exact⟨_,rfl,hz⟩
      ·cases hz
     |av n c=>
      simp only[C.aE,C.step] at hz⊢
      split at hz
      ·rename_i hq
       injection hz with hz
       rw[ax hq]
       exact⟨_,rfl,hz⟩
      ·cases hz
     |ref v s q=>rw[C.agY] at hz;cases hz
     |az v s q i c=>rw[C.agU] at hz;cases hz
     |cut v s q i c=>rw[C.agV] at hz;cases hz
     |_=>simp[C.aE,C.step] at hz
    cases hz:(c.aE t).step x with
    |none=>rw[hz] at hy;cases hy
    |some z=>
     rw[hz] at hy
     obtain⟨z',fG,e⟩:=hstep z hz
     rw[fG] at hc
     subst e
     exact ih z' (C.wg fG ho) hy hc
end M
namespace M
open Go Go.RowKit
variable [Bs]
variable {w:World}{zl zb:Nat->Nat->Prop}{G:Nat->C}{s:ah}
structure zZ (w:World) (zl zb:Nat->Nat->Prop) (G:Nat->C) (c:C):Prop where
 cell:c.cell
 ok:c.ok w (Zf zl zb)
 cS:∀b k,¬c.fp b k
 weak:∀v r p,c=.ref v r p->weak G v r p
structure bP (w:World) (zl zb:Nat->Nat->Prop) (G:Nat->C) (l':List C) (G':Nat->C) (s':ah):Prop where
 inv:Inv w zl zb G' s'
 all:∀c∈l',c.ok w (Zf zl zb)/\(∀t b k,c.fp b k->¬(G' t).fp b k)/\(∀b k,c.fp b k->¬zl b k/\¬zb b k)/\∀b k,c.fp b k->∃t,(G t).fp b k
 apart:l'.Pairwise λa b=>∀x k,a.fp x k->¬b.fp x k
 val:∀t,(G' t).val=(G t).val
 mono:∀t b k,(G' t).fp b k->(G t).fp b k
def bP.cons{c:C}{G1 G':Nat->C}{s1 s':ah}{l':List C}(h:fE w zl zb G c G1 s1)(hl:bP w zl zb G1 l' G' s'):bP w zl zb G (c::l') G' s' where
 inv:=hl.inv
 all:=λx hx=>by
  rcases b9.1 hx with rfl|hx;·exact⟨h.ok,λt b k hf hf'=>h.sep t b k hf (hl.mono t b k hf'),h.fz,h.dom⟩
  ·obtain⟨a1,a2,a3,a4⟩:=hl.all x hx;exact⟨a1,a2,a3,λb k hf=>by obtain⟨t,ht⟩:=a4 b k hf;exact⟨t,h.mono t b k ht⟩⟩
 apart:=fh.2 ⟨λx hx b k hf hf'=>by obtain⟨t,ht⟩:=(hl.all x hx).2.2.2 b k hf';exact h.sep t b k hf ht,hl.apart⟩
 val:=λt=>(hl.val t).trans (h.val t)
 mono:=λt b k hf=>h.mono t b k (hl.mono t b k hf)
def bP.nil(h:Inv w zl zb G s):bP w zl zb G [] G s:=⟨h,λ_ hx=>(by cases hx),List.Pairwise.nil,λ_=>rfl,λ_ _ _ hf=>hf⟩
def val_one{c:C}(h:c.cell):c.val.oneCell'=true:=Inv.rO h
def Du:∀(l:List C) (G:Nat->C) (s:ah),Inv w zl zb G s->(∀c∈l,zZ w zl zb G c)->
  ∃l' G',l'.map C.er=(b7 (l.map C.er) s).1/\l'.map C.val=l.map C.val/\(∀c∈l',c.plain)/\bP w zl zb G l' G' (b7 (l.map C.er) s).2/\∀v' r' p',weak G v' r' p'->weak G' v' r' p'
 |[],G,s,h,hc=>⟨[],G,rfl,rfl,λ_ hx=>(by cases hx),bP.nil h,λ_ _ _ hh=>hh⟩
 |c::l,G,s,h,hc=>by
  have h0:=hc c (bD ..);have hl0:∀x∈l,zZ w zl zb G x:=λx hx=>hc x (bY _ hx)
  have jx:∀d:C,d.plain->d.val=c.val->d.er=(b7 (c.er::l.map C.er) s).1.headD .dead->(b7 (c.er::l.map C.er) s).2=(b7 (l.map C.er) s).2->(b7 (c.er::l.map C.er) s).1.tail=(b7 (l.map C.er) s).1->(b7 (c.er::l.map C.er) s).1≠[]->d.ok w (Zf zl zb)->(∀b k,¬d.fp b k)->
    ∃l' G',l'.map C.er=(b7 ((c::l).map C.er) s).1/\l'.map C.val=(c::l).map C.val/\(∀c∈l',c.plain)/\bP w zl zb G l' G' (b7 ((c::l).map C.er) s).2/\∀v' r' p',weak G v' r' p'->weak G' v' r' p':=by
   intro d hp hv he h2 h3 h4 ho hn;obtain⟨l',G',e1,e2,e3,e4,e5⟩:=Du l G s h hl0;refine⟨d::l',G',?_,?_,?_,?_,e5⟩
   ·simp only[bn];rw[he,e1,<-h3];cases hh:(b7 (c.er::l.map C.er) s).1 with
    |nil=>exact(h4 hh).elim
    |cons a t=>rfl
   ·simp only[bn,hv,e2]
   ·intro x hx;rcases b9.1 hx with rfl|hx;·exact hp
    ·exact e3 x hx
   ·simp only[bn];rw[h2];exact bP.cons (fE.self h ho (C.oW hp G) hn) e4
  have dead:∀v,v=c.val->C.plain (.dead v):=λv hv=>by subst hv;exact val_one h0.cell
  cases c with
  |ref v r p=>
   obtain⟨c',G1,f1,f2,f3,f4,f5⟩:=TX h (h0.weak v r p rfl) h0.cell;obtain⟨l',G',e1,e2,e3,e4,e5⟩:=Du l G1 (move r p s).2 f4.inv (λx hx=>by obtain⟨a1,a2,a3,a4⟩:=hl0 x hx;exact⟨a1,a2,a3,λv' r' p' e=>f5 _ _ _ (a4 v' r' p' e)⟩)
   refine⟨c'::l',G',?_,?_,?_,bP.cons f4 e4,λ_ _ _ hh=>e5 _ _ _ (f5 _ _ _ hh)⟩;·simp only[bn,C.er,b7];rw[f1,e1]
   ·simp only[bn,f2,e2];rfl
   ·intro x hx;rcases b9.1 hx with rfl|hx;·exact f3
    ·exact e3 x hx
  |az v r p i k=>exact jx (.dead v) (dead v rfl) rfl rfl rfl rfl (by simp[b7,C.er]) trivial (λ_ _ h=>h)
  |cut v r p i k=>exact jx (.dead v) (dead v rfl) rfl rfl rfl rfl (by simp[b7,C.er]) trivial (λ_ _ h=>h)
  |fn f n g=>exact jx (.dead _) (dead _ rfl) rfl rfl rfl rfl (by simp[b7,C.er]) trivial (λ_ _ h=>h)
  |ptr m g o n f=>exact jx (.dead _) (dead _ rfl) rfl rfl rfl rfl (by simp[b7,C.er]) trivial (λ_ _ h=>h)
  |agg n f=>exact h0.cell.elim
  |av n f=>exact h0.cell.elim
  |dead v=>exact jx (.dead v) (dead v rfl) rfl rfl rfl rfl (by simp[b7,C.er]) trivial (λ_ _ h=>h)
  |int k n=>exact jx (.int k n) trivial rfl rfl rfl rfl (by simp[b7,C.er]) trivial (λ_ _ h=>h)
  |bool b=>exact jx (.bool b) trivial rfl rfl rfl rfl (by simp[b7,C.er]) trivial (λ_ _ h=>h)
  |str t=>exact jx (.str t) trivial rfl rfl rfl rfl (by simp[b7,C.er]) h0.ok (λ_ _ h=>h)
  |row m sz A len cap e=>exact jx (.row m sz A len cap e) trivial rfl rfl rfl rfl (by simp[b7,C.er]) h0.ok h0.cS
def gR(l:List C):C:=.agg l.length λj=>l.getD j (.dead undef)
def mW{α β:Type}(l:List α)(d:α)(f:α->β):((List.range l.length).map λj=>f (l.getD j d))=l.map f:=by
 apply gy;intro i;rw[C.de,cZ];by_cases h:i<l.length;·rw[ax h,cz h];simp[ji,cz h]
 ·rw[aF h,jG (by omega)];rfl
def wM(l:List C):(gR l).er=.agg (l.map C.er):=by simp only[gR,C.er,mW]
def z6(l:List C):(gR l).val=.agg (l.map C.val).toArray:=by simp only[gR,C.val,mW]
def cQ{α:Type}{l:List α}{j:Nat}(h:j<l.length)(d:α):l.getD j d∈l:=by rw[ji,cz h];exact cq h
def yl{l:List C}(h:l.Pairwise λa b=>∀x k,a.fp x k->¬b.fp x k)(d:C){i j:Nat}(hi:i<l.length)(hj:j<l.length)(hne:i≠j){b k:Nat}(hf:(l.getD i d).fp b k):¬(l.getD j d).fp b k:=by
 rw[ji,cz hi] at hf;rw[ji,cz hj];rcases Nat.lt_or_gt_of_ne hne with hlt|hlt;·exact q7.1 h i j hi hj hlt b k hf
 ·exact λhf'=>q7.1 h j i hj hi hlt b k hf' hf
def rD(l:List C)(b k:Nat):(gR l).fp b k↔∃c∈l,c.fp b k:=by
 constructor;·rintro ⟨j,hj,hf⟩;exact⟨_,cQ hj _,hf⟩
 ·rintro ⟨c,hc,hf⟩;obtain⟨j,hj,rfl⟩:=tT hc;refine⟨j,hj,?_⟩;show (l.getD j (C.dead undef)).fp b k;rw[ji,cz hj];exact hf
def C.flat(c:C):Prop:=c.plain\/∃l:List C,c=gR l/\∀x∈l,x.plain
structure ew (w:World) (zl zb:Nat->Nat->Prop) (G:Nat->C) (c:C):Prop where
 ok:c.ok w (Zf zl zb)
 rf:c.rf G
 cS:∀b k,¬c.fp b k
def MY{v:Value}{r:Nat}{p:Path}(h:(C.ref v r p).rf G):v.oneCell'=true:=by obtain⟨y,z,hs,hF,hv,m,sz,A,len,cap,e,rfl⟩:=h;cases hF;rw[<-hv];rfl
def Rf{Z:Md->Nat->Nat->Prop}{sz:Nat}{A A':Option Ad}{len cap lo hi cap':Nat}{e:Nat->Nat->C}(h:(C.row .own sz A len cap e).ok w Z)(hlo:lo<=hi)(hhi:hi<=len)(hcap:hi - lo<=cap')
  (hc:lo+cap'=cap)(hA:(A'=A/\cap'=0)\/A'=A.map λq=>jH (lo*sz) q):
  (C.row .own sz A' (hi - lo) cap' λi j=>e (i+lo) j).ok w Z/\(∀b k,(C.row .own sz A' (hi - lo) cap' λi j=>e (i+lo) j).fp b k->(C.row .own sz A len cap e).fp b k)/\
   (C.row .own sz A' (hi - lo) cap' λi j=>e (i+lo) j).er=.row .own sz ((((List.range len).map λi=>(List.range sz).map λj=>(e i j).er).take hi).drop lo):=by
 obtain⟨h1,h2,h3,h4,h5⟩:=h
 have hb:∀b o,A'=some (b,o,none)->∃o',A=some (b,o',none):=λb o ho=>by
  rcases hA with ⟨hA,_⟩|hA;·exact⟨o,by rw[<-hA,ho]⟩
  ·cases A with
   |none=>rw[hA] at ho;cases ho
   |some q=>
    rcases h4 rfl with ⟨q1,_⟩|⟨g,o',_,_,_,q1,_⟩;·cases q1
    ·rw[hA,q1,cv,pW] at ho;injection ho with ho
     injection ho with ho _
     exact⟨o',by rw[q1,ho]⟩
 have hlt:hi - lo≠0->A'=A.map λq=>jH (lo*sz) q:=λhne=>hA.elim (λ⟨_,h0⟩=>(by omega)) id;refine⟨⟨hcap,λi j hi' hj=>?_,λi j hi' hj=>h3 (i+lo) j (by omega) hj,λ_=>?_,λi j hi' hj b k hf=>?_⟩,λb k hf=>?_,?_⟩;·obtain⟨g,o,q1,q2,q3⟩:=h2 (i+lo) j (by omega) hj;refine⟨g,o+lo*sz,by rw[hlt (by omega),q1,cv,pW],?_,λhm=>(hm rfl).elim⟩;rw[show o+lo*sz+i*sz+j=o+(i+lo)*sz+j by rw[fk];omega];exact q2
 ·rcases h4 rfl with ⟨q1,q2⟩|⟨g,o,arr,t,fz,q1,q2,q3,q4⟩;·refine .inl ⟨?_,by omega⟩;rcases hA with ⟨hA,_⟩|hA<;>rw[hA,q1];rfl
  ·refine .inr ?_;rcases hA with ⟨hA,h0⟩|hA;·exact⟨g,o,arr,t,fz,by rw[hA,q1],q2,by rw[h0];omega,λk hk1 hk2=>by rw[h0] at hk2;omega⟩
   ·have hm:lo*sz+cap'*sz=cap*sz:=by rw[<-fk,hc]
    exact⟨g,o+lo*sz,arr,t,fz,by rw[hA,q1,cv,pW],q2,by omega,λk hk1 hk2=>q4 k (by omega) (by omega)⟩
 ·obtain⟨a1,a2⟩:=h5 (i+lo) j (by omega) hj b k hf;refine⟨λ_ o ho=>?_,λi' j' hi2 hj2 hne=>a2 (i'+lo) j' (by omega) hj2 (λe=>hne ?_)⟩;·obtain⟨o',ho'⟩:=hb b o ho;exact a1 rfl o' ho'
  ·injection e with e1 e2
   rw[e2,show i=i' by omega]
 ·obtain⟨_,⟨o,ho⟩|⟨i,j,hi',hj,hf⟩⟩:=hf;·obtain⟨o',ho'⟩:=hb b o ho;exact⟨rfl,.inl ⟨o',ho'⟩⟩
  ·exact⟨rfl,.inr ⟨i+lo,j,by omega,hj,hf⟩⟩
 ·simp only[C.er,<-pO,<-mj,wB];rw[mq hhi];congr 1;apply gy;intro i;rw[C.de,cZ,pS];by_cases hh:i<hi - lo;·rw[ax hh,tS (by omega),oh];rfl
  ·rw[aF hh,jG (by simp;omega)];rfl
def agr(h:Inv w zl zb G s){v:Value}{r:Nat}{p:Path}{lo hi:Nat}(hr:(C.cut v r p lo hi).rf G):
  ∃c G',c.er=(sU r p lo hi s).1/\c.val=v/\((C.cut v r p lo hi).cell->c.cell)/\fE w zl zb G c G' (sU r p lo hi s).2:=by
 have hr':=hr;obtain⟨m,sz,A,len,cap,e,A',cap',hs,hv,hlo,hhi,hcap,kR,hc,hAA⟩:=hr;unfold sU look;rw[<-h.er,C.gP,hs];cases m with
 |own=>obtain⟨c,G',c1,c2,c3,c4,c5,c6,c7,c8,c9,JU,JV,c12⟩:=h.wh r p _ hs;obtain rfl:=c7 trivial;obtain⟨i1,i2,i3⟩:=Rf c4 hlo hhi hcap hc hAA;refine⟨.row .own sz A' (hi - lo) cap' λi j=>e (i+lo) j,G',i3,?_,λ_=>trivial,⟨c3,i1,trivial,λt b k hf=>c8 t b k (i2 b k hf),λb k hf=>h.fz r b k (c9 b k (i2 b k hf)),JU,λb k hf=>⟨r,c9 b k (i2 b k hf)⟩,JV⟩⟩;rw[hv];rfl
 |sl=>exact⟨.cut v r p lo hi,G,rfl,rfl,λhh=>hh,fE.self h trivial hr' λ_ _ hh=>hh⟩
 |af=>exact⟨.cut v r p lo hi,G,rfl,rfl,λhh=>hh,fE.self h trivial hr' λ_ _ hh=>hh⟩
def agq(h:Inv w zl zb G s){v:Value}{r:Nat}{p:Path}{i j:Nat}(hr:(C.az v r p i j).rf G):
  ∃c G',c.er=(B8 r p i j s).1/\c.val=v/\((C.az v r p i j).cell->c.cell)/\fE w zl zb G c G' (B8 r p i j s).2:=by
 have same:∃c G',c.er=X.az r p i j/\c.val=v/\((C.az v r p i j).cell->c.cell)/\fE w zl zb G c G' s:=⟨.az v r p i j,G,rfl,rfl,λhh=>hh,fE.self h trivial hr λ_ _ hh=>hh⟩;obtain⟨y,hs,hy⟩:=hr;unfold B8 look;rw[<-h.er,C.gP,hs];rcases hy with ⟨m,sz,g,o,len,cap,e,rfl,hv⟩|⟨m,g,o,n,cc,rfl,hi,hv⟩;·exact same
 ·cases m with
  |own=>
   show ∃c G',c.er=(bif i==0 && j==0 then _ else _:X×ah).1/\_/\_/\fE w zl zb G c G' (bif i==0 && j==0 then _ else _:X×ah).2;cases hij:(i==0 && j==0) with
   |false=>exact same
   |true=>simp only[aB,en] at hij;obtain⟨rfl,rfl⟩:=hij;obtain⟨c,G',c1,c2,c3,c4,c5,c6,c7,c8,c9,JU,JV,c12⟩:=h.wh r p _ hs;exact⟨c,G',c1,by rw[c2,hv];rfl,λ_=>c6.2 trivial,⟨c3,c4,c5,c8,λb k hf=>h.fz r b k (c9 b k hf),JU,λb k hf=>⟨r,c9 b k hf⟩,JV⟩⟩
  |sl=>exact same
  |af=>exact same
def qV(tk:Tk)(h:Inv w zl zb G s){c0:C}(ho:ew w zl zb G c0):
  ∃c G',c.er=(take tk c0.er s).1/\c.val=c0.val/\(c0.cell->c.cell)/\fE w zl zb G c G' (take tk c0.er s).2:=by
 have same:(take tk c0.er s)=(c0.er,s)->∃c G',c.er=(take tk c0.er s).1/\c.val=c0.val/\(c0.cell->c.cell)/\fE w zl zb G c G' (take tk c0.er s).2:=λe=>by rw[e];exact⟨c0,G,rfl,rfl,λh=>h,fE.self h ho.ok ho.rf ho.cS⟩
 cases c0 with
 |ref v r p=>
  have uM:∃c G',c.er=(move r p s).1/\c.val=v/\((C.ref v r p).cell->c.cell)/\fE w zl zb G c G' (move r p s).2:=by obtain⟨c',G1,f1,f2,f3,f4,f5⟩:=TX h (Dz ho.rf) (MY ho.rf);exact⟨c',G1,f1,f2,λ_=>C.lY f3,f4⟩
  cases tk with
  |mv=>exact uM
  |al=>exact same rfl
  |aM=>cases p with
   |nil=>exact uM
   |cons q p=>exact same rfl
 |cut v r p lo hi=>
  have uM:=agr h ho.rf;cases tk with
  |mv=>exact uM
  |al=>exact same rfl
  |aM=>cases p with
   |nil=>exact uM
   |cons q p=>exact same rfl
 |az v r p i j=>
  cases tk with
  |mv=>exact agq h ho.rf
  |al=>exact same rfl
  |aM=>exact same rfl
 |agg n f=>
  cases tk with
  |mv=>
   have hcells:∀c∈(List.range n).map f,zZ w zl zb G c:=λc hc=>by
    obtain⟨j,hj,rfl⟩:=bw.1 hc;have hj':j<n:=by simpa using hj
    exact⟨(ho.ok.1 j hj').1,(ho.ok.1 j hj').2,λb k hf=>ho.cS b k ⟨j,hj',hf⟩,λv r p e=>Dz (by rw[<-e];exact ho.rf j hj')⟩
   obtain⟨l',G',e1,e2,e3,e4,e5⟩:=Du _ G s h hcells;have er:(C.agg n f).er=.agg (((List.range n).map f).map C.er):=by simp only[C.er,cP];rfl
   rw[er];show ∃c G',c.er=X.agg (b7 _ s).1/\_/\_/\fE w zl zb G c G' (b7 _ s).2;refine⟨gR l',G',by rw[wM,e1],?_,λhc=>hc.elim,⟨e4.inv,⟨λj hj=>⟨C.lY (e3 _ (cQ hj _)),(e4.all _ (cQ hj _)).1⟩,λj hj b k hf j' hj' hne=>yl e4.apart _ hj hj' hne hf⟩,λj hj=>C.oW (e3 _ (cQ hj _)) _,?_,?_,e4.val,?_,e4.mono⟩⟩;·rw[z6,e2];simp only[C.val,cP];rfl
   ·intro t b k hf hf';obtain⟨c,hc,hf⟩:=(rD _ _ _).1 hf;exact(e4.all c hc).2.1 t b k hf hf'
   ·intro b k hf;obtain⟨c,hc,hf⟩:=(rD _ _ _).1 hf;exact(e4.all c hc).2.2.1 b k hf
   ·intro b k hf;obtain⟨c,hc,hf⟩:=(rD _ _ _).1 hf;exact(e4.all c hc).2.2.2 b k hf
  |al=>exact same rfl
  |aM=>exact same rfl
 |_=>exact same (by cases tk<;>rfl)
def Uj{c:Ctx}{zl:Nat->Nat->Prop}{a:Act}(h:St c G zl s a w)(n:Nat):((G n).alias n []).er=aC s (.t n)/\((G n).alias n []).val=(G n).val/\ew w zl c.zb G ((G n).alias n []):=by obtain⟨a1,a2,a3⟩:=C.PG n (G n) rfl (h.inv.ok n) (h.inv.rf n);refine⟨?_,C.PJ _ _ _,⟨a1,a2,a3⟩⟩;rw[C.PI,h.inv.er];rfl
end M
namespace M
open Go Go.RowKit
variable [Bs]
namespace C
variable {w:World}{Z:Md->Nat->Nat->Prop}
def qF:C->Prop
 |.row m _ _ _ _ _=>m=.own
 |.ptr m _ _ _ _=>m=.own
 |.agg _ _=>True
 |.av _ _=>True
 |_=>False
def ag1{d0 y:C}{q:Nat×Nat}{v:Value}(h:d0.ok w Z)(hq:d0.step q=some (.dead v))(ho:d0.qF)(hp:y.plain)(hv:y.val=v)(hy:y.ok w Z)(hsep:∀b k,y.fp b k->¬d0.fp b k):
  (d0.bu q y).ok w Z/\∀b k,(d0.bu q y).fp b k->d0.fp b k\/y.fp b k:=by
 have hc:=lY hp;have hs:=Ci hp;have hnt:y.gi:=by cases y<;>first|trivial|exact hp.elim
 have agg:∀(n:Nat) (f:Nat->C) (pr:C->Prop),(∀j,j<n->pr (f j)/\(f j).ok w Z)->pr y->(∀j,j<n->∀b k,(f j).fp b k->∀j',j'<n->j≠j'->¬(f j').fp b k)->(∀b k,y.fp b k->¬∃j,j<n/\(f j).fp b k)->
   ((∀j,j<n->pr (b8 f q.2 y j)/\(b8 f q.2 y j).ok w Z)/\(∀j,j<n->∀b k,(b8 f q.2 y j).fp b k->∀j',j'<n->j≠j'->¬(b8 f q.2 y j').fp b k))/\∀b k,(∃j,j<n/\(b8 f q.2 y j).fp b k)->(∃j,j<n/\(f j).fp b k)\/y.fp b k:=by
  intro n f pr h1 hpy h2 h3;refine⟨⟨λj hj=>?_,λj hj b k hf j' hj' hne=>?_⟩,λb k ⟨j,hj,hf⟩=>?_⟩
  ·unfold b8;split;·exact⟨hpy,hy⟩
   ·exact h1 j hj
  ·unfold b8 at hf⊢;split at hf;·rename_i e;rw[aF (λe'=>hne (e.trans e'.symm))];exact λhf'=>h3 b k hf ⟨j',hj',hf'⟩
   ·split;·exact λhf'=>h3 b k hf' ⟨j,hj,hf⟩
    ·exact h2 j hj b k hf j' hj' hne
  ·unfold b8 at hf;split at hf;·exact .inr hf
   ·exact .inl ⟨j,hj,hf⟩
 have al8:∀(n:Nat) (f:Nat->C) (j:Nat),q.2<n->f q.2=.dead v->(b8 f q.2 y j).val=(f j).val:=by
  intro n f j _ hf;unfold b8;split;·rename_i e;rw[e,hf,hv];rfl
  ·rfl
 cases d0 with
 |row m sz A len cap e=>
  obtain rfl:m=.own:=ho;simp only[step] at hq;split at hq
  ·rename_i hlt;injection hq with hq
   obtain⟨h1,h2,h3,h4,h5⟩:=h;have kV:∀i j,i<len->j<sz->∀b k,(e i j).fp b k->(C.row .own sz A len cap e).fp b k:=λi j hi hj b k hf=>⟨rfl,.inr ⟨i,j,hi,hj,hf⟩⟩;refine⟨⟨h1,λi j hi hj=>?_,λi j hi hj=>?_,h4,λi j hi hj b k hf=>?_⟩,λb k hf=>?_⟩
   ·obtain⟨g,o,a1,a2,a3⟩:=h2 i j hi hj;refine⟨g,o,a1,?_,a3⟩;rw[a2];show _=some (if i=q.1/\j=q.2 then y else e i j).val;split;·rename_i hh;rw[hh.1,hh.2,hq,hv];rfl
    ·rfl
   ·show (if i=q.1/\j=q.2 then y else e i j).cell/\(if i=q.1/\j=q.2 then y else e i j).cU/\(if i=q.1/\j=q.2 then y else e i j).fits .own/\(if i=q.1/\j=q.2 then y else e i j).ok w Z;split;·exact⟨hc,hs,by cases y<;>first|trivial|exact .inl rfl,hy⟩
    ·exact h3 i j hi hj
   ·have hf:(if i=q.1/\j=q.2 then y else e i j).fp b k:=hf;refine⟨λhm o hA=>?_,λi' j' hi' hj' hne hf'=>?_⟩
    ·split at hf;·exact hsep b k hf ⟨rfl,.inl ⟨o,hA⟩⟩
     ·exact(h5 i j hi hj b k hf).1 hm o hA
    ·have hf':(if i'=q.1/\j'=q.2 then y else e i' j').fp b k:=hf';split at hf
     ·rename_i e1;split at hf';·rename_i e2;exact hne (by rw[e1.1,e1.2,e2.1,e2.2])
      ·exact hsep b k hf (kV i' j' hi' hj' b k hf')
     ·split at hf';·exact hsep b k hf' (kV i j hi hj b k hf)
      ·exact(h5 i j hi hj b k hf).2 i' j' hi' hj' hne hf'
   ·obtain⟨hm,hA|⟨i,j,hi,hj,hf⟩⟩:=hf;·exact .inl ⟨rfl,.inl hA⟩
    ·have hf:(if i=q.1/\j=q.2 then y else e i j).fp b k:=hf;split at hf;·exact .inr hf
     ·exact .inl (kV i j hi hj b k hf)
  ·cases hq
 |ptr m g o n f=>
  obtain rfl:m=.own:=ho;simp only[step] at hq;split at hq
  ·rename_i hlt;injection hq with hq
   obtain⟨h1,h2,h3,h4⟩:=h;obtain⟨⟨a1,a2⟩,a3⟩:=agg n f (λc=>c.cell/\c.fits .own) (λj hj=>⟨⟨(h3 j hj).1,(h3 j hj).2.1⟩,(h3 j hj).2.2⟩) ⟨hc,by cases y<;>first|trivial|exact .inl rfl⟩ (λj hj b k hf j' hj' hne=>(h4 j hj b k hf).2 j' hj' hne) (λb k hf ⟨j,hj,hf'⟩=>hsep b k hf ⟨rfl,.inr ⟨j,hj,hf'⟩⟩);refine⟨⟨λj hj=>?_,h2,λj hj=>⟨(a1 j hj).1.1,(a1 j hj).1.2,(a1 j hj).2⟩,λj hj b k hf=>⟨λhm hh=>?_,λj' hj' hne=>a2 j hj b k hf j' hj' hne⟩⟩,λb k hf=>?_⟩;·rw[al8 n f j hlt.2 hq];exact h1 j hj
   ·have hf:(b8 f q.2 y j).fp b k:=hf;unfold b8 at hf;split at hf;·exact hsep b k hf ⟨rfl,.inl hh⟩
    ·exact(h4 j hj b k hf).1 hm hh
   ·obtain⟨_,hh|hh⟩:=hf;·exact .inl ⟨rfl,.inl hh⟩
    ·exact(a3 b k hh).imp (λhh=>⟨rfl,.inr hh⟩) id
  ·cases hq
 |agg n f=>obtain⟨a1,a2⟩:=agg n f C.cell h.1 hc h.2 hsep;exact⟨a1,a2⟩
 |av n f=>obtain⟨a1,a2⟩:=agg n f C.gi h.1 hnt h.2 hsep;exact⟨a1,a2⟩
 |_=>exact ho.elim
end C
namespace Inv
variable {w:World}{zl zb:Nat->Nat->Prop}{G:Nat->C}{s:ah}
def Aq{r:Nat}{P:Path}{v:Value}(hd:(G r).sub P=some (.dead v)):∀c:C,c.rf G->c.free (C.bQ r P)
 |.ref v' r' q,hr=>by obtain⟨y,z,hs,hF,_⟩:=hr;exact out hs (by cases hF<;>rfl)
 |.az v' r' q i c,hr=>by obtain⟨y,hs,hy⟩:=hr;exact out hs (by rcases hy with ⟨m,sz,g,o,len,cap,e,rfl,hv⟩|⟨m,g,o,n,cc,rfl,hi,hv⟩<;>rfl)
 |.cut v' r' q lo hi,hr=>by obtain⟨m,sz,A,len,cap,e,A',cap',hs,_⟩:=hr;exact out hs rfl
 |.ptr m g o n c,hr=>λj hj=>Aq hd (c j) (hr j hj)
 |.agg n c,hr=>λj hj=>Aq hd (c j) (hr j hj)
 |.av n c,hr=>λj hj=>Aq hd (c j) (hr j hj)
 |.fn f n c,hr=>λj hj=>Aq hd (c j) (hr j hj)
 |.dead _,_=>trivial
 |.int _ _,_=>trivial
 |.bool _,_=>trivial
 |.str _,_=>trivial
 |.row _ _ _ _ _ _,_=>trivial
where
 out {r':Nat} {q:Path} {y:C} (hs:(G r').sub q=some y) (hy:y.er.iY=true):C.bQ r P r' q=false:=by
  unfold C.bQ
  cases h1:(r'==r) with
  |false=>rfl
  |true=>
   cases h2:X.pfx P q with
   |false=>rfl
   |true=>
    exfalso
    have h1:r'=r:=by simpa using h1
    subst h1
    obtain⟨t,rfl⟩:=MI P q h2
    rw[C.ID P t hd] at hs
    cases t with
    |nil=>simp only[C.sub] at hs;injection hs with hs;subst hs;simp[C.er,X.iY] at hy
    |cons x t=>simp[C.sub,C.step] at hs
def ad3(h:Inv w zl zb G s){r:Nat}{p0:Path}{q:Nat×Nat}{d0 y:C}{v:Value}(h0:(G r).sub p0=some d0)(hq:d0.step q=some (.dead v))(ho:d0.qF)(hp:y.plain)(hv:y.val=v)(hok:y.ok w (Zf zl zb))
  (hsep:∀t b k,y.fp b k->¬(G t).fp b k)(hfz:∀b k,y.fp b k->¬zl b k/\¬zb b k):
  ∃G',G'=fK G r (C.putAt p0 (G r) (d0.bu q y))/\Inv w zl zb G' ((r,X.putAt (p0++[q]) (get s r) y.er)::s)/\(∀t,(G' t).val=(G t).val)/\∀t b k,(G' t).fp b k->(G t).fp b k\/y.fp b k:=by
 have hd0:=C.iu p0 h0 (h.ok r);have hin:∀b k,d0.fp b k->(G r).fp b k:=λb k hf=>C.gQ p0 h0 (h.ok r) hf;obtain⟨a1,a2⟩:=C.ag1 hd0 hq ho hp hv hok (λb k hf hf'=>hsep r b k hf (hin b k hf'));have Fu:(G r).sub (p0++[q])=some (.dead v):=C.tI p0 h0 hq;obtain⟨⟨i1,i2,i3⟩,_⟩:=h.Is r p0 (p0++[q]) d0 (d0.bu q y) y (S:=λ_ _=>False) (C.Cm p0 h0 hq) (λt=>Aq Fu (G t) (h.rf t)) (Ext.refl _ _) h0 (λ_ _ hf=>hf.elim) a1 (C.iy.bu d0 q (.dead v) y hq (by rw[hv];rfl)) (C.oW hp G) (by cases y<;>first|trivial|exact hp.elim) (λb k hf=>(a2 b k hf).imp id λhf=>⟨λt=>hsep t b k hf,hfz b k hf⟩)
 refine⟨_,rfl,i1,i2,λt b k hf=>?_⟩;rcases i3 t b k hf with ⟨e,jr⟩|jr;·rw[e];exact(a2 b k jr).imp (hin b k) id
 ·exact .inl jr
end Inv
end M
namespace M
open Go Go.RowKit
variable [Bs]
namespace C
def VL:∀(P:Path) {c d y:C},c.sub P=some d->y.val=d.val->(putAt P c y).val=c.val
 |[],c,d,y,h,hv=>by simp only[sub] at h;injection h with h;subst h;exact hv
 |x::P,c,d,y,h,hv=>by
  simp only[sub] at h;cases hst:c.step x with
  |none=>rw[hst] at h;cases h
  |some z=>rw[hst] at h;simp only[putAt,hst];exact(iy.bu c x z _ hst (VL P h hv)).val
def aiP{c z:C}{x x':Nat×Nat}(hst:c.step x=some z)(hne:x'≠x)(y:C):(c.bu x y).step x'=c.step x':=by
 have hu:∀f:Nat->C,x'.1=0->x.1=0->b8 f x.2 y x'.2=f x'.2:=λf h1 h2=>by unfold b8;rw[aF];intro e;apply hne;cases x;cases x';simp_all
 cases c with
 |row m sz A len cap e=>
  simp only[bu,step];split;·congr 1;rw[aF];rintro ⟨e1,e2⟩;exact hne (Prod.ext e1 e2)
  ·rfl
 |ptr m g o n f=>
  simp only[step] at hst;split at hst
  ·rename_i h0;simp only[bu,step];split;·rename_i hh;rw[hu f hh.1 h0.1]
   ·rfl
  ·cases hst
 |agg n f=>
  simp only[step] at hst;split at hst
  ·rename_i h0;simp only[bu,step];split;·rename_i hh;rw[hu f hh.1 h0.1]
   ·rfl
  ·cases hst
 |av n f=>
  simp only[step] at hst;split at hst
  ·rename_i h0;simp only[bu,step];split;·rename_i hh;rw[hu f hh.1 h0.1]
   ·rfl
  ·cases hst
 |_=>rfl
def Vm:∀(P q:Path) {c d y z:C},c.sub P=some d->y.val=d.val->X.pfx P q=false->(putAt P c y).sub q=some z->∃z0,c.sub q=some z0/\z.val=z0.val/\(z0.plain->z.plain)
 |[],q,c,d,y,z,_,_,h,_=>by simp[X.pfx] at h
 |x::P,q,c,d,y,z,hd,hv,hp,hs=>by
  simp only[sub] at hd;cases hst:c.step x with
  |none=>rw[hst] at hd;cases hd
  |some c1=>
   rw[hst] at hd;have hd':c1.sub P=some d:=hd;have hval:=VL P hd' hv;cases q with
   |nil=>
    simp only[sub,putAt,hst] at hs;injection hs with hs
    subst hs;refine⟨c,rfl,(iy.bu c x c1 _ hst hval).val,λhpl=>?_⟩;cases c<;>first|exact hpl|trivial
   |cons x' q=>
    simp only[sub,putAt,hst] at hs;by_cases hne:x'=x
    ·subst hne;rw[Vi hst] at hs;have hp':X.pfx P q=false:=by simpa [X.pfx] using hp
     obtain⟨z0,a1,a2⟩:=Vm P q hd' hv hp' hs;exact⟨z0,by simp only[sub,hst];exact a1,a2⟩
    ·rw[aiP hst hne] at hs;exact⟨z,hs,rfl,λh=>h⟩
end C
variable {w:World}{zl zb:Nat->Nat->Prop}
def ad4{G:Nat->C}{s:ah}(h:Inv w zl zb G s){r:Nat}{p:Path}(hg:uD s r p=true):∃p0 q d0 v,p=p0++[q]/\(G r).sub p0=some d0/\d0.step q=some (.dead v)/\d0.qF:=by
 unfold uD at hg;split at hg
 ·rename_i hl;split at hg
  ·rename_i q hq
   have hp:p=p.dropLast++[q]:=by
    have hne:p≠[]:=by intro e;subst e;simp at hq
    rw[List.getLast?_eq_some_getLast hne] at hq;injection hq with hq
    rw[<-hq];exact(List.dropLast_concat_getLast hne).symm
   have own:∀x,look s r p.dropLast=some x->∃d0,(G r).sub p.dropLast=some d0/\d0.er=x:=λx hx=>by
    unfold look at hx;rw[<-h.er,C.gP] at hx;cases hs:(G r).sub p.dropLast with
    |none=>rw[hs] at hx;cases hx
    |some d0=>rw[hs] at hx;exact⟨d0,rfl,by simpa using hx⟩
   have fin:∀d0,(G r).sub p.dropLast=some d0->d0.qF->∃p0 q d0 v,p=p0++[q]/\(G r).sub p0=some d0/\d0.step q=some (.dead v)/\d0.qF:=λd0 h0 ho=>by
    unfold look at hl;rw[<-h.er,C.gP,hp,C.ID p.dropLast [q] h0] at hl;have hl':((d0.step q).bind λz=>some z).map C.er=some .dead:=by simpa [C.sub] using hl
    cases hst:d0.step q with
    |none=>rw[hst] at hl';cases hl'
    |some z=>
     rw[hst] at hl';have:z.er=.dead:=by simpa using hl'
     cases z with
     |dead v=>exact⟨p.dropLast,q,d0,v,hp,h0,hst,ho⟩
     |_=>simp[C.er] at this
   split at hg
   ·rename_i hx;obtain⟨d0,a1,a2⟩:=own _ hx
    have:d0.qF:=by
     cases d0 with
     |row m sz A len cap e=>simp only[C.er,X.row.injEq] at a2;exact a2.1
     |_=>simp[C.er] at a2
    exact fin _ a1 this
   ·rename_i hx;obtain⟨d0,a1,a2⟩:=own _ hx
    have:d0.qF:=by
     cases d0 with
     |ptr m g o n c=>simp only[C.er,X.ptr.injEq] at a2;exact a2.1
     |_=>simp[C.er] at a2
    exact fin _ a1 this
   ·rename_i hx;obtain⟨d0,a1,a2⟩:=own _ hx;have:d0.qF:=by cases d0<;>first|trivial|(simp[C.er] at a2)
    exact fin _ a1 this
   ·rename_i hx;obtain⟨d0,a1,a2⟩:=own _ hx;have:d0.qF:=by cases d0<;>first|trivial|(simp[C.er] at a2)
    exact fin _ a1 this
   ·cases hg
  ·cases hg
 ·cases hg
def Um{r:Nat}{p:Path}:∀{l:List X},oV r p l=true->∀r' p',X.ref r' p'∈l->¬(r'=r/\X.pfx p p'=true)
 |[],_,_,_,hm=>by cases hm
 |x::l,h,r',p',hm=>by
  rcases b9.1 hm with rfl|hm
  ·simp only[oV,aB,rq,Bool.and_eq_false_iff,beq_eq_false_iff_ne] at h;rintro ⟨rfl,h2⟩;rcases h.1 with h1|h1;·exact h1 rfl
   ·rw[h1] at h2;cases h2
  ·refine Um (l:=l) ?_ r' p' hm;cases x<;>first|exact h|(simp only[oV,aB] at h;exact h.2)
def Ei:∀(cs ys:List C) {G:Nat->C} {s s':ah},Inv w zl zb G s->ys.length=cs.length->(∀v r p,C.ref v r p∈cs->weak G v r p)->
  (∀(i:Nat) c y,cs[i]?=some c->ys[i]?=some y->y.plain/\y.val=c.val/\y.ok w (Zf zl zb))->(∀y∈ys,(∀t b k,y.fp b k->¬(G t).fp b k)/\∀b k,y.fp b k->¬zl b k/\¬zb b k)->
  (ys.Pairwise λa b=>∀x k,a.fp x k->¬b.fp x k)->kN (cs.map C.er) (ys.map C.er) s=some s'->
  ∃G',Inv w zl zb G' s'/\(∀t,(G' t).val=(G t).val)/\∀t b k,(G' t).fp b k->(G t).fp b k\/∃y∈ys,y.fp b k
 |[],ys,G,s,s',h,_,_,_,_,_,hb=>by simp only[jh,kN,dP] at hb;subst hb;exact⟨G,h,λ_=>rfl,λt b k hf=>.inl hf⟩
 |c::cs,[],_,_,_,_,hl,_,_,_,_,_=>by simp at hl
 |c::cs,y::ys,G,s,s',h,hl,hw,hy,hsep,ia,hb=>by
  have hl':ys.length=cs.length:=by simpa using hl
  obtain⟨hp,hv,hok⟩:=hy 0 c y rfl rfl;have xC:=fh.1 ia;have skip:kN (cs.map C.er) (ys.map C.er) s=some s'->∃G',Inv w zl zb G' s'/\(∀t,(G' t).val=(G t).val)/\∀t b k,(G' t).fp b k->(G t).fp b k\/∃y'∈y::ys,y'.fp b k:=λhb=>by obtain⟨G',g1,g2,g3⟩:=Ei cs ys h hl' (λv r p hm=>hw v r p (bY _ hm)) (λi c y h1 h2=>hy (i+1) c y (by simpa using h1) (by simpa using h2)) (λy hm=>hsep y (bY _ hm)) xC.2 hb;exact⟨G',g1,g2,λt b k hf=>(g3 t b k hf).imp id λ⟨y,hm,hf⟩=>⟨y,bY _ hm,hf⟩⟩
  cases c with
  |ref v r p=>
   simp only[bn,C.er,kN] at hb;cases hg:(uD s r p && oV r p (cs.map C.er)) with
   |false=>rw[hg] at hb;cases hb
   |true=>
    rw[hg,mw] at hb;simp only[aB] at hg;obtain⟨p0,q,d0,v0,hpq,h0,hq,ho⟩:=ad4 h hg.1;have Fu:(G r).sub p=some (.dead v0):=by rw[hpq];exact C.tI p0 h0 hq
    have hv0:v0=v:=(hw v r p (bD ..) _ Fu).1;have oH:y.val=v0:=by rw[hv,hv0];rfl
    obtain⟨G1,e1,i1,i2,i3⟩:=h.ad3 h0 hq ho hp oH hok (hsep y (bD ..)).1 (hsep y (bD ..)).2;rw[<-hpq] at i1;have he:C.putAt p0 (G r) (d0.bu q y)=C.putAt p (G r) y:=by rw[hpq,C.Cm p0 h0 hq]
    rw[he] at e1
    obtain⟨G',g1,g2,g3⟩:=Ei cs ys i1 hl' (λv' r' p' hm=>by
     have hold:=hw v' r' p' (bY _ hm);have hno:=Um hg.2 r' p' (by have:=kH (f:=C.er) hm;exact this);intro z hz;rw[e1] at hz;by_cases er:r'=r
     ·subst er;rw[dI] at hz
      have hpf:X.pfx p p'=false:=by
       cases hh:X.pfx p p' with
       |false=>rfl
       |true=>exact(hno ⟨rfl,hh⟩).elim
      obtain⟨z0,a1,a2,a3⟩:=C.Vm p p' Fu (by rw[oH];rfl) hpf hz;obtain⟨b1,b2⟩:=hold z0 a1;exact⟨a2.trans b1,a3 b2⟩
     ·rw[dx _ _ er] at hz;exact hold z hz) (λi c y h1 h2=>hy (i+1) c y (by simpa using h1) (by simpa using h2)) (λy' hm=>⟨λt b k hf hf'=>by
      rcases i3 t b k hf' with hh|hh;·exact(hsep y' (bY _ hm)).1 t b k hf hh
      ·exact xC.1 y' hm b k hh hf,(hsep y' (bY _ hm)).2⟩) xC.2 hb
    refine⟨G',g1,λt=>(g2 t).trans (i2 t),λt b k hf=>?_⟩;rcases g3 t b k hf with hh|⟨y',hm,hh⟩
    ·rcases i3 t b k hh with hh|hh;·exact .inl hh
     ·exact .inr ⟨y,bD ..,hh⟩
    ·exact .inr ⟨y',bY _ hm,hh⟩
  |_=>exact skip (by simpa only[bn,C.er,kN] using hb)
end M
namespace M
open Go Go.RowKit
variable [Bs]
def ag2{v:Value}(h:v.oneCell'=true):v.cells= #[v]:=by cases v<;>first|rfl|(simp[Value.oneCell'] at h)
namespace St
variable {c:Ctx}{G G1:Nat->C}{zl:Nat->Nat->Prop}{s s1:ah}{a:Act}{w w':World}
def move(h:St c G zl s a w)(hi:Inv w' zl c.zb G1 s1)(hv:∀t,(G1 t).val=(G t).val){S:Nat->Nat->Prop}(hE:Ext S w w')(hS:∀b k,S b k->c.F0 b k\/c.w0.heap.size<=b)
  (hd:∀t b k,(G1 t).fp b k->(∃u,(G u).fp b k)\/w.heap.size<=b):St c G1 zl s1 a w' where
 inv:=hi
 val:=λt ht=>(hv t).trans (h.val t ht)
 size:=h.size
 small:=h.small
 defers:=h.defers
 tr:=⟨h.tr.ext.trans hE (λb k hs hb=>(hS b k hs).elim id (λhs=>by omega)),λt b k hf=>by
  rcases hd t b k hf with ⟨u,hu⟩|hb;·exact h.tr.dom u b k hu
  ·exact .inr (jF h.tr.ext.size hb),h.tr.pT,h.tr.zl,h.tr.gl,h.tr.AH⟩
 args:=λi v hi=>(hv _).trans (h.args i v hi)
def put(h:St c G zl s a w){x:C}{n:Nat}(hn:n<c.nt)(hok:x.ok w (Zf zl c.zb))(hsep:∀t,t≠n->∀b k,x.fp b k->¬(G t).fp b k)(hfz:∀b k,x.fp b k->¬zl b k/\¬c.zb b k)(hrf:x.rf G)
  (hdom:∀b k,x.fp b k->c.F0 b k\/c.w0.heap.size<=b):∃G',St c G' zl (M.put n x.er s) (a.put (some n) x.val) w:=by
 obtain⟨G',i1,i2,i3,i4,i5⟩:=h.inv.put n x hok hsep hfz hrf;refine⟨G',⟨i1,λt ht=>?_,by simp[Act.put,h.size],h.small,by simpa [Act.put] using h.defers,⟨h.tr.ext,λt b k hf=>?_,h.tr.pT,h.tr.zl,h.tr.gl,h.tr.AH⟩,λi v hi=>?_⟩⟩
 ·by_cases e:t=n;·subst e;rw[i2];simp only[Act.put,wD];rw[Wv (by rw[h.size];exact hn)];rfl
  ·rw[i3 t e,h.val t ht];simp only[Act.put,wD];rw[Pp (λe'=>e e'.symm)]
 ·by_cases e:t=n;·subst e;exact hdom b k (i4 b k hf)
  ·exact h.tr.dom t b k (i5 t e b k hf)
 ·rw[i3 _ (by have:=h.small;omega)];exact h.args i v hi
def Oe(h:St c G zl s a w){x:C}(hT:fE w zl c.zb G x G1 s1){n:Nat}(hn:n<c.nt):∃G',St c G' zl (M.put n x.er s1) (a.put (some n) x.val) w:=by have h1:St c G1 zl s1 a w:=h.move hT.inv hT.val (Ext.refl (λ_ _=>False) w) (λ_ _ hs=>hs.elim) (λt b k hf=>.inl ⟨t,hT.mono t b k hf⟩);exact h1.put hn hT.ok (λt _ b k hf=>hT.sep t b k hf) hT.fz hT.rf (λb k hf=>by obtain⟨t,ht⟩:=hT.dom b k hf;exact h.tr.dom t b k ht)
def Cg(h:St c G zl s a w){x:C}(ho:ew w zl c.zb G x){n:Nat}(hn:n<c.nt):∃G',St c G' zl (M.put n x.er s) (a.put (some n) x.val) w:=
 h.Oe (fE.self h.inv ho.ok ho.rf ho.cS) hn
def flat(h:St c G zl s a w){x:C}(hp:x.plain)(Lq:∀m sz A len cap e,x≠.row m sz A len cap e)(hok:x.ok w (Zf zl c.zb)){n:Nat}(hn:n<c.nt):∃G',St c G' zl (M.put n x.er s) (a.put (some n) x.val) w:=
 h.Cg ⟨hok,C.oW hp G,λb k hf=>by cases x<;>first|exact hf.elim|exact hp.elim|exact(Lq _ _ _ _ _ _ rfl).elim⟩ hn
end St
def Good(P:Program)(c:Ctx)(o:Oper)(a:Act)(w:World)(K:ah->Prop):Prop:=
 ∃v w',((execOp a.eval o).run P w=.ok (.value v) w'\/((execOp a.eval o).run P w=.ok .skip w'/\v=undef))/\∃G' aH s',K s'/\St c G' aH s' (a.put o.dst v) w'
def dM(P:Program)(c:Ctx)(o:Oper)(a:Act)(w:World)(K:ah->Prop):Prop:=
 ∃v,(∀w',Ext (λ_ _=>False) w w'->(execOp a.eval o).run P w'=.ok (.value v) w')/\∃G' aH s',K s'/\St c G' aH s' (a.put o.dst v) w
def dM.good{P:Program}{c:Ctx}{o:Oper}{a:Act}{w:World}{K:ah->Prop}(h:dM P c o a w K):Good P c o a w K:=by obtain⟨v,hr,h⟩:=h;exact⟨v,w,.inl (hr w (Ext.refl _ _)),h⟩
def Rel(q:Bool)(w w':World):Prop:=q=true->Ext (λ_ _=>False) w w'
def Rel.refl(q:Bool)(w:World):Rel q w w:=λ_=>Ext.refl _ _
def jX(P:Program)(c:Ctx)(o:Oper)(a:Act)(w:World)(K:ah->Prop):Prop:=
 ∃v w',(execOp a.eval o).run P w=.ok (.value v) w'/\Ext (λ_ _=>False) w w'/\∃G' aH s',K s'/\St c G' aH s' (a.put o.dst v) w'
def jX.good{P:Program}{c:Ctx}{o:Oper}{a:Act}{w:World}{K:ah->Prop}(h:jX P c o a w K):Good P c o a w K:=by obtain⟨v,w',hr,_,h⟩:=h;exact⟨v,w',.inl hr,h⟩
def dM.quiet{P:Program}{c:Ctx}{o:Oper}{a:Act}{w:World}{K:ah->Prop}(h:dM P c o a w K):jX P c o a w K:=by obtain⟨v,hr,h⟩:=h;exact⟨v,w,hr w (Ext.refl _ _),Ext.refl _ _,h⟩
def EE:Value->X->Bool
 |.int k n,.int k' n'=>decide (k=k') && decide (n=n')
 |.bool b,.bool b'=>b==b'
 |.string s,.str s'=>decide (s=s') && decide (s.size<=9223372036854775807)
 |.slice none 0 0,.row .own _ []=>true
 |_,_=>false
def aQ:Operand->AV->Bool
 |.tmp n,.t n'=>n==n' && decide (n<base)
 |.const v,.k .dead=>true
 |.const v,.k x=>EE v x
 |.func f,.k (.fn f' [])=>f==f'
 |_,_=>false
section
variable {c:Ctx}{G:Nat->C}{zl:Nat->Nat->Prop}{s:ah}{a:Act}{w:World}
def Q9{v:Value}{x:X}(h:EE v x=true):∃d:C,d.er=x/\d.val=v/\ew w zl c.zb G d/\d.plain:=by
 unfold EE at h;split at h;·simp only[aB,bp] at h;obtain⟨rfl,rfl⟩:=h;exact⟨.int _ _,rfl,rfl,⟨trivial,trivial,λ_ _ h=>h⟩,trivial⟩
 ·simp only[en] at h;subst h;exact⟨.bool _,rfl,rfl,⟨trivial,trivial,λ_ _ h=>h⟩,trivial⟩
 ·simp only[aB,bp] at h;obtain⟨rfl,h⟩:=h;exact⟨.str _,rfl,rfl,⟨h,trivial,λ_ _ h=>h⟩,trivial⟩
 ·rename_i sz;refine⟨.row .own sz none 0 0 λ_ _=>.dead undef,rfl,rfl,⟨⟨ek _,λi j hi=>(by omega),λi j hi=>(by omega),λ_=>.inl ⟨rfl,rfl⟩,λi j hi=>(by omega)⟩,trivial,?_⟩,trivial⟩;rintro b k ⟨_,⟨o,ho⟩|⟨i,j,hi,_⟩⟩;·cases ho
  ·omega
 ·cases h
def cx(h:St c G zl s a w){o:Operand}{x:AV}(hc:aQ o x=true):∃d:C,d.er=aC s x/\d.val=a.eval o/\ew w zl c.zb G d:=by
 unfold aQ at hc;split at hc;·simp only[aB,en,bp] at hc;obtain⟨rfl,hb⟩:=hc;rename_i n;obtain⟨a1,a2,a3⟩:=Uj h n;exact⟨_,a1,a2.trans (h.val n hb),a3⟩
 ·rename_i v;exact⟨.dead v,rfl,rfl,⟨trivial,trivial,λ_ _ h=>h⟩⟩
 ·obtain⟨d,h1,h2,h3,_⟩:=Q9 (w:=w) (zl:=zl) (c:=c) (G:=G) hc;exact⟨d,h1,h2,h3⟩
 ·simp only[en] at hc;subst hc;exact⟨.fn _ 0 λ_=>.dead undef,rfl,rfl,⟨λj hj=>(by omega),λj hj=>(by omega),λ_ _ h=>h⟩⟩
 ·cases hc
def nA{d:C}{k:IntKind}{n:Int}(h:d.er=.int k n):d=.int k n:=by cases d<;>simp[C.er] at h⊢ <;>first|exact h|skip
def rX{d:C}{b:Bool}(h:d.er=.bool b):d=.bool b:=by cases d<;>simp[C.er] at h⊢;exact h
def EW{d:C}{t:ByteArray}(h:d.er=.str t):d=.str t:=by cases d<;>simp[C.er] at h⊢;exact h
def Ui{P:Program}(h:St c G zl s a w){o:Oper}{K:ah->Prop}{d:Nat}{x:AV}{x':Operand}(ho:o.op=.move x'\/o.op=.assign x')(hd:o.dst=some d)(hn:d<c.nt)(hx:aQ x' x=true)(hK:aT P (.mv d x) s K):dM P c o a w K:=by
 obtain⟨y,e1,e2,e3⟩:=cx h hx;obtain⟨G',h'⟩:=h.Cg e3 hn;refine⟨a.eval x',λw' _=>?_,G',zl,_,hK,?_⟩;·rcases ho with ho|ho<;>simp[execOp,ho]
 ·rw[hd,<-e2,<-e1];exact h'
def ag7{P:Program}(h:St c G zl s a w){o:Oper}{K:ah->Prop}{d:Nat}{tk:Tk}{x:AV}{x':Operand}(ho:o.op=.assign x')(hd:o.dst=some d)(hn:d<c.nt)(hx:aQ x' x=true)(hK:aT P (.aN d tk x) s K):jX P c o a w K:=by obtain⟨y,e1,e2,e3⟩:=cx h hx;obtain⟨y',G1,f1,f2,_,f4⟩:=qV tk h.inv e3;obtain⟨G',h'⟩:=h.Oe f4 hn;refine⟨a.eval x',w,by simp[execOp,ho],Ext.refl _ _,G',zl,_,hK,?_⟩;rw[hd,<-e2,<-f2,<-e1,<-f1];exact h'
def ahw{P:Program}(h:St c G zl s a w){o:Oper}{K:ah->Prop}{d:Nat}{x y z:AV}{x' y' z':Operand}(ho:o.op=.pick x' y' z')(hd:o.dst=some d)(hn:d<c.nt)(hx:aQ x' x=true)(hy:aQ y' y=true)(hz:aQ z' z=true)
  (hK:aT P (.pick d x y z) s K):dM P c o a w K:=by
 obtain⟨p,p1,p2,p3⟩:=cx h hx;obtain⟨q,q1,q2,q3⟩:=cx h hy;obtain⟨r,r1,r2,r3⟩:=cx h hz;simp only[aT] at hK;split at hK
 ·rename_i t ht;rw[<-p1] at ht;have hp:=rX ht;subst hp
  have hsel:∃u:C,u.er=Ch t (aC s y) (aC s z)/\u.val=(if t then a.eval y' else a.eval z')/\ew w zl c.zb G u:=by
   rw[<-q1,<-r1,<-q2,<-r2];unfold Ch;split;·rename_i b1 b2 h1 h2;have hq:=rX h1;have hr:=rX h2;subst hq;subst hr;refine⟨.bool (bif t then b1 else b2),rfl,?_,⟨trivial,trivial,λ_ _ h=>h⟩⟩;cases t<;>rfl
   ·cases t;·exact⟨r,rfl,rfl,r3⟩
    ·exact⟨q,rfl,rfl,q3⟩
  obtain⟨u,u1,u2,u3⟩:=hsel;obtain⟨G',h'⟩:=h.Cg u3 hn;refine⟨if t then a.eval y' else a.eval z',λw' _=>?_,G',zl,_,hK,?_⟩
  ·have:a.eval x'=.bool t:=by rw[<-p2];rfl
   simp[execOp,ho,this,asBool]
  ·rw[hd,<-u2,<-u1];exact h'
 ·exact hK.elim
end
end M
namespace M
open Go Go.RowKit
variable [Bs]
section
variable {P:Program}{c:Ctx}{G:Nat->C}{zl:Nat->Nat->Prop}{s:ah}{a:Act}{w:World}{o:Oper}{K:ah->Prop}
def JT(x y:ByteArray):(x.toList==y.toList)=decide (x=y):=by
 rw[O0];simp only[en,bp,Go.ByteArray.toList_eq];constructor;·intro h;cases x;cases y;congr 1;exact Array.toList_inj.1 h
 ·intro h;rw[h]
def dR(h:St c G zl s a w){d:Nat}(hd:o.dst=some d)(hn:d<c.nt){x:C}(hp:x.plain)(Lq:∀m sz A len cap e,x≠.row m sz A len cap e)(hok:x.ok w (Zf zl c.zb))
  (hrun:∀w',Ext (λ_ _=>False) w w'->(execOp a.eval o).run P w'=.ok (.value x.val) w')(hK:K (put d x.er s)):dM P c o a w K:=by obtain⟨G',h'⟩:=h.flat hp Lq hok hn;exact⟨_,hrun,G',zl,_,hK,by rw[hd];exact h'⟩
def jL(h:St c G zl s a w){d:Nat}(hd:o.dst=some d)(hn:d<c.nt){x:C}(hx:ew w zl c.zb G x)
  (hrun:∀w',Ext (λ_ _=>False) w w'->(execOp a.eval o).run P w'=.ok (.value x.val) w')(hK:K (put d x.er s)):dM P c o a w K:=by obtain⟨G',h'⟩:=h.Cg hx hn;exact⟨_,hrun,G',zl,_,hK,by rw[hd];exact h'⟩
def ahD(h:St c G zl s a w){d:Nat}{op:UnOp}{ty:TypeId}{x:AV}{x':Operand}(ho:o.op=.unOp op ty x')(hd:o.dst=some d)(hn:d<c.nt)(hx:aQ x' x=true)
  (hK:aT P (.un d op x) s K):dM P c o a w K:=by
 obtain⟨y,e1,e2,e3⟩:=cx h hx;obtain⟨k1,k2⟩:=hK;rw[<-e1] at k1 k2;cases y with
 |int k n=>cases op<;>simp only[zw,C.er] at k1;refine dR h hd hn (x:=.int k (k.wrap (0 - n))) trivial (λ_ _ _ _ _ _ e=>(by cases e)) trivial (λw' _=>?_) k2;simp[execOp,ho,<-e2,C.val,Op.unary,Op.intArith]
 |bool b=>cases op<;>simp only[zw,C.er] at k1;refine dR h hd hn (x:=.bool (!b)) trivial (λ_ _ _ _ _ _ e=>(by cases e)) trivial (λw' _=>?_) k2;simp[execOp,ho,<-e2,C.val,Op.unary]
 |_=>cases op<;>exact k1.elim
def ag9(h:St c G zl s a w){d:Nat}{op:BinOp}{ty ty':TypeId}{x y:AV}{x' y':Operand}(ho:o.op=.binOp op ty x' y' ty')(hd:o.dst=some d)(hn:d<c.nt)(hx:aQ x' x=true)(hy:aQ y' y=true)
  (hK:aT P (.bin d op x y) s K):dM P c o a w K:=by
 obtain⟨p,p1,p2,p3⟩:=cx h hx;obtain⟨q,q1,q2,q3⟩:=cx h hy;obtain⟨k1,k2⟩:=hK;rw[<-p1,<-q1] at k1 k2;cases p with
 |int k m=>
  cases q with
  |int k' n=>
   have hrun:∀v:C,(∀w,(binOp op ty (.int k m) (.int k' n)).run P w=.ok v.val w)->∀w',Ext (λ_ _=>False) w w'->(execOp a.eval o).run P w'=.ok (.value v.val) w':=by
    intro v hv w' _;have hg:eqGuard op ty x' y' (.int k m) (.int k' n)=pure ():=by unfold eqGuard;cases op<;>rfl
    simp[execOp,ho,<-p2,<-q2,C.val,hg,hv]
   cases op<;>simp only[wP,C.er] at k1;case add=>subst k1;exact dR h hd hn (x:=.int k _) trivial (λ_ _ _ _ _ _ e=>(by cases e)) trivial (hrun _ (λw=>by simp[binOp,Op.intArith,C.val])) k2
   case sub=>subst k1;exact dR h hd hn (x:=.int k _) trivial (λ_ _ _ _ _ _ e=>(by cases e)) trivial (hrun _ (λw=>by simp[binOp,Op.intArith,C.val])) k2
   case mul=>subst k1;exact dR h hd hn (x:=.int k _) trivial (λ_ _ _ _ _ _ e=>(by cases e)) trivial (hrun _ (λw=>by simp[binOp,Op.intArith,C.val])) k2
   case quo=>obtain⟨rfl,k1⟩:=k1;exact dR h hd hn (x:=.int k _) trivial (λ_ _ _ _ _ _ e=>(by cases e)) trivial (hrun _ (λw=>by simp[binOp,Op.intDiv,C.val,k1])) k2
   case rem=>obtain⟨rfl,k1⟩:=k1;exact dR h hd hn (x:=.int k _) trivial (λ_ _ _ _ _ _ e=>(by cases e)) trivial (hrun _ (λw=>by simp[binOp,Op.intDiv,C.val,k1])) k2
   case shl=>exact dR h hd hn (x:=.int k _) trivial (λ_ _ _ _ _ _ e=>(by cases e)) trivial (hrun _ (λw=>by simp[binOp,Op.shift,C.val,show ¬n<0 by omega])) k2
   case shr=>exact dR h hd hn (x:=.int k _) trivial (λ_ _ _ _ _ _ e=>(by cases e)) trivial (hrun _ (λw=>by simp[binOp,Op.shift,C.val,show ¬n<0 by omega])) k2
   case and=>subst k1;exact dR h hd hn (x:=.int k _) trivial (λ_ _ _ _ _ _ e=>(by cases e)) trivial (hrun _ (λw=>by simp[binOp,Op.intBits,C.val])) k2
   case or=>subst k1;exact dR h hd hn (x:=.int k _) trivial (λ_ _ _ _ _ _ e=>(by cases e)) trivial (hrun _ (λw=>by simp[binOp,Op.intBits,C.val])) k2
   case xor=>subst k1;exact dR h hd hn (x:=.int k _) trivial (λ_ _ _ _ _ _ e=>(by cases e)) trivial (hrun _ (λw=>by simp[binOp,Op.intBits,C.val])) k2
   case eql=>subst k1;exact dR h hd hn (x:=.bool _) trivial (λ_ _ _ _ _ _ e=>(by cases e)) trivial (hrun _ (λw=>by simp only[binOp,Op.intCmp,C.val,aF (Classical.not_not.2 rfl)];rfl)) k2
   case neq=>subst k1;exact dR h hd hn (x:=.bool _) trivial (λ_ _ _ _ _ _ e=>(by cases e)) trivial (hrun _ (λw=>by simp only[binOp,Op.intCmp,C.val,aF (Classical.not_not.2 rfl)];rfl)) k2
   case lss=>subst k1;exact dR h hd hn (x:=.bool _) trivial (λ_ _ _ _ _ _ e=>(by cases e)) trivial (hrun _ (λw=>by simp[binOp,Op.intCmp,C.val])) k2
   case leq=>subst k1;exact dR h hd hn (x:=.bool _) trivial (λ_ _ _ _ _ _ e=>(by cases e)) trivial (hrun _ (λw=>by simp[binOp,Op.intCmp,C.val])) k2
   case gtr=>subst k1;exact dR h hd hn (x:=.bool _) trivial (λ_ _ _ _ _ _ e=>(by cases e)) trivial (hrun _ (λw=>by simp[binOp,Op.intCmp,C.val])) k2
   case geq=>subst k1;exact dR h hd hn (x:=.bool _) trivial (λ_ _ _ _ _ _ e=>(by cases e)) trivial (hrun _ (λw=>by simp[binOp,Op.intCmp,C.val])) k2
  |_=>exact k1.elim
 |str m=>
  cases q with
  |str n=>
   have hrun:∀v:C,(∀w,(binOp op ty (.string m) (.string n)).run P w=.ok v.val w)->∀w',Ext (λ_ _=>False) w w'->(execOp a.eval o).run P w'=.ok (.value v.val) w':=by
    intro v hv w' _;have hg:eqGuard op ty x' y' (.string m) (.string n)=pure ():=by unfold eqGuard;cases op<;>rfl
    simp[execOp,ho,<-p2,<-q2,C.val,hg,hv]
   cases op<;>simp only[wP,C.er] at k1
   case add=>
    have hsz:(m++n).size=m.size+n.size:=by simp
    exact dR h hd hn (x:=.str _) trivial (λ_ _ _ _ _ _ e=>(by cases e)) (by show (m++n).size<=_;omega) (hrun _ (λw=>by
     have:¬((m.size+n.size:Nat):Int)>IntKind.i64.max:=by show ¬(((m.size+n.size:Nat):Int)>9223372036854775807);omega
     simp only[binOp,Op.stringOp,aF this,C.val,Sem.run_pure])) k2
   case eql=>exact dR h hd hn (x:=.bool _) trivial (λ_ _ _ _ _ _ e=>(by cases e)) trivial (hrun _ (λw=>by simp only[binOp,Op.stringOp,C.val,JT,Sem.run_pure])) k2
   case neq=>exact dR h hd hn (x:=.bool _) trivial (λ_ _ _ _ _ _ e=>(by cases e)) trivial (hrun _ (λw=>by simp only[binOp,Op.stringOp,C.val,JT,Sem.run_pure])) k2
  |_=>exact k1.elim
 |_=>exact k1.elim
def run_eql_bool{ty:TypeId}(ht:P.underlying ty=some .bool)(x y:Bool):(binOp .eql ty (.bool x) (.bool y)).run P w=.ok (.bool (x==y)) w:=by show ((do pure (Value.bool (<-Op.equal ty (.bool x) (.bool y))):Sem Value).run P w)=_;rw[Sem.run_bind];unfold Op.equal;show ((Op.equalIn (9999+1) ty (.bool x) (.bool y)).run P w).andThen _=_;rw[run_equalIn_bool' w 9999 ty x y ht];rfl
def run_neq_bool{ty:TypeId}(ht:P.underlying ty=some .bool)(x y:Bool):(binOp .neq ty (.bool x) (.bool y)).run P w=.ok (.bool (!(x==y))) w:=by show ((do pure (Value.bool (!(<-Op.equal ty (.bool x) (.bool y)))):Sem Value).run P w)=_;rw[Sem.run_bind];unfold Op.equal;show ((Op.equalIn (9999+1) ty (.bool x) (.bool y)).run P w).andThen _=_;rw[run_equalIn_bool' w 9999 ty x y ht];rfl
def Sq(op:BinOp)(ty:TypeId)(p q:Operand)(x y:Bool):eqGuard op ty p q (.bool x) (.bool y)=pure ():=by unfold eqGuard;cases op<;>rfl
def ag8(h:St c G zl s a w){d:Nat}{neg:Bool}{ty ty':TypeId}{x y:AV}{x' y':Operand}(ho:o.op=.binOp (bif neg then .neq else .eql) ty x' y' ty')(ht:P.underlying ty=some .bool)(hd:o.dst=some d)(hn:d<c.nt)(hx:aQ x' x=true)(hy:aQ y' y=true)
  (hK:aT P (.beq d neg x y) s K):dM P c o a w K:=by
 obtain⟨p,p1,p2,p3⟩:=cx h hx;obtain⟨q,q1,q2,q3⟩:=cx h hy;simp only[aT] at hK;split at hK
 ·rename_i b1 b2 h1 h2;rw[<-p1] at h1;rw[<-q1] at h2;have e1:=rX h1;have e2:=rX h2;subst e1;subst e2;refine dR h hd hn (x:=.bool (xor neg (b1==b2))) trivial (λ_ _ _ _ _ _ e=>(by cases e)) trivial (λw' _=>?_) hK;cases neg;·simp only[execOp,ho,<-p2,<-q2,C.val,Sq,Sem.run_bind,Sem.run_pure,Result.andThen_ok,ri,run_eql_bool ht,Bool.false_bne]
  ·simp only[execOp,ho,<-p2,<-q2,C.val,Sq,Sem.run_bind,Sem.run_pure,Result.andThen_ok,mw,run_neq_bool ht,Bool.true_bne]
 ·exact hK.elim
def ahi(h:St c G zl s a w){d:Nat}{k:IntKind}{sr dt:TypeId}{sd:TypeDesc}{x:AV}{x':Operand}(ho:o.op=.convert sr dt x')(hs:P.underlying sr=some sd)(hu:P.underlying dt=some (.int k))(hd:o.dst=some d)(hn:d<c.nt)(hx:aQ x' x=true)
  (hK:aT P (.conv d k x) s K):dM P c o a w K:=by
 obtain⟨y,e1,e2,e3⟩:=cx h hx;simp only[aT] at hK;split at hK;·rename_i k' n hy;rw[<-e1] at hy;have:=nA hy;subst this;refine dR h hd hn (x:=.int k _) trivial (λ_ _ _ _ _ _ e=>(by cases e)) trivial (λw' _=>?_) hK;simp[execOp,ho,<-e2,C.val,convert,run_underlying hs,run_underlying hu,Conv.intToInt]
 ·exact hK.elim
def ahg(h:St c G zl s a w){d:Nat}{x:AV}{x':Operand}(ho:o.op=.nilCheck x')(hd:o.dst=some d)(hn:d<c.nt)(hx:aQ x' x=true)
  (hK:aT P (.bN d x) s K):dM P c o a w K:=by
 obtain⟨y,e1,e2,e3⟩:=cx h hx;simp only[aT] at hK;rw[<-e1] at hK;cases y with
 |az v r p i k=>obtain⟨y,hs,hy⟩:=e3.rf;refine jL h hd hn e3 (λw' _=>?_) hK;rcases hy with ⟨m,sz,g,o',len,cap,e,rfl,hv⟩|⟨m,g,o',n,cc,rfl,_,hv⟩<;>(simp only[C.val] at e2;subst hv;simp[execOp,ho,<-e2,C.val])
 |ptr m g o' n f=>refine jL h hd hn e3 (λw' _=>?_) hK;simp only[C.val] at e2;simp[execOp,ho,<-e2,C.val]
 |fn f n g=>refine jL h hd hn e3 (λw' _=>?_) hK;simp only[C.val] at e2;simp[execOp,ho,<-e2,C.val]
 |_=>exact hK.elim
end
end M
namespace M
open Go Go.RowKit
variable [Bs]
def rC(g k j:Nat):(⟨g,k,none⟩:Addr).add j=⟨g,k+j,none⟩:=by
 unfold Addr.add;split;·rename_i h;subst h;rfl
 ·rfl
def oX(n c:Nat):(List.range n).drop c=(List.range (n - c)).map (· +c):=by
 apply gy;intro i;rw[pS,cZ];by_cases h:c+i<n;·rw[tS h,tS (by omega)];simp[oh]
 ·rw[jG (by simp;omega),jG (by simp;omega)];rfl
section
variable {P:Program}{c:Ctx}{G:Nat->C}{zl:Nat->Nat->Prop}{s:ah}{a:Act}{w:World}{o:Oper}{K:ah->Prop}
structure Yg (w:World) (zl zb:Nat->Nat->Prop) (G:Nat->C) (v:Value) (l:List C):Prop where
 addr:∃g k,v=.pointer (some ⟨g,k,none⟩)/\∀j (hj:j<l.length),w.cell? ⟨g,k+j,none⟩=some l[j].val
 Cg:∀x∈l,ew w zl zb G x/\x.cell
def TC{zb:Nat->Nat->Prop}(h:Inv w zl zb G s){y:C}(hy:ew w zl zb G y){cs:List X}(hc:gD s y.er=some cs):∃l:List C,l.map C.er=cs/\Yg w zl zb G y.val l:=by
 cases y with
 |ptr m g o n f=>
  simp only[C.er,gD] at hc;injection hc with hc
  obtain⟨h1,h2,h3,h4⟩:=hy.ok;refine⟨(List.range n).map f,by rw[<-hc,cP];rfl,⟨⟨g,o,rfl,λj hj=>?_⟩,λx hx=>?_⟩⟩;·simp only[cV,tU] at hj;simp only[Pm,Pn];exact(h1 j hj).1
  ·obtain⟨j,hj,rfl⟩:=bw.1 hx;have hj':j<n:=by simpa using hj
   obtain⟨a1,a2,a3⟩:=h3 j hj';exact⟨⟨a3,hy.rf j hj',λb k hf=>hy.cS b k (C.kY a1 a2 hj' hf)⟩,a1⟩
 |az v r p i k0=>
  obtain⟨z,hz,hp⟩:=hy.rf;have sG:=C.iu p hz (h.ok r);have Te:=Inv.wh.Dr p (h.ok r) hz (h.rf r);simp only[C.er,gD,look] at hc;rw[<-h.er,C.gP,hz] at hc;simp only[cv] at hc;rcases hp with ⟨m,sz,g,o,len,cap,e,rfl,rfl⟩|⟨m,g,o,n,f,rfl,rfl,rfl⟩
  ·simp only[C.er,C.de] at hc;by_cases hi:i<len
   ·rw[ax hi] at hc;simp only[cv,dP] at hc;refine⟨((List.range (sz - k0)).map (· +k0)).map λj=>(e i j).jk r (p++[(i,j)]),?_,⟨⟨g,o+i*sz+k0,rfl,λj hj=>?_⟩,λx hx=>?_⟩⟩;·rw[<-hc,<-mj,oX];rw[C.wN r p i ((List.range (sz - k0)).map (· +k0)) k0 (λj=>e i j) (by simp)];simp only[cP];rfl
    ·simp only[cV,tU] at hj;simp only[Pm,Pn,C.Ab];obtain⟨g',o',hA,hcell,_⟩:=sG.2.1 i (j+k0) hi (by omega);injection hA with hA
     injection hA with e1 e2
     injection e2 with e2
     subst e1;subst e2;rw[show o+i*sz+k0+j=o+i*sz+(j+k0) by omega];exact hcell
    ·obtain⟨j,hj,rfl⟩:=bw.1 hx;obtain⟨j',hj',rfl⟩:=bw.1 hj;have hj2:j'+k0<sz:=by simp at hj';omega
     obtain⟨a1,a2,a3,a4⟩:=sG.2.2.1 i (j'+k0) hi hj2;refine⟨⟨C.z8 _ _ _ a4,C.Aa _ _ _ (C.tI p hz (by simp only[C.step,ax (And.intro hi hj2)])) ?_,C.z7 _ _ _ (C.Kj a1)⟩,C.JJ _ _ _ a1⟩;have:=Inv.wh.Dr (w:=w) (zl:=zl) (zb:=zb) (G:=G) [(i,j'+k0)] sG (d:=e i (j'+k0)) (by simp only[C.sub,C.step,ax (And.intro hi hj2)];rfl) Te;exact this
   ·rw[aF hi] at hc;cases hc
  ·simp only[C.er,dP] at hc;refine⟨((List.range (n - k0)).map (· +k0)).map λj=>(f j).jk r (p++[(0,j)]),?_,⟨⟨g,o+k0,rfl,λj hj=>?_⟩,λx hx=>?_⟩⟩;·rw[<-hc,<-mj,oX];rw[C.wN r p 0 ((List.range (n - k0)).map (· +k0)) k0 f (by simp)];simp only[cP];rfl
   ·simp only[cV,tU] at hj;simp only[Pm,Pn,C.Ab];rw[show o+k0+j=o+(j+k0) by omega];exact(sG.1 (j+k0) (by omega)).1
   ·obtain⟨j,hj,rfl⟩:=bw.1 hx;obtain⟨j',hj',rfl⟩:=bw.1 hj;have hj2:j'+k0<n:=by simp at hj';omega
    obtain⟨a1,a2,a3⟩:=sG.2.2.1 (j'+k0) hj2;exact⟨⟨C.z8 _ _ _ a3,C.Aa _ _ _ (C.tI p hz (ax (And.intro rfl hj2))) (Te _ hj2),C.z7 _ _ _ (C.Kj a1)⟩,C.JJ _ _ _ a1⟩
 |_=>simp[C.er,gD] at hc
def Yx{zb:Nat->Nat->Prop}{l:List C}(h:∀x∈l,ew w zl zb G x/\x.cell):ew w zl zb G (gR l) where
 ok:=⟨λj hj=>⟨(h _ (cQ hj _)).2,(h _ (cQ hj _)).1.ok⟩,λj hj b k hf=>((h _ (cQ hj _)).1.cS b k hf).elim⟩
 rf:=λj hj=>(h _ (cQ hj _)).1.rf
 cS:=λb k hf=>by obtain⟨x,hx,hf⟩:=(rD _ _ _).1 hf;exact(h x hx).1.cS b k hf
def Uh(h:St c G zl s a w){d sz:Nat}{agg:Bool}{ty:TypeId}{x:AV}{x':Operand}(ho:o.op=.load ty x')(hsz:∃i,P.info? ty=some i/\i.size=sz)(nD:∃dd,P.underlying ty=some dd/\(match dd with|.struct _=>true|.array _ _=>true|_=>false)=agg)
  (h1:agg=true\/sz=1)(hd:o.dst=some d)(hn:d<c.nt)(hx:aQ x' x=true)
  (hK:aT P (.load d sz agg x) s K):dM P c o a w K:=by
 obtain⟨y,e1,e2,e3⟩:=cx h hx;obtain⟨cs,k1,k2,k3⟩:=hK;rw[<-e1] at k1;obtain⟨l,l1,⟨g,k,hv,hcell⟩,l3⟩:=TC h.inv e3 k1;have hlen:l.length=cs.length:=by rw[<-l1];simp
 obtain⟨i,hi,kU⟩:=hsz;obtain⟨dd,AR,hda⟩:=nD;have uP:∀w:World,(isAgg ty).run P w=.ok agg w:=by intro w;subst hda;simp only[isAgg,Sem.run_bind,run_underlying AR,Result.andThen_ok];cases dd<;>rfl
 have hsize:∀w:World,(Go.sizeOf ty).run P w=.ok sz w:=by intro w;simp[Go.sizeOf,typeInfo,hi,kU]
 have SK:∀w',Ext (λ_ _=>False) w w'->∀j (hj:j<l.length),w'.cell? ⟨g,k+j,none⟩=some l[j].val:=λw' hE j hj=>hE.cell (λhs=>hs) (hcell j hj);have mI:∀w:World,(execOp a.eval o).run P w=((loadVar ty ⟨g,k,none⟩).run P w).andThen λv w'=>.ok (.value v) w':=by intro w;simp[execOp,ho,<-e2,hv,Instr.loadAt,Instr.sureAddr]
 cases agg with
 |true=>
  have hl:∀w',Ext (λ_ _=>False) w w'->(loadCells ⟨g,k,none⟩ sz).run P w'=.ok ((List.range sz).map λj=>((l.take sz).getD j (.dead undef)).val).toArray w':=λw' hE=>run_loadCells w' _ sz _ (λj hj=>by rw[rC,SK w' hE j (by omega)];congr 1;rw[ji,Ph hj,cz (by omega)];rfl)
  have hval:(gR (l.take sz)).val=.agg ((List.range sz).map λj=>((l.take sz).getD j (.dead undef)).val).toArray:=by simp only[gR,C.val,zF];rw[mq (by omega)]
  refine jL h hd hn (x:=gR (l.take sz)) (Yx λx hx=>l3 x (OL hx)) ?_ ?_;·intro w' hE;rw[mI,hval];simp only[loadVar,Sem.run_bind,uP,Result.andThen_ok,dh,hsize,hl w' hE,Sem.run_pure]
  ·rw[wM,pO,l1];exact k3
 |false=>
  have hs1:sz=1:=h1.resolve_left (by simp);subst hs1;cases l with
  |nil=>simp at hlen;omega
  |cons y0 l=>
   refine jL h hd hn (x:=y0) (l3 y0 (bD ..)).1 ?_ ?_;·intro w' hE;have hc0:=SK w' hE 0 (by simp);simp only[om,Jw] at hc0;rw[mI];simp only[loadVar,Sem.run_bind,uP,Result.andThen_ok,fD,dQ,run_load,hc0]
   ·rw[<-l1] at k3;exact k3
def ahk(h:St c G zl s a w){d off fi:Nat}{ty:TypeId}{fs:Array Field}{f:Field}{x:AV}{x':Operand}(ho:o.op=.fieldAddr ty x' fi)(hu:P.underlying ty=some (.struct fs))(hf:fs[fi]?=some f)(hfo:f.offset=off)(hfs:∃i,P.info? f.type=some i/\i.size≠0)
  (hd:o.dst=some d)(hn:d<c.nt)(hx:aQ x' x=true)(hK:aT P (.p9 d x off) s K):dM P c o a w K:=by
 obtain⟨y,e1,e2,e3⟩:=cx h hx;obtain⟨i,hi,hi0⟩:=hfs;have hrun:∀g k,a.eval x'=.pointer (some ⟨g,k,none⟩)->∀w',Ext (λ_ _=>False) w w'->(execOp a.eval o).run P w'=.ok (.value (.pointer (some ⟨g,k+off,none⟩))) w':=by intro g k hv w' _;simp[execOp,ho,hv,Instr.fieldAt,Instr.sureAddr,run_underlying hu,hf,fieldPlace,Go.sizeOf,typeInfo,hi,hi0,rC,hfo]
 simp only[aT] at hK;rw[<-e1] at hK;cases y with
 |az v r p i' k0=>
  obtain⟨z,hz,hp⟩:=e3.rf
  have hcase:∃g k,v=.pointer (some ⟨g,k,none⟩)/\(C.az (.pointer (some ⟨g,k+off,none⟩)) r p i' (k0+off)).rf G:=by
   rcases hp with ⟨m,sz,g,o',len,cap,e,rfl,rfl⟩|⟨m,g,o',n,f',rfl,rfl,rfl⟩;·exact⟨_,_,rfl,_,hz,.inl ⟨_,_,_,_,_,_,_,rfl,by rw[q8]⟩⟩
   ·exact⟨_,_,rfl,_,hz,.inr ⟨_,_,_,_,_,rfl,rfl,by rw[q8]⟩⟩
  obtain⟨g,k,rfl,hrf⟩:=hcase;refine jL h hd hn (x:=.az (.pointer (some ⟨g,k+off,none⟩)) r p i' (k0+off)) ⟨trivial,hrf,λ_ _ hh=>hh⟩ ?_ hK;exact hrun g k e2.symm
 |ptr m g o' n f'=>
  obtain⟨h1,h2,h3,h4⟩:=e3.ok;refine jL h hd hn (x:=.ptr m g (o'+off) (n - off) λj=>f' (j+off)) ⟨⟨λj hj=>?_,h2,λj hj=>h3 (j+off) (by omega),λj hj b k hf=>?_⟩,λj hj=>e3.rf (j+off) (by omega),λb k hf=>?_⟩ ?_ ?_;·rw[show o'+off+j=o'+(j+off) by omega];exact h1 (j+off) (by omega)
  ·obtain⟨a1,a2⟩:=h4 (j+off) (by omega) b k hf;exact⟨λhm hb=>a1 hm (by omega),λj' hj' hne=>a2 (j'+off) (by omega) (by omega)⟩
  ·obtain⟨hm,hf|⟨j,hj,hf⟩⟩:=hf;·exact e3.cS b k ⟨hm,.inl (by omega)⟩
   ·exact e3.cS b k ⟨hm,.inr ⟨j+off,by omega,hf⟩⟩
  ·exact hrun g o' e2.symm
  ·have:(C.ptr m g (o'+off) (n - off) λj=>f' (j+off)).er=.ptr m (((List.range n).map λj=>(f' j).er).drop off):=by simp only[C.er];rw[<-mj,oX,cP];rfl
   rw[this];exact hK
 |_=>exact hK.elim
end
end M
namespace M
open Go Go.RowKit
variable [Bs]
def E5(P:Program)(t:TypeId)(k:Nat):Bool:=match P.underlying t with
 |some (.int _)=>k==0
 |some .bool=>k==1
 |some .string=>k==2
 |_=>false
def E4(P:Program):Nat->List Nat->List Field->Bool
 |_,[],[]=>true
 |n,k::ks,f::l=>decide (f.offset=n) && decide (f.name≠ "_") && E5 P f.type k && E4 P (n+1) ks l
 |_,_,_=>false
def KM(P:Program)(t:TypeId)(ks:List Nat):Bool:=(match P.underlying t with
 |some (.struct fs)=>E4 P 0 ks fs.toList
 |_=>false) && !P.stoodInHeld t && !P.eqGuardType P.depth t
section
variable {P:Program}{c:Ctx}{G:Nat->C}{zl:Nat->Nat->Prop}{s:ah}{a:Act}{w:World}{o:Oper}{K:ah->Prop}
def Uo{t:TypeId}{k:Nat}{vs:Array Value}{n:Nat}{v:Value}(ht:E5 P t k=true)(hv:vs[n]?=some v)(w:World):(part t vs n).run P w=.ok v w:=by unfold E5 at ht;split at ht<;>first|(rename_i h;simp[part,isAgg,run_underlying h,hv])|cases ht
def aaF{w:World}{xs ys:Array Value}(d:Nat):∀(l:List Field) (ks:List Nat) (ps qs:List C) (n:Nat) (t:Bool),E4 P n ks l=true->(∀j,(ps[j]?).map C.val=xs[n+j]?)->(∀j,(qs[j]?).map C.val=ys[n+j]?)->
  j8 ks (ps.map C.er) (qs.map C.er)=some t->(Op.eqFields (d+1) xs ys l).run P w=.ok t w:=by
 intro l;induction l with
 |nil=>
  intro ks ps qs n t hf _ _ he;cases ks with
  |nil=>cases ps<;>cases qs<;>simp[j8] at he;subst he;simp[Op.eqFields]
  |cons k ks=>cases hf
 |cons f l ih=>
  intro ks ps qs n t hf hx hy he;cases ks with
  |nil=>cases hf
  |cons k ks=>
  cases ps with
  |nil=>simp[j8] at he
  |cons p ps=>
  cases qs with
  |nil=>simp[j8] at he
  |cons q qs=>
  simp only[E4,aB,bp] at hf;obtain⟨⟨⟨hoff,hname⟩,hk⟩,uO⟩:=hf;have hx0:=hx 0;have hy0:=hy 0;simp only[zR,cv,om] at hx0 hy0;have Gm:=λt=>ih ks ps qs (n+1) t uO (λj=>by have:=hx (j+1);simpa [q8,oh 1 j] using this) (λj=>by have:=hy (j+1);simpa [q8,oh 1 j] using this)
  have step:∀b:Bool,(∀w:World,(Op.equalIn (d+1) f.type p.val q.val).run P w=.ok b w)->(j8 ks (ps.map C.er) (qs.map C.er)).map (λt=>b && t)=some t->(Op.eqFields (d+1) xs ys (f::l)).run P w=.ok t w:=by
   intro b hb h1;cases h2:j8 ks (ps.map C.er) (qs.map C.er) with
   |none=>rw[h2] at h1;cases h1
   |some t'=>
    rw[h2] at h1;simp only[cv,dP] at h1;subst h1;simp only[Op.eqFields,ax hname,Sem.run_bind,hoff,Uo hk hx0.symm,Uo hk hy0.symm,Result.andThen_ok,hb];cases b with
    |true=>simpa using Gm t' h2
    |false=>simp
  unfold E5 at hk;simp only[bn] at he;split at hk
  ·rename_i h;obtain rfl:k=0:=by simpa using hk
   cases p<;>cases q<;>simp only[C.er,j8] at he<;>try (cases he;done)
   split at he;·rename_i hkk;subst hkk;exact step _ (λw=>run_equalIn_int w d f.type _ _ _ _ h) he
   ·cases he
  ·rename_i h;obtain rfl:k=1:=by simpa using hk
   cases p<;>cases q<;>simp only[C.er,j8] at he<;>try (cases he;done)
   exact step _ (λw=>run_equalIn_bool' w d f.type _ _ h) he
  ·rename_i h;obtain rfl:k=2:=by simpa using hk
   cases p<;>cases q<;>simp only[C.er,j8] at he<;>try (cases he;done)
   refine step _ (λw=>?_) he;rw[show (C.str _).val=Value.string _ from rfl,show (C.str _).val=Value.string _ from rfl,run_equalIn_string w d f.type _ _ h,JT]
  ·cases hk
def ag4(h:St c G zl s a w){d:Nat}{neg:Bool}{ks:List Nat}{ty ty':TypeId}{x y:AV}{x' y':Operand}(ho:o.op=.binOp (bif neg then .neq else .eql) ty x' y' ty')(ht:KM P ty ks=true)(hd:o.dst=some d)(hn:d<c.nt)(hx:aQ x' x=true)(hy:aQ y' y=true)
  (hK:aT P (.ua d neg ks x y) s K):dM P c o a w K:=by
 obtain⟨p,p1,p2,p3⟩:=cx h hx;obtain⟨q,q1,q2,q3⟩:=cx h hy;simp only[aT] at hK;rw[<-p1,<-q1] at hK;simp only[KM,aB,rq] at ht;obtain⟨⟨ht,hst⟩,hgu⟩:=ht;split at ht
 ·rename_i fs hfs;have hfo:P.fieldsOf ty=fs:=by simp only[Program.fieldsOf,hfs]
  cases p with
  |agg n f=>
   cases q with
   |agg m g=>
    simp only[C.er] at hK;obtain⟨t,he,hK⟩:=hK;have hcell:∀(n:Nat) (f:Nat->C) (j:Nat),((((List.range n).map f)[j]?).map C.val)=((((List.range n).map λj=>(f j).val).toArray)[0+j]?):=λn f j=>by rw[nq,zT,C.de];rw[C.de (λj=>(f j).val)];split<;>rfl
    have hrun:∀w':World,(Op.equalIn 10000 ty (C.agg n f).val (C.agg m g).val).run P w'=.ok t w':=λw'=>by simp only[C.val];rw[run_equalIn_struct w' 9999 ty _ _ (by rw[hfo];exact hfs) hst,hfo];exact aaF 9998 fs.toList ks ((List.range n).map f) ((List.range m).map g) 0 t ht (hcell n f) (hcell m g) (by rw[cP,cP];exact he)
    refine dR h hd hn (x:=.bool (xor neg t)) trivial (λ_ _ _ _ _ _ e=>(by cases e)) trivial (λw' _=>?_) hK;have e1:∀w':World,(eqGuard (bif neg then .neq else .eql) ty x' y' (C.agg n f).val (C.agg m g).val).run P w'=.ok () w':=λw'=>run_eqGuard_agg w' _ ty x' y' _ _ hgu;cases neg;·simp only[execOp,ho,<-p2,<-q2,Sem.run_bind,ri];simp only[ri] at e1;rw[e1];simp only[Result.andThen_ok];rw[show (C.agg n f).val=.agg _ from rfl,show (C.agg m g).val=.agg _ from rfl] at hrun⊢;rw[run_eql_struct,hrun];simp;rfl
    ·simp only[execOp,ho,<-p2,<-q2,Sem.run_bind,mw];simp only[mw] at e1;rw[e1];simp only[Result.andThen_ok];rw[show (C.agg n f).val=.agg _ from rfl,show (C.agg m g).val=.agg _ from rfl] at hrun⊢;rw[run_neq_struct,hrun];simp;rfl
   |_=>exact hK.elim
  |_=>exact hK.elim
 ·cases ht
end
end M
namespace M
open Go Go.RowKit
variable [Bs]
section
variable {P:Program}{c:Ctx}{G:Nat->C}{zl:Nat->Nat->Prop}{s:ah}{a:Act}{w:World}{o:Oper}{K:ah->Prop}
structure Yj (w:World) (zl zb:Nat->Nat->Prop) (v:Value) (z:Nat) (A:Option Ad) (len cap:Nat) (e:Nat->Nat->C):Prop where
 val:v=.slice (A.map λq=>⟨q.1,q.2.1,q.2.2⟩) len cap
 cap:len<=cap
 cell:∀i j,i<len->j<z->∃g o,A=some (g,o,none)/\w.cell? ⟨g,o+i*z+j,none⟩=some (e i j).val
 kid:∀i j,i<len->j<z->(e i j).cell/\(e i j).cU/\(e i j).ok w (Zf zl zb)
def dL(z len:Nat)(e:Nat->Nat->C):List (List X):=(List.range len).map λi=>(List.range z).map λj=>(e i j).er
def M0{zb:Nat->Nat->Prop}(h:Inv w zl zb G s){y:C}(hy:ew w zl zb G y){z:Nat}{xs:List (List X)}(hc:rowAt s y.er=some (z,xs)):∃A len cap e,xs=dL z len e/\Yj w zl zb y.val z A len cap e:=by
 cases y with
 |row m sz A len cap e=>simp only[C.er,rowAt,dP,jU] at hc;obtain⟨rfl,rfl⟩:=hc;obtain⟨h1,h2,h3,h4,h5⟩:=hy.ok;exact⟨A,len,cap,e,rfl,rfl,h1,λi j hi hj=>by obtain⟨g,o,hA,hcl,_⟩:=h2 i j hi hj;exact⟨g,o,hA,hcl⟩,λi j hi hj=>by obtain⟨a1,a2,a3,a4⟩:=h3 i j hi hj;exact⟨a1,a2,a4⟩⟩
 |ref v r p=>
  obtain⟨y',z',hs,hF,hv,m,sz,A,len,cap,e,rfl⟩:=hy.rf;cases hF with
  |row m m' sz A len cap e e'=>simp only[C.er,rowAt,look] at hc;rw[<-h.er,C.gP,hs] at hc;simp only[cv,C.er,dP,jU] at hc;obtain⟨rfl,rfl⟩:=hc;obtain⟨h1,h2,h3,h4,h5⟩:=C.iu p hs (h.ok r);exact⟨A,len,cap,e',rfl,hv.symm,h1,λi j hi hj=>by obtain⟨g,o,hA,hcl,_⟩:=h2 i j hi hj;exact⟨g,o,hA,hcl⟩,λi j hi hj=>by obtain⟨a1,a2,a3,a4⟩:=h3 i j hi hj;exact⟨a1,a2,a4⟩⟩
 |cut v r p lo hi=>
  obtain⟨m,sz,A,len,cap,e,A',cap',hs,hv,hlo,hhi,hcap,kR,-,-⟩:=hy.rf;simp only[C.er,rowAt,look] at hc;rw[<-h.er,C.gP,hs] at hc;simp only[cv,C.er,dP,jU] at hc;obtain⟨rfl,rfl⟩:=hc;obtain⟨h1,h2,h3,h4,h5⟩:=C.iu p hs (h.ok r);have hX:(((List.range len).map λi=>(List.range sz).map λj=>(e i j).er).take hi).drop lo=dL sz (hi - lo) λi j=>e (i+lo) j:=by unfold dL;rw[<-pO,<-mj,wB,mq hhi,oX,cP];rfl
  refine⟨A',hi - lo,cap',λi j=>e (i+lo) j,hX,⟨hv,hcap,λi j hi' hj=>?_,λi j hi' hj=>?_⟩⟩;·obtain⟨g,o,hA,hcl,_⟩:=h2 (i+lo) j (by omega) hj;refine⟨g,o+lo*sz,by rw[kR (by omega),hA,cv,pW],?_⟩;rw[show o+lo*sz+i*sz+j=o+(i+lo)*sz+j by rw[fk];omega];exact hcl
  ·obtain⟨a1,a2,a3,a4⟩:=h3 (i+lo) j (by omega) hj;exact⟨a1,a2,a4⟩
 |_=>simp[C.er,rowAt] at hc
def ah7(z len:Nat)(e:Nat->Nat->C):(dL z len e).length=len:=by simp[dL]
def ahn(h:St c G zl s a w){d:Nat}{ty el:TypeId}{x:AV}{x':Operand}(ho:o.op=.call {callee:=.builtin .len,args:= #[x'],argTypes:= #[ty]})(hu:P.underlying ty=some (.slice el))(hd:o.dst=some d)(hn:d<c.nt)(hx:aQ x' x=true)
  (hK:aT P (.len d x) s K):dM P c o a w K:=by obtain⟨y,e1,e2,e3⟩:=cx h hx;obtain⟨z,xs,k1,k2⟩:=hK;rw[<-e1] at k1;obtain⟨A,len,cap,e,rfl,hv⟩:=M0 h.inv e3 k1;rw[ah7] at k2;refine dR h hd hn (x:=.int .i64 len) trivial (λ_ _ _ _ _ _ e=>(by cases e)) trivial (λw' _=>?_) k2;simp[execOp,ho,resolve,invoke,builtin,<-e2,hv.val,Builtin.len_,run_underlying hu,goInt,C.val]
def ahz(h:St c G zl s a w){d:Nat}{ty:TypeId}{x:AV}{x':Operand}(ho:o.op=.call {callee:=.builtin .len,args:= #[x'],argTypes:= #[ty]})(hu:P.underlying ty=some .string)(hd:o.dst=some d)(hn:d<c.nt)(hx:aQ x' x=true)
  (hK:aT P (.tG d x) s K):dM P c o a w K:=by
 obtain⟨y,e1,e2,e3⟩:=cx h hx;simp only[aT] at hK;split at hK;·rename_i t ht;rw[<-e1] at ht;have:=EW ht;subst this;refine dR h hd hn (x:=.int .i64 t.size) trivial (λ_ _ _ _ _ _ e=>(by cases e)) trivial (λw' _=>?_) hK;simp[execOp,ho,resolve,invoke,builtin,<-e2,Builtin.len_,run_underlying hu,goInt,C.val]
 ·exact hK.elim
def ahy(h:St c G zl s a w){d:Nat}{ty:TypeId}{x y:AV}{x' y':Operand}(ho:o.op=.index ty x' y')(hu:P.underlying ty=some .string)(hd:o.dst=some d)(hn:d<c.nt)(hx:aQ x' x=true)(hy:aQ y' y=true)
  (hK:aT P (.dA d x y) s K):dM P c o a w K:=by
 obtain⟨p,p1,p2,p3⟩:=cx h hx;obtain⟨q,q1,q2,q3⟩:=cx h hy;simp only[aT] at hK;split at hK;·rename_i t k n h1 h2;rw[<-p1] at h1;rw[<-q1] at h2;have:=EW h1;subst this;have:=nA h2;subst this;obtain⟨k1,b,k2,k3⟩:=hK;refine dR h hd hn (x:=.int .u8 b.toNat) trivial (λ_ _ _ _ _ _ e=>(by cases e)) trivial (λw' _=>?_) k3;have hb:t[n.toNat]?=some b:=k2;simp[execOp,ho,<-p2,<-q2,C.val,Instr.index,asIntOf,run_underlying hu,ax k1,hb]
 ·exact hK.elim
def ahm(h:St c G zl s a w){d sz:Nat}{ty el:TypeId}{x y:AV}{x' y':Operand}(ho:o.op=.indexAddr ty x' y')(hu:P.underlying ty=some (.slice el))(hsz:∃i,P.info? el=some i/\i.size=sz)(h0:0<sz)(hd:o.dst=some d)(hn:d<c.nt)(hx:aQ x' x=true)(hy:aQ y' y=true)
  (hK:aT P (.eT d sz x y) s K):dM P c o a w K:=by
 obtain⟨p,p1,p2,p3⟩:=cx h hx;obtain⟨q,q1,q2,q3⟩:=cx h hy;obtain⟨ii,hi,kU⟩:=hsz;simp only[aT] at hK;rw[<-p1] at hK;split at hK
 ·rename_i k n h2;rw[<-q1] at h2;have:=nA h2;subst this;obtain⟨k1,hK⟩:=hK;have hrun:∀g o' len cap,a.eval x'=.slice (some ⟨g,o',none⟩) len cap->n.toNat<len->∀w',Ext (λ_ _=>False) w w'->(execOp a.eval o).run P w'=.ok (.value (.pointer (some ⟨g,o'+n.toNat*sz,none⟩))) w':=by intro g o' len cap hv hlt w' _;have hb:0<=n/\n<len:=⟨k1,by omega⟩;simp[execOp,ho,hv,<-q2,C.val,Instr.indexAt,asIntOf,run_underlying hu,hb,Go.sizeOf,typeInfo,hi,kU,rC]
  cases p with
  |row m z A len cap e=>
   simp only[C.er] at hK;obtain⟨rfl,e',k2,k3⟩:=hK;rw[C.de] at k2;split at k2
   ·rename_i hlt;injection k2 with k2
    obtain⟨h1,h2,h3,h4,h5⟩:=p3.ok;obtain⟨g,o',hA,_,_⟩:=h2 n.toNat 0 hlt h0;refine jL h hd hn (x:=.ptr m g (o'+n.toNat*z) z λj=>e n.toNat j) ⟨⟨λj hj=>?_,?_,λj hj=>?_,λj hj b k hf=>?_⟩,λj hj=>?_,λb k hf=>?_⟩ ?_ ?_
    ·obtain⟨g1,o1,qg,hcl,hz⟩:=h2 n.toNat j hlt hj;rw[hA] at qg;injection qg with qg
     injection qg with e1 e2
     injection e2 with e2
     subst e1;subst e2;refine⟨hcl,hz,λhm=>?_⟩;exact(p3.cS g 0 ⟨hm,.inl ⟨_,hA⟩⟩).elim
    ·obtain⟨g1,o1,qg,hcl,hz⟩:=h2 n.toNat 0 hlt h0;rw[hA] at qg;injection qg with qg
     injection qg with e1 e2
     subst e1;rcases fV g w.heap.size with hg|hg;·exact hg
     ·simp[World.cell?,lB hg] at hcl
    ·obtain⟨a1,a2,a3,a4⟩:=h3 n.toNat j hlt hj;exact⟨a1,a3,a4⟩
    ·obtain⟨a1,a2,a3,a4⟩:=h3 n.toNat j hlt hj;exact(p3.cS b k (C.kz a1 a3 hlt hj hf)).elim
    ·obtain⟨a1,a2,a3,a4⟩:=h3 n.toNat j hlt hj;show (e n.toNat j).rf G;cases hh:e n.toNat j with
     |ref=>rw[hh] at a2;exact a2.elim
     |az=>rw[hh] at a2;exact a2.elim
     |cut=>rw[hh] at a2;exact a2.elim
     |ptr=>rw[hh] at a2;exact a2.elim
     |agg=>rw[hh] at a2;exact a2.elim
     |av=>rw[hh] at a2;exact a2.elim
     |fn=>rw[hh] at a2;exact a2.elim
     |_=>trivial
    ·exact p3.cS g 0 ⟨hf.1,.inl ⟨_,hA⟩⟩
    ·exact hrun g o' len cap (by rw[<-p2,C.val,hA];rfl) hlt
    ·rw[<-k2] at k3;exact k3
   ·cases k2
  |ref v r pp=>
   obtain⟨y',z',hs,hF,hv,m,z1,A,len,cap,e,rfl⟩:=p3.rf;cases hF with
   |row m m' sz' A len cap e e'=>
    simp only[C.er,look] at hK;rw[<-h.inv.er,C.gP,hs] at hK;simp only[cv,C.er] at hK;obtain⟨k1,k2,k3⟩:=hK;have To:n.toNat<len:=by simpa using k2
    subst k1;obtain⟨h1,h2,h3,h4,h5⟩:=C.iu pp hs (h.inv.ok r);obtain⟨g,o',hA,_,_⟩:=h2 n.toNat 0 To h0;subst hA;refine jL h hd hn (x:=.az (.pointer (some ⟨g,o'+n.toNat*_,none⟩)) r pp n.toNat 0) ⟨trivial,⟨_,hs,.inl ⟨_,_,_,_,_,_,_,rfl,rfl⟩⟩,λ_ _ hh=>hh⟩ ?_ k3;exact hrun g o' len cap (by rw[<-p2];exact hv.symm) To
  |cut v r pp lo hi=>obtain⟨m,z1,A,len,cap,e,A',cap',hs,hv,hlo,hhi,hcap,kR,-,-⟩:=p3.rf;simp only[C.er,look] at hK;rw[<-h.inv.er,C.gP,hs] at hK;simp only[cv,C.er] at hK;obtain⟨k1,k2,k3⟩:=hK;subst k1;obtain⟨h1,h2,h3,h4,h5⟩:=C.iu pp hs (h.inv.ok r);obtain⟨g,o',hA,_,_⟩:=h2 (lo+n.toNat) 0 (by omega) h0;subst hA;refine jL h hd hn (x:=.az (.pointer (some ⟨g,o'+(lo+n.toNat)*_,none⟩)) r pp (lo+n.toNat) 0) ⟨trivial,⟨_,hs,.inl ⟨_,_,_,_,_,_,_,rfl,rfl⟩⟩,λ_ _ hh=>hh⟩ ?_ k3;have:=hrun g (o'+lo*z1) (hi - lo) cap' (by rw[<-p2,C.val,hv,kR (by omega),cv,pW];rfl) (by omega);intro w' hE;rw[this w' hE,C.val,fk,q8]
  |_=>simp only[C.er] at hK
 ·exact hK.elim
def ahj(h:St c G zl s a w){d i:Nat}{x:AV}{x':Operand}(ho:o.op=.extract x' i)(hd:o.dst=some d)(hn:d<c.nt)(hx:aQ x' x=true)
  (hK:aT P (.ext d x i) s K):dM P c o a w K:=by
 obtain⟨y,e1,e2,e3⟩:=cx h hx;simp only[aT] at hK;rw[<-e1] at hK;cases y with
 |av n f=>
  simp only[C.er] at hK;obtain⟨hi,hK⟩:=hK;have hi:i<n:=by simpa using hi
  ·have hX:((List.range n).map λj=>(f j).er).getD i .dead=(f i).er:=by rw[ji,C.de,ax hi];rfl
   rw[hX] at hK;refine jL h hd hn (x:=f i) ⟨(e3.ok.1 i hi).2,e3.rf i hi,λb k hf=>e3.cS b k ⟨i,hi,hf⟩⟩ (λw' _=>?_) hK;have hv:((List.range n).map λj=>(f j).val).toArray[i]?=some (f i).val:=by rw[zT,C.de,ax hi]
   simp only[execOp,ho,<-e2,C.val,Instr.extract,hv,Sem.run_bind,Sem.run_pure,Result.andThen_ok]
 |_=>exact hK.elim
end
end M
namespace M
open Go Go.RowKit
variable [Bs]
section
variable {P:Program}{c:Ctx}{G:Nat->C}{zl:Nat->Nat->Prop}{s:ah}{a:Act}{w:World}{o:Oper}{K:ah->Prop}
def Yy{n:Nat}{f:Nat->C}{j:Nat}(hj:j<n):((List.range n).map λj=>(f j).val).toArray[j]?=some (f j).val:=by rw[zT,C.de,ax hj]
def Yz{zb:Nat->Nat->Prop}{n:Nat}{f:Nat->C}(hy:ew w zl zb G (.agg n f)){off sz:Nat}(h:off+sz<=n):ew w zl zb G (.agg sz λj=>f (j+off)) where
 ok:=⟨λj hj=>hy.ok.1 (j+off) (by omega),λj hj b k hf j' hj' hne=>hy.ok.2 (j+off) (by omega) b k hf (j'+off) (by omega) (by omega)⟩
 rf:=λj hj=>hy.rf (j+off) (by omega)
 cS:=λb k ⟨j,hj,hf⟩=>hy.cS b k ⟨j+off,by omega,hf⟩
def PE{zb:Nat->Nat->Prop}{n:Nat}{f:Nat->C}(hy:ew w zl zb G (.agg n f)){j:Nat}(h:j<n):ew w zl zb G (f j) where
 ok:=(hy.ok.1 j h).2
 rf:=hy.rf j h
 cS:=λb k hf=>hy.cS b k ⟨j,h,hf⟩
def YA(n:Nat)(f:Nat->C){off sz:Nat}(h:off+sz<=n):(C.agg sz λj=>f (j+off)).er=.agg ((((List.range n).map λj=>(f j).er).drop off).take sz):=by simp only[C.er,<-mj,oX,<-pO,wB];rw[mq (by omega),cP];rfl
def YB(n:Nat)(f:Nat->C){off sz:Nat}(h:off+sz<=n):(C.agg sz λj=>f (j+off)).val=.agg (((List.range n).map λj=>(f j).val).toArray.extract off (off+sz)):=by
 simp only[C.val];congr 1;apply Jn;intro i;rw[zT,C.de,Array.getElem?_extract];by_cases hi:i<sz
 ·have h1:i<min (off+sz) ((List.range n).map λj=>(f j).val).toArray.size - off:=by simp;omega
  rw[ax hi,ax h1,zT,C.de,ax (by omega),oh]
 ·have h1:¬i<min (off+sz) ((List.range n).map λj=>(f j).val).toArray.size - off:=by simp;omega
  rw[aF hi,aF h1]
def aez(n:Nat)(f:Nat->C){off:Nat}(h:off<n):(((List.range n).map λj=>(f j).er).drop off).headD .dead=(f off).er:=by rw[List.headD_eq_head?_getD,List.head?_drop,C.de,ax h];rfl
def UY{n:Nat}{f:Nat->C}{off sz:Nat}{agg:Bool}{ty:TypeId}(h:off+sz<=n)(h1:agg=true\/sz=1)(hsz:∃i,P.info? ty=some i/\i.size=sz)(nD:∃dd,P.underlying ty=some dd/\(match dd with|.struct _=>true|.array _ _=>true|_=>false)=agg):
  (part ty ((List.range n).map λj=>(f j).val).toArray off).run P w=.ok (bif agg then (C.agg sz λj=>f (j+off)) else f off).val w:=by
 obtain⟨i,hi,kU⟩:=hsz;obtain⟨dd,AR,hda⟩:=nD;have uP:(isAgg ty).run P w=.ok agg w:=by subst hda;simp only[isAgg,Sem.run_bind,run_underlying AR,Result.andThen_ok];cases dd<;>rfl
 have hsize:(Go.sizeOf ty).run P w=.ok sz w:=by simp[Go.sizeOf,typeInfo,hi,kU]
 unfold part;simp only[Sem.run_bind,uP,Result.andThen_ok];cases agg with
 |true=>simp only[dh,Sem.run_bind,hsize,Result.andThen_ok,Sem.run_pure,mw,YB n f h]
 |false=>have hs1:sz=1:=h1.resolve_left (by simp);simp only[fD,dQ,Yy (f:=f) (show off<n by omega),Sem.run_pure,ri]
def Sl(h:St c G zl s a w){n:Nat}{f:Nat->C}{off sz:Nat}{agg:Bool}(hy:ew w zl c.zb G (.agg n f))(hb:off+sz<=n)(h1:agg=true\/sz=1){d:Nat}(hd:o.dst=some d)(hn:d<c.nt)
  (hrun:∀w',Ext (λ_ _=>False) w w'->(execOp a.eval o).run P w'=.ok (.value (bif agg then (C.agg sz λj=>f (j+off)) else f off).val) w')
  (hK:K (put d (bif agg then .agg ((((List.range n).map λj=>(f j).er).drop off).take sz) else (((List.range n).map λj=>(f j).er).drop off).headD .dead) s)):dM P c o a w K:=by
 cases agg with
 |true=>exact jL h hd hn (Yz hy hb) hrun (by rw[YA n f hb];exact hK)
 |false=>have hs1:sz=1:=h1.resolve_left (by simp);exact jL h hd hn (PE hy (by omega)) hrun (by rw[<-aez n f (by omega)];exact hK)
def ahl(h:St c G zl s a w){d off sz fi:Nat}{agg:Bool}{ty:TypeId}{fs:Array Field}{f:Field}{x:AV}{x':Operand}(ho:o.op=.field ty x' fi)(hu:P.underlying ty=some (.struct fs))(hf:fs[fi]?=some f)(hfo:f.offset=off)
  (hsz:∃i,P.info? f.type=some i/\i.size=sz)(nD:∃dd,P.underlying f.type=some dd/\(match dd with|.struct _=>true|.array _ _=>true|_=>false)=agg)
  (h1:agg=true\/sz=1)(hd:o.dst=some d)(hn:d<c.nt)(hx:aQ x' x=true)(hK:aT P (.uB d x off sz agg) s K):dM P c o a w K:=by
 obtain⟨y,e1,e2,e3⟩:=cx h hx;subst hfo;simp only[aT] at hK;rw[<-e1] at hK;cases y with
 |agg n g=>
  simp only[C.er] at hK;obtain⟨hb,hK⟩:=hK;have hb:f.offset+sz<=n:=by simpa using hb
  refine Sl h e3 hb h1 hd hn (λw' _=>?_) hK;simp only[execOp,ho,<-e2,C.val,Instr.field,Sem.run_bind,run_underlying hu,Result.andThen_ok,hf,asAgg,Sem.run_pure,UY hb h1 hsz nD]
 |_=>exact hK.elim
def ag5(h:St c G zl s a w){d n sz:Nat}{agg:Bool}{ty el:TypeId}{x y:AV}{x' y':Operand}(ho:o.op=.index ty x' y')(hu:P.underlying ty=some (.array n el))
  (hsz:∃i,P.info? el=some i/\i.size=sz)(nD:∃dd,P.underlying el=some dd/\(match dd with|.struct _=>true|.array _ _=>true|_=>false)=agg)
  (h1:agg=true\/sz=1)(hd:o.dst=some d)(hn:d<c.nt)(hx:aQ x' x=true)(hy:aQ y' y=true)(hK:aT P (.rE d n sz agg x y) s K):dM P c o a w K:=by
 obtain⟨p,p1,p2,p3⟩:=cx h hx;obtain⟨q,q1,q2,q3⟩:=cx h hy;simp only[aT] at hK;rw[<-p1] at hK;cases p with
 |agg m g=>
  simp only[C.er] at hK;split at hK
  ·rename_i k j h2 h3;injection h2 with h2
   subst h2;rw[<-q1] at h3;have:=nA h3;subst this;obtain⟨k1,k2,k3,hK⟩:=hK;have k3:m=n*sz:=by simpa using k3
   have hb:j.toNat*sz+sz<=m:=by rw[k3];have:(j.toNat+1)*sz<=n*sz:=oo _ (by omega);rw[fk] at this;omega
   obtain⟨i,hi,kU⟩:=hsz;refine Sl h p3 hb h1 hd hn (λw' _=>?_) hK;have hrp:=UY (P:=P) (w:=w') (f:=g) hb h1 ⟨i,hi,kU⟩ nD;have hbd:0<=j/\j<(n:Int):=⟨k1,k2⟩;have hsize:(Go.sizeOf el).run P w'=.ok sz w':=by simp[Go.sizeOf,typeInfo,hi,kU]
   simp only[execOp,ho,<-p2,<-q2,C.val,Instr.index,asIntOf,Sem.run_bind,run_underlying hu,Result.andThen_ok,Sem.run_pure,ax hbd,hsize,hrp]
  ·exact hK.elim
 |_=>simp only[C.er] at hK
def ahs(h:St c G zl s a w){d:Nat}{ts:Array TypeId}{x y:AV}{x' y':Operand}(ho:o.op=.call {callee:=.builtin .min,args:= #[x',y'],argTypes:=ts})(hd:o.dst=some d)(hn:d<c.nt)(hx:aQ x' x=true)(hy:aQ y' y=true)
  (hK:aT P (.mn d [x,y]) s K):dM P c o a w K:=by
 obtain⟨p,p1,p2,p3⟩:=cx h hx;obtain⟨q,q1,q2,q3⟩:=cx h hy;simp only[aT,bn,jh] at hK;rw[<-p1,<-q1] at hK;split at hK;·rename_i k m k' n he;simp only[wE,and_true] at he;have e1:=nA he.1;have e2:=nA he.2;subst e1;subst e2;obtain⟨rfl,hK⟩:=hK;refine dR h hd hn (x:=.int k (if n<m then n else m)) trivial (λ_ _ _ _ _ _ e=>(by cases e)) trivial (λw' _=>?_) hK;simp[execOp,ho,resolve,invoke,builtin,<-p2,<-q2,C.val,Builtin.min_,Builtin.min2]
 ·exact hK.elim
def aht(h:St c G zl s a w){d:Nat}{ts:Array TypeId}{x y:AV}{x' y':Operand}(ho:o.op=.call {callee:=.builtin .max,args:= #[x',y'],argTypes:=ts})(hd:o.dst=some d)(hn:d<c.nt)(hx:aQ x' x=true)(hy:aQ y' y=true)
  (hK:aT P (.mx d [x,y]) s K):dM P c o a w K:=by
 obtain⟨p,p1,p2,p3⟩:=cx h hx;obtain⟨q,q1,q2,q3⟩:=cx h hy;simp only[aT,bn,jh] at hK;rw[<-p1,<-q1] at hK;split at hK;·rename_i k m k' n he;simp only[wE,and_true] at he;have e1:=nA he.1;have e2:=nA he.2;subst e1;subst e2;obtain⟨rfl,hK⟩:=hK;refine dR h hd hn (x:=.int k (if n>m then n else m)) trivial (λ_ _ _ _ _ _ e=>(by cases e)) trivial (λw' _=>?_) hK;simp[execOp,ho,resolve,invoke,builtin,<-p2,<-q2,C.val,Builtin.max_,Builtin.max2]
 ·exact hK.elim
def nw:Option Operand->Option AV->Bool
 |none,none=>true
 |some x',some x=>aQ x' x
 |_,_=>false
def JS(h:St c G zl s a w){lo':Option Operand}{lo:Option AV}(hc:nw lo' lo=true)(d:Nat)(h0:0<=asNat s lo d):
  (lo'.map a.eval=none/\asNat s lo d=d)\/∃k,lo'.map a.eval=some (.int k (asNat s lo d)):=by
 cases lo' with
 |none=>
  cases lo with
  |none=>exact .inl ⟨rfl,rfl⟩
  |some x=>cases hc
 |some x'=>
  cases lo with
  |none=>cases hc
  |some x=>obtain⟨p,p1,p2,p3⟩:=cx h hc;simp only[asNat] at h0⊢;rw[<-p1] at h0⊢;cases p<;>simp[C.er] at h0;·exact .inr ⟨_,by simp only[cv,<-p2];rfl⟩
def run_sliceBound{k:IntKind}{i:Int}{y:Nat}{code:BoundsCode}(h:0<=i/\i<=y):(Instr.sliceBound (.int k i) y code).run P w=.ok i.toNat w:=by simp[Instr.sliceBound,asIntOf,h]
def UX{w':World}(h:St c G zl s a w){lo' hi':Option Operand}{lo hi:Option AV}(h1:nw lo' lo=true)(h2:nw hi' hi=true){Tl:Bool}{len cap:Nat}(hlc:len<=cap)
  (k1:0<=asNat s lo 0)(k2:asNat s lo 0<=asNat s hi len)(k3:asNat s hi len<=len):
  (Instr.sliceBounds Tl len cap (lo'.map a.eval) (hi'.map a.eval) none).run P w'=.ok ((asNat s lo 0).toNat,(asNat s hi len).toNat,cap) w':=by
 have B:∀{k:IntKind} {i:Int} {y:Nat} {code:BoundsCode},0<=i/\i<=y->(Instr.sliceBound (.int k i) y code).run P w'=.ok i.toNat w':=run_sliceBound;unfold Instr.sliceBounds;rcases JS h h2 len (by omega) with ⟨e1,e2⟩|⟨k,e1⟩
 ·rw[e2] at k2⊢;rcases JS h h1 0 k1 with ⟨e3,e4⟩|⟨k',e3⟩;·rw[e1,e3,e4];simp
  ·rw[e1,e3];simp only[Sem.run_bind,Sem.run_pure,Result.andThen_ok,B (And.intro k1 k2)];simp
 ·rcases JS h h1 0 k1 with ⟨e3,e4⟩|⟨k',e3⟩;·rw[e1,e3,e4];simp only[Sem.run_bind,Sem.run_pure,Result.andThen_ok,B (show 0<=asNat s hi len/\asNat s hi len<=(cap:Int) by omega)];simp
  ·rw[e1,e3];have hle:asNat s lo 0<=((asNat s hi len).toNat:Int):=by omega
   simp only[Sem.run_bind,Sem.run_pure,Result.andThen_ok,B (show 0<=asNat s hi len/\asNat s hi len<=(cap:Int) by omega),B (And.intro k1 hle)]
def ahA(h:St c G zl s a w){d:Nat}{ty:TypeId}{x:AV}{x':Operand}{lo' hi':Option Operand}{lo hi:Option AV}(ho:o.op=.slice ty x' lo' hi' none)(hu:P.underlying ty=some .string)(hd:o.dst=some d)(hn:d<c.nt)(hx:aQ x' x=true)
  (h1:nw lo' lo=true)(h2:nw hi' hi=true)(hK:aT P (.gv d x lo hi) s K):dM P c o a w K:=by
 obtain⟨y,e1,e2,e3⟩:=cx h hx;simp only[aT] at hK;split at hK
 ·rename_i t ht;rw[<-e1] at ht;have:=EW ht;subst this;obtain⟨k1,k2,k3,k4⟩:=hK;refine dR h hd hn (x:=.str _) trivial (λ_ _ _ _ _ _ e=>(by cases e)) ?_ (λw' _=>?_) k4;·have:t.size<=9223372036854775807:=e3.ok;show (t.extract _ _).size<=_;rw[ByteArray.size_extract];omega
  ·simp only[execOp,ho,<-e2,C.val,Instr.sliceAt,Instr.slice,Sem.run_bind,run_underlying hu,Result.andThen_ok,OZ,Option.isSome_none,fD,dQ,Sem.run_pure,UX h h1 h2 (ek t.size) k1 k2 k3]
 ·exact hK.elim
def ahx(h:St c G zl s a w){d sz:Nat}{ty el:TypeId}{x:AV}{x':Operand}{lo' hi':Option Operand}{lo hi:Option AV}(ho:o.op=.slice ty x' lo' hi' none)(hu:P.underlying ty=some (.slice el))(hsz:∃i,P.info? el=some i/\i.size=sz)(hd:o.dst=some d)(hn:d<c.nt)(hx:aQ x' x=true)
  (h1:nw lo' lo=true)(h2:nw hi' hi=true)(hK:aT P (.k8 d sz x lo hi) s K):dM P c o a w K:=by
 obtain⟨y,e1,e2,e3⟩:=cx h hx;obtain⟨xs,k0,k1,k2,k3,hK⟩:=hK;rw[<-e1] at k0 hK;obtain⟨ii,hii,kU⟩:=hsz;have hsize:∀w:World,(Go.sizeOf el).run P w=.ok sz w:=by intro w;simp[Go.sizeOf,typeInfo,hii,kU]
 have hrun:∀(A:Option Ad) (cap:Nat),y.val=.slice (A.map λq=>⟨q.1,q.2.1,q.2.2⟩) xs.length cap->xs.length<=cap->∃A' cap',(∀w',Ext (λ_ _=>False) w w'->(execOp a.eval o).run P w'=.ok (.value (.slice (Option.map (λq:Ad=>(⟨q.1,q.2.1,q.2.2⟩:Addr)) A') (((asNat s hi xs.length).toNat - (asNat s lo 0).toNat)) cap')) w')/\
   cap'=cap - (asNat s lo 0).toNat/\(A=none->A'=none)/\((asNat s lo 0).toNat<cap->A'=A.map λq=>jH ((asNat s lo 0).toNat*sz) q)/\((A'=A/\cap'=0)\/A'=A.map λq=>jH ((asNat s lo 0).toNat*sz) q):=by
  intro A cap hv hcap;refine⟨if cap=(asNat s lo 0).toNat then A else A.map λq=>jH ((asNat s lo 0).toNat*sz) q,cap - (asNat s lo 0).toNat,λw' _=>?_,rfl,λhA=>by subst hA;split<;>rfl,λhlt=>aF (by omega),?_⟩;rotate_left
  ·by_cases hh:cap=(asNat s lo 0).toNat;·exact .inl ⟨ax hh,by omega⟩
   ·exact .inr (aF hh)
  have hb:=UX (P:=P) (w':=w') h h1 h2 (Tl:=true) hcap k1 k2 k3;simp only[execOp,ho,<-e2,hv,Instr.sliceAt,Instr.slice,Sem.run_bind,run_underlying hu,Result.andThen_ok,OZ,hb,hsize,Sem.run_pure];congr 3;split;·rfl
  ·cases A with
   |none=>rfl
   |some q=>simp[Yv]
 cases y with
 |row m z A len cap e=>
  simp only[C.er,rowAt,dP,jU] at k0;obtain⟨rfl,rfl⟩:=k0;have hlen:((List.range len).map λi=>(List.range z).map λj=>(e i j).er).length=len:=by simp
  rw[hlen] at hrun k2 k3 hK;obtain⟨o1,o2,o3,o4,o5⟩:=e3.ok;obtain⟨A',cap',r1,r2,r3,r4,-⟩:=hrun A cap rfl o1;obtain⟨L,hL⟩:∃L,L=(asNat s lo 0).toNat:=⟨_,rfl⟩;obtain⟨H,hH⟩:∃H,H=(asNat s hi len).toNat:=⟨_,rfl⟩;rw[<-hL,<-hH] at r1 hK;rw[<-hL] at r2 r4;have hLH:L<=H:=by omega
  have hHl:H<=len:=by omega
  have kR:L<H->A'=A.map λq=>jH (L*z) q:=λhlt=>r4 (by omega);refine jL h hd hn (x:=.row m z A' (H - L) cap' λi j=>e (i+L) j) ⟨⟨by omega,λi j hi hj=>?_,λi j hi hj=>o3 (i+L) j (by omega) hj,λhm=>?_,λi j hi hj b k hf=>?_⟩,trivial,λb k hf=>?_⟩ r1 ?_
  ·obtain⟨g,o',q1,q2,q3⟩:=o2 (i+L) j (by omega) hj;refine⟨g,o'+L*z,by rw[kR (by omega),q1,cv,pW],?_,λhm=>?_⟩;·rw[show o'+L*z+i*z+j=o'+(i+L)*z+j by rw[fk];omega];exact q2
   ·rw[show o'+L*z+i*z+j=o'+(i+L)*z+j by rw[fk];omega];exact q3 hm
  ·rcases o4 hm with ⟨q1,q2⟩|⟨g,o',arr,t,fz,q1,_⟩;·exact .inl ⟨r3 q1,by omega⟩
   ·exact(e3.cS g 0 ⟨hm,.inl ⟨_,q1⟩⟩).elim
  ·exact(e3.cS b k (C.kz (o3 (i+L) j (by omega) hj).1 (o3 (i+L) j (by omega) hj).2.2.1 (by omega) hj hf)).elim
  ·obtain⟨hm,⟨o',hA⟩|⟨i,j,hi,hj,hf⟩⟩:=hf
   ·rcases o4 hm with ⟨q1,_⟩|⟨g,o2',_,_,_,q1,_⟩;·rw[r3 q1] at hA;cases hA
    ·exact e3.cS g 0 ⟨hm,.inl ⟨_,q1⟩⟩
   ·exact e3.cS b k (C.kz (o3 (i+L) j (by omega) hj).1 (o3 (i+L) j (by omega) hj).2.2.1 (by omega) hj hf)
  ·have hX:(C.row m z A' (H - L) cap' λi j=>e (i+L) j).er=.row m z ((((List.range len).map λi=>(List.range z).map λj=>(e i j).er).take H).drop L):=by simp only[C.er,<-pO,<-mj,wB];rw[mq hHl,oX,cP];rfl
   rw[hX];exact hK
 |ref v r p=>
  obtain⟨y',z',hs,hF,hv,m,sz',A,len,cap,e,rfl⟩:=e3.rf;cases hF with
  |row m m' sz' A len cap e e'=>
   simp only[C.er,rowAt,look] at k0;rw[<-h.inv.er,C.gP,hs] at k0;simp only[cv,C.er,dP,jU] at k0;obtain⟨rfl,rfl⟩:=k0;have hlen:((List.range len).map λi=>(List.range sz').map λj=>(e' i j).er).length=len:=by simp
   rw[hlen] at hrun k2 k3 hK;obtain⟨o1,o2,o3,o4,o5⟩:=C.iu p hs (h.inv.ok r);obtain⟨A',cap',r1,r2,r3,r4,r5⟩:=hrun A cap hv.symm o1;refine jL h hd hn (x:=.cut _ r p (asNat s lo 0).toNat (asNat s hi len).toNat) ⟨trivial,⟨m',_,A,len,cap,e',A',cap',hs,rfl,by omega,by omega,by omega,λhlt=>r4 (by omega),by omega,r5⟩,λ_ _ hh=>hh⟩ r1 hK
 |_=>exact hK.elim
def mC:List Operand->List AV->Bool
 |[],[]=>true
 |x'::l',x::l=>aQ x' x && mC l' l
 |_,_=>false
def MG(h:St c G zl s a w):∀{l':List Operand} {l:List AV},mC l' l=true->∃cs:List C,cs.map C.er=l.map (aC s)/\cs.map C.val=l'.map a.eval/\∀x∈cs,ew w zl c.zb G x
 |[],[],_=>⟨[],rfl,rfl,λ_ hx=>(by cases hx)⟩
 |x'::l',x::l,hc=>by
  simp only[mC,aB] at hc;obtain⟨cs,l1,l2,l3⟩:=MG h hc.2;obtain⟨p,p1,p2,p3⟩:=cx h hc.1;refine⟨p::cs,by simp[p1,l1],by simp[p2,l2],λx hx=>?_⟩;rcases b9.1 hx with rfl|hx;·exact p3
  ·exact l3 x hx
 |[],_::_,hc=>by cases hc
 |_::_,[],hc=>by cases hc
def ahr(h:St c G zl s a w){d:Nat}{f:FuncId}{cs:List AV}{cs':Array Operand}(ho:o.op=.makeFunc (.func f) #[] cs')(hd:o.dst=some d)(hn:d<c.nt)(hx:mC cs'.toList cs=true)
  (hK:aT P (.mQ d f cs) s K):dM P c o a w K:=by
 obtain⟨l,l1,l2,l3⟩:=MG h hx;refine jL h hd hn (x:=.fn f l.length λj=>l.getD j (.dead undef)) ⟨λj hj=>⟨(l3 _ (cQ hj _)).ok,(l3 _ (cQ hj _)).cS⟩,λj hj=>(l3 _ (cQ hj _)).rf,λ_ _ hh=>hh⟩ (λw' _=>?_) ?_
 ·have:(C.fn f l.length λj=>l.getD j (.dead undef)).val=.func (.func f) #[] (l.map C.val).toArray:=by show Value.func _ _ _=_;rw[mW l _ C.val]
  rw[this,l2];have hm:(cs'.toList.map a.eval).toArray=cs'.map a.eval:=by rw[<-OR,Array.toArray_toList]
  rw[hm];simp[execOp,ho,Instr.makeFunc]
 ·have:(C.fn f l.length λj=>l.getD j (.dead undef)).er=.fn f (l.map C.er):=by show X.fn _ _=_;rw[mW l _ C.er]
  rw[this,l1];exact hK
def ahC(h:St c G zl s a w){d:Nat}{src dst el:TypeId}{x:AV}{x':Operand}(ho:o.op=.convert src dst x')(hs:P.underlying src=some (.slice el))(he:P.underlying el=some (.int .u8))(hdt:P.underlying dst=some .string)(hd:o.dst=some d)(hn:d<c.nt)(hx:aQ x' x=true)
  (hK:aT P (.text d x) s K):dM P c o a w K:=by
 obtain⟨y,e1,e2,e3⟩:=cx h hx;obtain⟨xs,k1,k2,l,k3,hK⟩:=hK;rw[<-e1] at k1;obtain⟨A,len,cap,e,hxs,hv⟩:=M0 h.inv e3 k1;have hlen:len=l.length:=by have:=dz List.length (hxs.symm.trans k3);simpa [dL] using this
 subst hlen
 have hcell:∀j (hj:j<l.length),(e j 0).val=.int .u8 (l[j].toNat:Int):=by
  intro j hj;have:=dz (λt:List (List X)=>t[j]?) (hxs.symm.trans k3);simp only[dL] at this;rw[C.de,ax hj,cZ,cz hj] at this;simp only[cv,dP] at this;have hz:(e j 0).er=.int .u8 (l[j].toNat:Int):=by have h2:=dz (λt:List X=>t[0]?) this;simpa using h2
  rw[nA hz];rfl
 refine dR h hd hn (x:=.str ⟨l.toArray⟩) trivial (λ_ _ _ _ _ _ e=>(by cases e)) ?_ (λw' hE=>?_) hK;·show (⟨l.toArray⟩:ByteArray).size<=_;rw[k3] at k2;simpa [ByteArray.size] using k2
 ·cases hA:A with
  |none=>
   have hl0:l=[]:=by
    cases hl:l with
    |nil=>rfl
    |cons b t=>obtain⟨g,o',hg,_⟩:=hv.cell 0 0 (by rw[hl];simp) (by omega);rw[hA] at hg;cases hg
   subst hl0;have ey:=hv.val;rw[hA] at ey;simp only[OZ] at ey;simp[execOp,ho,<-e2,ey,convert,run_underlying hs,run_underlying he,run_underlying hdt,Conv.bytesToString,C.val];rfl
  |some q=>
   have ey:=hv.val;rw[hA] at ey;simp only[cv] at ey
   have:=run_convert_bytes_back (P:=P) w' src dst el ⟨q.1,q.2.1,q.2.2⟩ cap l hs he hdt (λj hj=>by
    obtain⟨g,o',hg,hcl⟩:=hv.cell j 0 hj (by omega);rw[hA] at hg;injection hg with hg
    subst hg;rw[rC,<-hcell j hj];exact hE.cell (λhs=>hs) (by simpa using hcl))
   simp[execOp,ho,<-e2,ey,this,C.val]
end
end M
namespace M
open Go Go.RowKit
variable [Bs]
variable {w w':World}{zl zb:Nat->Nat->Prop}{G G1:Nat->C}{s s1:ah}{Z:Md->Nat->Nat->Prop}
def qc{α:Type}{l:List α}{i:Nat}{x:α}(h:l[i]?=some x)(d:α):l.getD i d=x:=by rw[ji,h];rfl
def C.RQ(c:C):c.fits .own:=by cases c<;>first|trivial|exact .inl rfl
def AE{α:Type}{sz:Nat}:∀{L:List (List α)} (h:∀e∈L,e.length=sz) (i j:Nat) (hi:i<L.length) (hj:j<sz),L.flatten[i*sz+j]?=(L[i]?).bind (·[j]?)
 |[],h,i,j,hi,hj=>by simp at hi
 |e::L,h,0,j,hi,hj=>by have:=h e (bD ..);simp only[Nat.zero_mul,nq,Ju,zR,gx];rw[kK (by omega)]
 |e::L,h,i+1,j,hi,hj=>by have he:=h e (bD ..);have hh:∀e∈L,e.length=sz:=λx hx=>h x (bY _ hx);simp only[Ju,Jv];rw[iM (by rw[he,fk];omega),<-AE hh i j (by simpa using hi) hj,he];congr 1;rw[fk];omega
def r7{α:Type}{sz:Nat}:∀{L:List (List α)} (h:∀e∈L,e.length=sz),L.flatten.length=L.length*sz
 |[],h=>by simp
 |e::L,h=>by rw[Ju,eu,h e (bD ..),r7 λx hx=>h x (bY _ hx),cw,fk];omega
def yq(L:List (List C))(i j:Nat):C:=(L.getD i []).getD j (.dead undef)
def vp(g o sz cap:Nat)(L:List (List C)):C:=.row .own sz (some (g,o,none)) L.length cap (yq L)
def yt{L:List (List C)}{sz i j:Nat}(h:∀e∈L,e.length=sz)(hi:i<L.length)(hj:j<sz):L.flatten[i*sz+j]?=some (yq L i j)/\yq L i j∈L.flatten:=by
 have h1:L[i]?=some L[i]:=cz hi;have hl:L[i].length=sz:=h _ (cq hi);have h2:(L[i])[j]?=some (L[i])[j]:=cz (by omega);have h3:yq L i j=(L[i])[j]:=by unfold yq;rw[qc h1,qc h2]
 have h4:=AE h i j hi hj;rw[h1,gx,h2] at h4;rw[h3];exact⟨h4,mo h4⟩
def UM{g o sz cap:Nat}{L:List (List C)}(h:∀e∈L,e.length=sz):(vp g o sz cap L).er=.row .own sz (L.map λe=>e.map C.er):=by
 simp only[vp,C.er];congr 1;apply gy;intro i;rw[C.de,cZ];by_cases hi:i<L.length
 ·rw[ax hi,cz hi,cv];congr 1;have hl:L[i].length=sz:=h _ (cq hi);apply gy;intro j;rw[C.de,cZ];by_cases hj:j<sz;·rw[ax hj,cz (by omega),cv];unfold yq;rw[qc (cz hi),qc (cz (by omega))]
  ·rw[aF hj,jG (by omega)];rfl
 ·rw[aF hi,jG (by omega)];rfl
def ah6(g o sz cap:Nat)(L:List (List C)):(vp g o sz cap L).val=.slice (some ⟨g,o,none⟩) L.length cap:=rfl
def UN{g o sz cap:Nat}{L:List (List C)}(h:∀e∈L,e.length=sz){b k:Nat}(hf:(vp g o sz cap L).fp b k):b=g\/∃x∈L.flatten,x.fp b k:=by
 obtain⟨_,⟨o',hA⟩|⟨i,j,hi,hj,hf⟩⟩:=hf;·injection hA with hA;injection hA with e1 e2;exact .inl e1.symm
 ·exact .inr ⟨_,(yt h hi hj).2,hf⟩
def ahE{l:List C}(h:l.Pairwise λa b=>∀x k,a.fp x k->¬b.fp x k){p q:Nat}{x y:C}(hp:l[p]?=some x)(hq:l[q]?=some y)(hne:p≠q){b k:Nat}(hf:x.fp b k):¬y.fp b k:=by
 obtain⟨hp',rfl⟩:=aJ.1 hp;obtain⟨oG,rfl⟩:=aJ.1 hq;rcases Nat.lt_or_gt_of_ne hne with hlt|hlt;·exact q7.1 h p q hp' oG hlt b k hf
 ·exact λhf'=>q7.1 h q p oG hp' hlt b k hf' hf
def UO{g o sz cap:Nat}{L:List (List C)}(h:∀e∈L,e.length=sz)(hcap:L.length<=cap){arr:Array Value}{t:TypeId}{fz:Nat×Nat}(hh:w.heap[g]?=some (.cells arr t fz))(hsz:o+cap*sz<=arr.size)
  (hfr:∀k,o<=k->k<o+cap*sz->w.frozen? ⟨g,k,none⟩=false)(hcell:∀q x,L.flatten[q]?=some x->w.cell? ⟨g,o+q,none⟩=some x.val)
  (hx:∀x∈L.flatten,x.cell/\x.cU/\x.ok w Z)(ia:L.flatten.Pairwise λa b=>∀x k,a.fp x k->¬b.fp x k)(hg:∀x∈L.flatten,∀b k,x.fp b k->b≠g):(vp g o sz cap L).ok w Z:=by
 refine⟨hcap,λi j hi hj=>⟨g,o,rfl,?_,λhm=>(hm rfl).elim⟩,λi j hi hj=>?_,λ_=>.inr ⟨g,o,arr,t,fz,rfl,hh,hsz,hfr⟩,λi j hi hj b k hf=>⟨λ_ o' hA=>?_,λi' j' hi' hj' hne=>?_⟩⟩;·rw[q8];exact hcell _ _ (yt h hi hj).1
 ·obtain⟨a1,a2,a3⟩:=hx _ (yt h hi hj).2;exact⟨a1,a2,C.RQ _,a3⟩
 ·injection hA with hA;injection hA with e1 e2
  exact hg _ (yt h hi hj).2 b k hf e1.symm
 ·refine ahE ia (yt h hi hj).1 (yt h hi' hj').1 (λe=>hne ?_) hf;obtain⟨rfl,rfl⟩:=MJ hj hj' e;rfl
def Ck(g:Nat)(l:List C):C:=.ptr .own g 0 l.length λj=>l.getD j (.dead undef)
def ahN(g:Nat)(l:List C):(Ck g l).er=.ptr .own (l.map C.er):=by simp only[Ck,C.er,mW]
def ahO{g:Nat}{l:List C}{b k:Nat}(hf:(Ck g l).fp b k):b=g\/∃x∈l,x.fp b k:=by
 obtain⟨_,hA|⟨j,hj,hf⟩⟩:=hf;·exact .inl hA.1
 ·exact .inr ⟨_,cQ hj _,hf⟩
def ahP{g:Nat}{l:List C}(hg:g<w.heap.size)(hcell:∀q x,l[q]?=some x->w.cell? ⟨g,q,none⟩=some x.val)(hfr:∀k,k<l.length->w.frozen? ⟨g,k,none⟩=false)
  (hx:∀x∈l,x.cell/\x.ok w Z)(ia:l.Pairwise λa b=>∀x k,a.fp x k->¬b.fp x k)(hgx:∀x∈l,∀b k,x.fp b k->b≠g):(Ck g l).ok w Z:=by
 refine⟨λj hj=>⟨?_,λhm=>(hm rfl).elim,λ_=>?_⟩,hg,λj hj=>?_,λj hj b k hf=>⟨λ_ hb=>?_,λj' hj' hne=>?_⟩⟩;·rw[nq];exact hcell j _ (by show _=some (l.getD j (.dead undef));rw[qc (cz hj)];exact cz hj)
 ·rw[nq];exact hfr j hj
 ·obtain⟨a1,a3⟩:=hx _ (cQ hj (.dead undef));exact⟨a1,C.RQ _,a3⟩
 ·exact hgx _ (cQ hj _) b k hf hb.1
 ·exact yl ia _ hj hj' hne hf
def C.cells:C->List C
 |.agg n f=>(List.range n).map f
 |.av _ _=>[]
 |.dead _=>[]
 |x=>[x]
def C.shape(x:C):Prop:=x.cells=[]\/(∃n f,x=.agg n f)\/(x.cells=[x]/\x.cell)
def Iv{x:C}(h:x.rf G):x.shape:=by
 cases x with
 |agg n f=>exact .inr (.inl ⟨n,f,rfl⟩)
 |av n f=>exact .inl rfl
 |dead v=>exact .inl rfl
 |ref v r p=>exact .inr (.inr ⟨rfl,MY h⟩)
 |az v r p i c=>obtain⟨y,hs,hy⟩:=h;refine .inr (.inr ⟨rfl,?_⟩);rcases hy with ⟨m,sz,g,o',len,cap,e,rfl,hv⟩|⟨m,g,o',n,cc,rfl,_,hv⟩<;>(subst hv;rfl)
 |cut v r p lo hi=>obtain⟨m,sz,A,len,cap,e,A',cap',hs,hv,_⟩:=h;refine .inr (.inr ⟨rfl,?_⟩);subst hv;rfl
 |_=>exact .inr (.inr ⟨rfl,trivial⟩)
def uo(x:C):x.cells.map C.er=cellsOf x.er:=by cases x<;>simp[C.cells,C.er,cellsOf]
def ED{x:C}(h:0<x.cells.length)(hc:x.shape):x.val.cells=(x.cells.map C.val).toArray:=by
 rcases hc with hc|⟨n,f,rfl⟩|⟨h1,h2⟩;·rw[hc] at h;simp at h
 ·simp[C.cells,C.val,Value.cells]
 ·rw[h1];exact ag2 (Inv.rO h2)
def Al{x y:C}(hy:y∈x.cells){b k:Nat}(hf:y.fp b k):x.fp b k:=by
 cases x with
 |agg n f=>obtain⟨j,hj,rfl⟩:=bw.1 hy;exact⟨j,by simpa using hj,hf⟩
 |av n f=>cases hy
 |dead v=>cases hy
 |_=>simp only[C.cells,fC] at hy;subst hy;exact hf
def wW{x y:C}(hc:x.shape)(hx:x.ok w Z)(hy:y∈x.cells):y.cell/\y.ok w Z:=by
 rcases hc with hc|⟨n,f,rfl⟩|⟨h1,h2⟩;·rw[hc] at hy;cases hy
 ·obtain⟨j,hj,rfl⟩:=bw.1 hy;exact hx.1 j (by simpa using hj)
 ·rw[h1,fC] at hy;subst hy;exact⟨h2,hx⟩
def Kk{x y:C}(hx:x.rf G)(hy:y∈x.cells):y.rf G:=by
 cases x with
 |agg n f=>obtain⟨j,hj,rfl⟩:=bw.1 hy;exact hx j (by simpa using hj)
 |av n f=>cases hy
 |dead v=>cases hy
 |_=>simp only[C.cells,fC] at hy;subst hy;exact hx
def aai{x:C}(hx:x.ok w Z):x.cells.Pairwise λa b=>∀x k,a.fp x k->¬b.fp x k:=by
 cases x with
 |agg n f=>refine DL.2 ?_;refine Jp (R:=λa b=>a<b) ?_ OO;intro i j hi hj hlt b k hf;exact hx.2 i (by simpa using hi) b k hf j (by simpa using hj) (by omega)
 |av n f=>exact List.Pairwise.nil
 |dead v=>exact List.Pairwise.nil
 |_=>exact WA _ _
def bP.one{c:C}(h:fE w zl zb G c G1 s1):bP w zl zb G [c] G1 s1:=bP.cons h (bP.nil h.inv)
def bP.flat{cs:List C}(h:bP w zl zb G cs G1 s1)(hc:∀x∈cs,x.shape):bP w zl zb G (cs.flatMap C.cells) G1 s1 where
 inv:=h.inv
 all:=λc hx=>by obtain⟨x,hx,iS⟩:=Jf.1 hx;obtain⟨a1,a2,a3,a4⟩:=h.all x hx;exact⟨(wW (hc x hx) a1 iS).2,λt b k hf=>a2 t b k (Al iS hf),λb k hf=>a3 b k (Al iS hf),λb k hf=>a4 b k (Al iS hf)⟩
 apart:=by
  have h1:=h.apart;have h2:=h.all;clear h hc;induction cs with
  |nil=>exact List.Pairwise.nil
  |cons x cs ih=>rw[jV];rw[fh] at h1;refine tL.2 ⟨aai (h2 x (bD ..)).1,ih h1.2 (λc hc=>h2 c (bY _ hc)),λa ha b hb y k hf hf'=>?_⟩;obtain⟨x',hx',hb⟩:=Jf.1 hb;exact h1.1 x' hx' y k (Al ha hf) (Al hb hf')
 val:=h.val
 mono:=h.mono
namespace Inv
def ext(h:Inv w zl zb G s){S:Nat->Nat->Prop}(hE:Ext S w w')(hS:∀t b k,(G t).fp b k->¬S b k)(hZ:∀b k,zl b k\/zb b k->¬S b k):Inv w' zl zb G s where
 er:=h.er
 ok:=λt=>C.fI hE (λm b k hz=>by cases m with
  |own=>exact hz.elim
  |sl=>exact hZ b k (.inl hz)
  |af=>exact hZ b k hz) _ (hS t) (h.ok t)
 sep:=h.sep
 fz:=h.fz
 rf:=h.rf
 cJ:=λb k hz=>lg (h.cJ b k hz) hE.size
end Inv
def St.fresh'{c:Ctx}{zl:Nat->Nat->Prop}{a:Act}{l:List C}{S:Nat->Nat->Prop}(h:St c G zl s a w)(hT:bP w zl c.zb G l G1 s1)(hE:Ext S w w')(hS:∀b k,S b k->w.heap.size<=b\/∃y∈l,y.fp b k){x:C}{n:Nat}(hn:n<c.nt)(hok:x.ok w' (Zf zl c.zb))(hrf:x.rf G1)
  (cC:∀b k,x.fp b k->w.heap.size<=b\/∃y∈l,y.fp b k):∃G',St c G' zl (M.put n x.er s1) (a.put (some n) x.val) w':=by
 have hi:Inv w' zl c.zb G1 s1:=hT.inv.ext hE (λt b k hf hs=>by
  rcases hS b k hs with hb|⟨y,hy,hf'⟩;·have:=C.fF _ (hT.inv.ok t) b k hf;omega
  ·exact(hT.all y hy).2.1 t b k hf' hf) (λb k hz hs=>by
  rcases hS b k hs with hb|⟨y,hy,hf'⟩;·have:=hT.inv.cJ b k hz;omega
  ·exact hz.elim ((hT.all y hy).2.2.1 b k hf').1 ((hT.all y hy).2.2.1 b k hf').2)
 have hdom:∀b k,(w.heap.size<=b\/∃y∈l,y.fp b k)->c.F0 b k\/c.w0.heap.size<=b:=λb k hh=>by
  rcases hh with hb|⟨y,hy,hf⟩;·exact .inr (jF h.tr.ext.size hb)
  ·obtain⟨t,ht⟩:=(hT.all y hy).2.2.2 b k hf;exact h.tr.dom t b k ht
 have h1:St c G1 zl s1 a w':=h.move hi hT.val hE (λb k hs=>hdom b k (hS b k hs)) (λt b k hf=>.inl ⟨t,hT.mono t b k hf⟩);refine h1.put hn hok (λt _ b k hf hf'=>?_) (λb k hf=>?_) hrf (λb k hf=>hdom b k (cC b k hf))
 ·rcases cC b k hf with hb|⟨y,hy,hf⟩;·have:=C.fF _ (hT.inv.ok t) b k hf';omega
  ·exact(hT.all y hy).2.1 t b k hf hf'
 ·rcases cC b k hf with hb|⟨y,hy,hf⟩;·exact⟨λhz=>by have:=hT.inv.cJ b k (.inl hz);omega,λhz=>by have:=hT.inv.cJ b k (.inr hz);omega⟩
  ·exact(hT.all y hy).2.2.1 b k hf
def St.fresh{c:Ctx}{zl:Nat->Nat->Prop}{a:Act}{l:List C}(h:St c G zl s a w)(hT:bP w zl c.zb G l G1 s1)(hE:Ext (λb _=>w.heap.size<=b) w w'){x:C}{n:Nat}(hn:n<c.nt)(hok:x.ok w' (Zf zl c.zb))(hrf:x.rf G1)
  (cC:∀b k,x.fp b k->w.heap.size<=b\/∃y∈l,y.fp b k):∃G',St c G' zl (M.put n x.er s1) (a.put (some n) x.val) w':=
 h.fresh' hT hE (λ_ _ hs=>.inl hs) hn hok hrf cC
def bP.fits'{l:List C}{S:Nat->Nat->Prop}(hT:bP w zl zb G l G1 s1)(hE:Ext S w w')(hZ:∀b k,zl b k\/zb b k->¬S b k){x:C}(hx:x.ok w (Zf zl zb))(hS:∀b k,x.fp b k->¬S b k):x.ok w' (Zf zl zb):=
 C.fI hE (λm b k hz=>by cases m with
  |own=>exact hz.elim
  |sl=>exact hZ b k (.inl hz)
  |af=>exact hZ b k hz) _ hS hx
def bP.fits{l:List C}(hT:bP w zl zb G l G1 s1)(hE:Ext (λb _=>w.heap.size<=b) w w'){x:C}(hx:x∈l):x.ok w' (Zf zl zb):=by obtain⟨a1,a2,a3,a4⟩:=hT.all x hx;exact C.fI hE (λm b k hz hs=>by have:=JH hT.inv.cJ m b k hz;omega) _ (λb k hf hs=>by have:=C.fF _ a1 b k hf;omega) a1
def AW(w:World)(o:Obj):(w.alloc o).heap[w.heap.size]?=some o:=by show (w.heap.push o)[w.heap.size]?=_;simp
def JL(w:World)(o:Obj):Ext (λb _=>w.heap.size<=b) w (w.alloc o):=Ext.alloc w _ o
def Rh(w:World)(o:Obj):Ext (λb _=>w.heap.size<=b) w (w.drew.alloc o):=
 (Ext.drew w (λb _=>w.heap.size<=b)).trans (Ext.alloc w.drew (λb _=>w.heap.size<=b) o) (λ_ _ h _=>h)
end M
namespace M
open Go Go.RowKit
variable [Bs]
section
variable {P:Program}{c:Ctx}{G:Nat->C}{zl:Nat->Nat->Prop}{s:ah}{a:Act}{w:World}{o:Oper}{K:ah->Prop}
def ny:List Value->List X->Bool
 |[],[]=>true
 |v::vs,x::xs=>(EE v x||(match x with|.dead=>v.oneCell'|_=>false)) && ny vs xs
 |_,_=>false
structure Ys (w:World) (zl zb:Nat->Nat->Prop) (vs:List Value) (xs:List X) (l:List C):Prop where
 er:l.map C.er=xs
 val:l.map C.val=vs
 all:∀x∈l,x.plain/\x.ok w (Zf zl zb)/\∀b k,¬x.fp b k
def DZ(w:World)(zl zb:Nat->Nat->Prop):∀{vs:List Value} {xs:List X},ny vs xs=true->∃l,Ys w zl zb vs xs l
 |[],[],_=>⟨[],rfl,rfl,λ_ hx=>(by cases hx)⟩
 |v::vs,x::xs,h=>by
  simp only[ny,aB,tQ] at h;obtain⟨l,l1,l2,l3⟩:=DZ w zl zb h.2
  have:∃d:C,d.er=x/\d.val=v/\d.plain/\d.ok w (Zf zl zb)/\∀b k,¬d.fp b k:=by
   rcases h.1 with h1|h1;·obtain⟨d,d1,d2,d3,d4⟩:=Q9 (w:=w) (zl:=zl) (c:=⟨w,zl,zl,zb,0,[]⟩) (G:=λ_=>.dead undef) h1;exact⟨d,d1,d2,d4,d3.ok,d3.cS⟩
   ·cases x with
    |dead=>exact⟨.dead v,rfl,rfl,h1,trivial,λ_ _ h=>h⟩
    |_=>cases h1
  obtain⟨d,d1,d2,d3⟩:=this;refine⟨d::l,by simp[d1,l1],by simp[d2,l2],λx hx=>?_⟩;rcases b9.1 hx with rfl|hx;·exact d3
  ·exact l3 x hx
 |[],_::_,h=>by cases h
 |_::_,[],h=>by cases h
def rF{l:List C}(h:∀x∈l,∀b k,¬x.fp b k):l.Pairwise λa b=>∀x k,a.fp x k->¬b.fp x k:=by
 induction l with
 |nil=>exact List.Pairwise.nil
 |cons x l ih=>exact fh.2 ⟨λy _ b k hf=>(h x (bD ..) b k hf).elim,ih λy hy=>h y (bY _ hy)⟩
def bP.none(h:Inv w zl c.zb G s){l:List C}(hl:∀x∈l,x.ok w (Zf zl c.zb)/\∀b k,¬x.fp b k):bP w zl c.zb G l G s:=
 ⟨h,λx hx=>⟨(hl x hx).1,λt b k hf=>((hl x hx).2 b k hf).elim,λb k hf=>((hl x hx).2 b k hf).elim,λb k hf=>((hl x hx).2 b k hf).elim⟩,rF λx hx=>(hl x hx).2,λ_=>rfl,λ_ _ _ hf=>hf⟩
def Sm(h:St c G zl s a w){l:List C}{G1:Nat->C}{s1:ah}(hT:bP w zl c.zb G l G1 s1)(hcell:∀x∈l,x.cell)(hrf:∀x∈l,x.rf G1){d:Nat}(hd:o.dst=some d)(hn:d<c.nt){t:TypeId}{arr:Array Value}(K4:arr=(l.map C.val).toArray)
  (hrun:(execOp a.eval o).run P w=.ok (.value (.pointer (some ⟨w.heap.size,0,none⟩))) (w.alloc (.cells arr t)))(hK:K (put d (.ptr .own (l.map C.er)) s1)):jX P c o a w K:=by
 subst K4;have hE:=JL w (.cells (l.map C.val).toArray t);have hnew:=AW w (.cells (l.map C.val).toArray t)
 have hok:(Ck w.heap.size l).ok (w.alloc (.cells (l.map C.val).toArray t)) (Zf zl c.zb):=by
  refine ahP ?_ (λq x hq=>?_) (λk _=>frozen_of_row _ _ _ _ _ hnew) (λx hx=>⟨hcell x hx,hT.fits hE hx⟩) hT.apart (λx hx b k hf=>?_);·exact(kL.1 hnew).1
  ·rw[cell_of_row _ _ _ _ _ (0,0) hnew];simp[hq]
  ·have:=C.fF _ (hT.all x hx).1 b k hf;omega
 obtain⟨G',h'⟩:=h.fresh hT hE hn hok (λj hj=>hrf _ (cQ hj _)) (λb k hf=>(ahO hf).imp (λe=>by omega) id);refine⟨_,_,hrun,hE.mono (λb k hs hb=>by omega),G',zl,_,hK,?_⟩;rw[hd];rw[ahN] at h';exact h'
def good_row(h:St c G zl s a w){L:List (List C)}{sz cap:Nat}{G1:Nat->C}{s1:ah}(hL:∀e∈L,e.length=sz)(hcap:L.length<=cap)(hT:bP w zl c.zb G L.flatten G1 s1)(hpl:∀x∈L.flatten,x.plain){d:Nat}(hd:o.dst=some d)(hn:d<c.nt)
  {t:TypeId}{arr:Array Value}{fz:Nat×Nat}{w':World}(hE:Ext (λb _=>w.heap.size<=b) w w')(hnew:w'.heap[w.heap.size]?=some (.cells arr t fz))(hsz:cap*sz<=arr.size)(hfz:∀k,k<cap*sz->¬(fz.1<=k/\k<fz.2))(K4:∀(q:Nat) (x:C),L.flatten[q]?=some x->arr[q]?=some x.val)
  (hrun:(execOp a.eval o).run P w=.ok (.value (.slice (some ⟨w.heap.size,0,none⟩) L.length cap)) w')(hK:K (put d (.row .own sz (L.map λe=>e.map C.er)) s1)):jX P c o a w K:=by
 have hok:(vp w.heap.size 0 sz cap L).ok w' (Zf zl c.zb):=by
  refine UO hL hcap hnew (by omega) (λk _ hk=>?_) (λq x hq=>?_) (λx hx=>⟨C.lY (hpl x hx),C.Ci (hpl x hx),hT.fits hE hx⟩) hT.apart (λx hx b k hf=>?_);·have:=hfz k (by omega);simp[World.frozen?,hnew];omega
  ·rw[cell_of_row _ _ _ _ _ fz hnew,nq];exact K4 q x hq
  ·have:=C.fF _ (hT.all x hx).1 b k hf;omega
 obtain⟨G',h'⟩:=h.fresh hT hE hn hok trivial (λb k hf=>(UN hL hf).imp (λe=>by omega) id);refine⟨_,_,hrun,hE.mono (λb k hs hb=>by omega),G',zl,_,hK,?_⟩;rw[hd];rw[UM hL] at h';exact h'
def ahu(h:St c G zl s a w){d:Nat}{ty:TypeId}{i:TypeInfo}{v:Value}{z:List X}(ho:o.op=.alloc ty)(hi:P.info? ty=some i)(hz:i.zero=some v)(hc:ny v.cells.toList z=true)(hd:o.dst=some d)(hn:d<c.nt)
  (hK:aT P (.new d z) s K):jX P c o a w K:=by
 obtain⟨l,l1,l2,l3⟩:=DZ w zl c.zb hc;refine Sm h (bP.none h.inv λx hx=>(l3 x hx).2) (λx hx=>C.lY (l3 x hx).1) (λx hx=>C.oW (l3 x hx).1 _) hd hn (t:=ty) (arr:=v.cells) ?_ ?_ (by rw[l1];exact hK);·rw[l2]
 ·simp[execOp,ho,Instr.alloc,zeroValue,typeInfo,hi,hz,newVar,newRow]
def aha(h:St c G zl s a w){d:Nat}{tk:Tk}{ty:TypeId}{x:AV}{x':Operand}(ho:o.op=.box ty x')(hd:o.dst=some d)(hn:d<c.nt)(hx:aQ x' x=true)
  (hK:aT P (.box d tk x) s K):jX P c o a w K:=by obtain⟨y,e1,e2,e3⟩:=cx h hx;obtain⟨y',G1,f1,f2,f3,f4⟩:=qV tk h.inv e3;obtain⟨k1,k2⟩:=hK;rw[<-e1,<-f1,<-uo] at k1 k2;have hsh:=Iv f4.rf;have hT:=bP.flat (bP.one f4) (λx hx=>by rw[fC] at hx;subst hx;exact hsh);simp only[jV,Pd,lz] at hT;refine Sm h hT (λx hx=>(wW hsh f4.ok hx).1) (λx hx=>Kk f4.rf hx) hd hn (t:=ty) (ED (by simpa using k1) hsh) ?_ k2;rw[f2,e2];simp[execOp,ho,Instr.box,newVar,newRow]
def ahq(h:St c G zl s a w){d sz bytes:Nat}{ty el:TypeId}{i:TypeInfo}{v:Value}{z:List X}{n:AV}{n' n2:Operand}(ho:o.op=.makeSlice ty n' n2)(hu:P.underlying ty=some (.slice el))(hi:P.info? el=some i)(hz:i.zero=some v)(hsz:i.size=sz)(hb:i.bytes=bytes)(hb0:0<bytes)
  (h0:0<sz)(hzs:z.length=sz)(hc:ny v.cells.toList z=true)(hd:o.dst=some d)(hn:d<c.nt)(hx:aQ n' n=true)(hx2:aQ n2 n=true)(hK:aT P (.make d sz bytes z n) s K):jX P c o a w K:=by
 obtain⟨y,e1,e2,e3⟩:=cx h hx;obtain⟨y2,g1,g2,g3⟩:=cx h hx2;simp only[aT] at hK;split at hK
 ·rename_i k m hm;have hm2:=hm;rw[<-e1] at hm;rw[<-g1] at hm2;have:=nA hm;subst this;have:=nA hm2;subst this;obtain⟨k1,k2,k3⟩:=hK;obtain⟨l,l1,l2,l3⟩:=DZ w zl c.zb hc;have nE:l.length=sz:=by rw[<-hzs,<-l1];simp
  have hvs:v.cells.size=sz:=by have:=dz List.length l2;simp only[cV,DK] at this;omega
  have hL:∀e∈List.replicate m.toNat l,e.length=sz:=λe he=>by rw[(ON.1 he).2];exact nE
  have hfl:∀x∈(List.replicate m.toNat l).flatten,x∈l:=λx hx=>by obtain⟨e,he,hx⟩:=Jg.1 hx;rw[(ON.1 he).2] at hx;exact hx
  have hmul:m<=m*bytes:=by have:m*1<=m*(bytes:Int):=Int.mul_le_mul_of_nonneg_left (by omega) k1;omega
  have hr:=run_make (P:=P) w ty el i v hu hi hz k k m m k1 (Int.le_refl _) (by rw[hb,Int.mul_comm];omega) (by omega);refine good_row h (L:=List.replicate m.toNat l) (cap:=m.toNat) hL (by simp) (bP.none h.inv λx hx=>(l3 x (hfl x hx)).2) (λx hx=>(l3 x (hfl x hx)).1) hd hn (JL w (.cells (madeCells v.cells (m.toNat*i.size)) el (0,0))) (AW w (.cells (madeCells v.cells (m.toNat*i.size)) el (0,0))) ?_ ?_ ?_ ?_ ?_;·rw[size_madeCells,hsz];exact ek _
  ·intro k _ hh;simp at hh
  ·intro q x hq;have A6:q<m.toNat*sz:=by have:=(aJ.1 hq).1;rw[r7 hL,List.length_replicate] at this;exact this
   have hj:q%sz<sz:=tN _ h0;have hi':q / sz<m.toNat:=WG (by rw[q9];exact A6);have A5:q=q / sz*sz+q%sz:=by have:=DP q sz;rw[q9] at this;omega
   have:=AE hL (q / sz) (q%sz) (by simpa using hi') hj;rw[<-A5,hq,Pe,ax hi'] at this;simp only[gx] at this;have hv:v.cells.toList[q%sz]?=some x.val:=by rw[<-l2,cZ,<-this];rfl
   have ey:v.cells[q%sz]?=some x.val:=by simpa using hv
   rw[hsz];simp only[madeCells,Array.getElem?_map];rw[Array.getElem?_range,ax A6];simp[hvs,getElem!_def,ey]
  ·simp[execOp,ho,<-e2,<-g2,C.val,hr]
  ·rw[List.map_replicate,l1];exact k3
 ·exact hK.elim
def ahc(h:St c G zl s a w){d:Nat}{src dst el:TypeId}{x:AV}{x':Operand}(ho:o.op=.convert src dst x')(hs:P.underlying src=some .string)(hu:P.underlying dst=some (.slice el))(he:P.underlying el=some (.int .u8))(hd:o.dst=some d)(hn:d<c.nt)(hx:aQ x' x=true)
  (hK:aT P (.bytes d x) s K):jX P c o a w K:=by
 obtain⟨y,e1,e2,e3⟩:=cx h hx;simp only[aT] at hK;split at hK
 ·rename_i t ht;rw[<-e1] at ht;have:=EW ht;subst this;have hr:=run_bytes_of_string (P:=P) w src dst el t hs hu he;have hge:=grownCap_ge w t.size 0 el;generalize grownCap w t.size 0 el=cap at hr hge;have hL:∀e∈t.data.toList.map (λb:UInt8=>[C.int .u8 (b.toNat:Int)]),e.length=1:=λe he=>by obtain⟨b,_,rfl⟩:=bw.1 he;rfl
  have hfl:∀x∈(t.data.toList.map (λb:UInt8=>[C.int .u8 (b.toNat:Int)])).flatten,∃n,x=C.int .u8 n:=λx hx=>by obtain⟨e,he,hx⟩:=Jg.1 hx;obtain⟨b,_,rfl⟩:=bw.1 he;exact⟨_,fC.1 hx⟩
  have hts:t.size=t.data.size:=rfl;have hlen:(t.data.toList.map (λb:UInt8=>[C.int .u8 (b.toNat:Int)])).length=t.size:=by rw[cV,DK];rfl
  have hsz:(bytesRow t cap).size=cap:=by simp[bytesRow];omega
  refine good_row h (L:=t.data.toList.map (λb:UInt8=>[C.int .u8 (b.toNat:Int)])) (cap:=cap) (sz:=1) hL (by rw[hlen];exact hge) (bP.none h.inv λx hx=>?_) (λx hx=>?_) hd hn (Rh w (.cells (bytesRow t cap) el ((bytesRow t cap).size,(bytesRow t cap).size+1))) (AW w.drew (.cells (bytesRow t cap) el ((bytesRow t cap).size,(bytesRow t cap).size+1))) ?_ ?_ ?_ ?_ ?_;·obtain⟨n,rfl⟩:=hfl x hx;exact⟨trivial,λ_ _ hf=>hf⟩
  ·obtain⟨n,rfl⟩:=hfl x hx;trivial
  ·rw[hsz];omega
  ·intro k hk;rw[hsz];omega
  ·intro q x hq;have A6:q<t.data.size:=by have:=(aJ.1 hq).1;rw[r7 hL,hlen] at this;omega
   have:=AE hL q 0 (by rw[hlen];omega) (by omega);rw[Nat.mul_one,om,hq,cZ] at this;rw[bytesRow_at t cap q A6];rw[cz (by simpa using A6)] at this;simp at this;rw[this];rfl
  ·rw[hlen];simp[execOp,ho,<-e2,C.val,hr]
  ·rw[cP];exact hK
 ·exact hK.elim
end
end M
namespace M
open Go Go.RowKit
variable [Bs]
def ahK{y:C}(hc:y.cell)(h:cU y.er=true):y.plain:=by cases y<;>first|exact hc|trivial|(simp[C.er,cU] at h)
def Iz:∀{l:List X},iq l=true->∀x∈l,cU x=true
 |[],_,x,hx=>by cases hx
 |y::l,h,x,hx=>by
  simp only[iq,aB] at h;rcases b9.1 hx with rfl|hx;·exact h.1
  ·exact Iz h.2 x hx
def Tt{w:World}{Z:Md->Nat->Nat->Prop}{x y:C}(hs:x.shape)(hok:x.ok w Z)(h:iq (cellsOf x.er)=true)(hy:y∈x.cells):y.plain:=by refine ahK (wW hs hok hy).1 (Iz h _ ?_);rw[<-uo];exact kH hy
section
variable {P:Program}{c:Ctx}{G:Nat->C}{zl:Nat->Nat->Prop}{s:ah}{a:Act}{w:World}{o:Oper}{K:ah->Prop}
def St.zu{x:C}{G1:Nat->C}{s1:ah}(h:St c G zl s a w)(hT:fE w zl c.zb G x G1 s1):St c G1 zl s1 a w:=
 h.move hT.inv hT.val (Ext.refl (λ_ _=>False) w) (λ_ _ hs=>hs.elim) (λt b k hf=>.inl ⟨t,hT.mono t b k hf⟩)
def N7(tk:Tk):∀{l':List Operand} {l:List AV},mC l' l=true->∀{G:Nat->C} {s:ah},St c G zl s a w->
  ∃cs G',cs.map C.er=(takes tk l s).1/\cs.map C.val=l'.map a.eval/\bP w zl c.zb G cs G' (takes tk l s).2/\∀x∈cs,x.shape
 |[],[],_,G,s,h=>⟨[],G,rfl,rfl,bP.nil h.inv,λ_ hx=>(by cases hx)⟩
 |x'::l',x::l,hc,G,s,h=>by
  simp only[mC,aB] at hc;obtain⟨p,p1,p2,p3⟩:=cx h hc.1;obtain⟨y,G1,f1,f2,f3,f4⟩:=qV tk h.inv p3;obtain⟨cs,G',g1,g2,g3,g4⟩:=N7 tk hc.2 (h.zu f4);rw[p1] at f1 g1 g3 f4;refine⟨y::cs,G',by simp[takes,f1,g1],by simp[f2,p2,g2],bP.cons f4 g3,λz hz=>?_⟩;rcases b9.1 hz with rfl|hz;·exact Iv f4.rf
  ·exact g4 z hz
 |[],_::_,hc,_,_,_=>by cases hc
 |_::_,[],hc,_,_,_=>by cases hc
def aiY(x:X)(s:ah):take .al x s=(x,s):=by cases x<;>rfl
def Vv:∀(l:List AV) (s:ah),takes .al l s=(l.map (aC s),s)
 |[],s=>rfl
 |x::l,s=>by simp only[takes,aiY,Vv l s,bn]
def aiZ(tk:Tk){l':List Operand}{l:List AV}(hc:mC l' l=true)(h:St c G zl s a w)(hs:IA tk (takes tk l s).1):
  ∃cs G',cs.map C.er=(takes tk l s).1/\cs.map C.val=l'.map a.eval/\bP w zl c.zb G cs G' (takes tk l s).2/\(∀x∈cs,x.shape)/\∀x∈cs,∀y∈x.cells,y.rf G':=by
 have gen:(∀x∈(takes tk l s).1,iq (cellsOf x)=true)->∃cs G',cs.map C.er=(takes tk l s).1/\cs.map C.val=l'.map a.eval/\bP w zl c.zb G cs G' (takes tk l s).2/\(∀x∈cs,x.shape)/\∀x∈cs,∀y∈x.cells,y.rf G':=by intro hs;obtain⟨cs,G',g1,g2,g3,g4⟩:=N7 tk hc h;refine⟨cs,G',g1,g2,g3,g4,λx hx y hy=>C.oW (Tt (g4 x hx) (g3.all x hx).1 (hs _ ?_) hy) _⟩;rw[<-g1];exact kH hx
 cases tk with
 |al=>rw[Vv];obtain⟨cs,l1,l2,l3⟩:=MG h hc;exact⟨cs,G,l1,l2,bP.none h.inv λx hx=>⟨(l3 x hx).ok,(l3 x hx).cS⟩,λx hx=>Iv (l3 x hx).rf,λx hx y hy=>Kk (l3 x hx).rf hy⟩
 |mv=>exact gen hs
 |aM=>exact gen hs
def An:Nat->List (Nat×Operand)->List AV->Bool
 |_,[],[]=>true
 |k,(i,x')::l',x::l=>i==k && aQ x' x && An (k+1) l' l
 |_,_,_=>false
def Q0(a:Act):∀{k:Nat} {l':List (Nat×Operand)} {l:List AV},An k l' l=true->mC (l'.map (·.2)) l=true/\l'.length=l.length/\(l'.map λx=>(x.1,a.eval x.2))=(((l'.map (·.2)).map a.eval).zipIdx k).map λx=>(x.2,x.1)
 |k,[],[],_=>⟨rfl,rfl,rfl⟩
 |k,(i,x')::l',x::l,h=>by simp only[An,aB,en] at h;obtain⟨⟨rfl,h1⟩,h2⟩:=h;obtain⟨i1,i2,i3⟩:=Q0 a h2;exact⟨by simp[mC,h1,i1],by simp[i2],by simp[i3,List.zipIdx_cons]⟩
 |k,[],_::_,h=>by cases h
 |k,_::_,[],h=>by cases h
def aho(h:St c G zl s a w){d sz n:Nat}{tk:Tk}{ty el:TypeId}{i:TypeInfo}{v:Value}{ps:List AV}{ps':Array (Nat×Operand)}(ho:o.op=.buildSlice ty n ps')(hu:P.underlying ty=some (.slice el))(hi:P.info? el=some i)(hz:i.zero=some v)(hsz:i.size=sz)
  (h0:0<sz)(hvs:v.cells.size=sz)(hn':ps'.toList.length=n)(hbig:n*sz<=16777216)(hd:o.dst=some d)(hn:d<c.nt)(hx:An 0 ps'.toList ps=true)(hK:aT P (.lit d tk sz ps) s K):jX P c o a w K:=by
 obtain⟨i1,i2,i3⟩:=Q0 a hx;obtain⟨k1,k2⟩:=hK;obtain⟨cs,G',g1,g2,g3,g4⟩:=N7 tk i1 h;rw[<-g1] at k1 k2;have hlen:∀x∈cs,x.cells.length=sz:=λx hx=>by have:=(k1 x.er (kH hx)).1;rw[<-uo] at this;simpa using this
 have hcl:cs.length=n:=by have:=dz List.length g2;simp only[cV] at this;omega
 have hL:∀e∈cs.map C.cells,e.length=sz:=λe he=>by obtain⟨x,hx,rfl⟩:=bw.1 he;exact hlen x hx
 have hfl:(cs.map C.cells).flatten=cs.flatMap C.cells:=by rw[List.flatMap_def]
 have hval:∀x∈cs,x.val.cells=(x.cells.map C.val).toArray:=λx hx=>ED (by rw[hlen x hx];exact h0) (g4 x hx);have hvl:∀v∈cs.map C.val,v.cells.size=sz:=λv hv=>by obtain⟨x,hx,rfl⟩:=bw.1 hv;rw[hval x hx];simp[hlen x hx]
 have aeE:((cs.map C.val).flatMap λv=>v.cells.toList)=(cs.flatMap C.cells).map C.val:=by
  rw[List.map_flatMap,List.flatMap_map];clear k1 k2 g1 g2 g3 g4 hcl hL hfl hvl hlen;induction cs with
  |nil=>rfl
  |cons x cs ih=>rw[jV,jV,ih λy hy=>hval y (bY _ hy),hval x (bD ..)]
 have hparts:(ps'.map λ(i,x)=>(i,a.eval x)).toList=((cs.map C.val).zipIdx 0).map λx=>(x.2,x.1):=by rw[OR,g2];exact i3
 have hrun:(Instr.buildSlice ty n (ps'.map λ(i,x)=>(i,a.eval x))).run P w=.ok (.slice (some ⟨w.heap.size,0,none⟩) n n) (w.alloc (.cells ((cs.flatMap C.cells).map C.val).toArray el)):=by
  by_cases hz0:n=0
  ·subst hz0;have hc0:cs=[]:=O9 hcl;subst hc0;have hp:ps'= #[]:=by apply pN;exact O9 hn'
   subst hp;simp[Instr.buildSlice,run_underlying hu,Go.sizeOf,typeInfo,hi,newRow,Instr.fill,Array.range_zero']
  ·have hsmall:¬n*i.size>2^24:=by rw[hsz];omega
   have hpos:¬n*i.size=0:=by rw[hsz];have:=Nat.mul_pos (Nat.pos_of_ne_zero hz0) h0;omega
   refine run_buildSlice (P:=P) w ty el n _ _ i v hu hi hz hsmall hpos ?_;rw[hparts,hsz,<-aeE];exact Great.fill_whole h0 _ _ hvl (by simp[hcl])
 refine good_row h (L:=cs.map C.cells) (cap:=n) (sz:=sz) (fz:=(0,0)) (w':=w.alloc (.cells ((cs.flatMap C.cells).map C.val).toArray el)) hL (by simp[hcl]) (by rw[hfl];exact bP.flat g3 g4) (λy hy=>?_) hd hn (JL w _) (AW w _) ?_ (λk _ hh=>by simp at hh) ?_ ?_ ?_;·rw[hfl] at hy;obtain⟨x,hx,hy⟩:=Jf.1 hy;exact Tt (g4 x hx) (g3.all x hx).1 (k1 x.er (kH hx)).2 hy
 ·have:=r7 hL;rw[hfl] at this;simp only[cV] at this;simp[this,hcl]
 ·intro q x hq;rw[hfl] at hq;simp[hq]
 ·have:(cs.map C.cells).length=n:=by simp[hcl]
  rw[this];simp only[execOp,ho,Sem.run_bind,hrun,Result.andThen_ok,Sem.run_pure]
 ·rw[cP] at k2⊢;have:cs.map (cellsOf∘C.er)=cs.map ((λe=>e.map C.er)∘C.cells):=cm λx _=>(uo x).symm;rw[<-this];exact k2
def R3:∀(vs:List Value) (off k:Nat) (cells:Array Value),((vs.zipIdx k).foldl (λcs (x:Value×Nat)=>cs.setIfInBounds (off+x.2) x.1) cells).toList=kQ cells.toList (off+k) vs
 |[],off,k,cells=>rfl
 |v::vs,off,k,cells=>by rw[List.zipIdx_cons,ou,R3 vs off (k+1)];rw[Array.toList_setIfInBounds];rfl
def KI{α β:Type}(f:α->β):∀(ys:List α) (l:List α) (o:Nat),(kQ l o ys).map f=kQ (l.map f) o (ys.map f)
 |[],l,o=>rfl
 |y::ys,l,o=>by simp only[kQ,bn];rw[KI f ys,amM]
def RD{α:Type}:∀(ys:List α) (l:List α) (o:Nat),(kQ l o ys).length=l.length
 |[],l,o=>rfl
 |y::ys,l,o=>by simp only[kQ];rw[RD ys,Jd]
def KJ{α:Type}:∀(ys:List α) (l:List α) (o:Nat),∀x∈kQ l o ys,x∈l\/x∈ys
 |[],l,o,x,hx=>.inl hx
 |y::ys,l,o,x,hx=>by
  rcases KJ ys _ _ x hx with hx|hx
  ·rcases OM hx with hx|rfl;·exact .inl hx
   ·exact .inr (bD ..)
  ·exact .inr (bY _ hx)
def U5{α:Type}{R:α->α->Prop}(sD:∀a b,R a b->R b a){y:α}:∀{l:List α},l.Pairwise R->(∀x∈l,R x y)->∀o,(l.set o y).Pairwise R
 |[],h,hy,o=>by simp
 |x::l,h,hy,0=>by rw[fh] at h;rw[DN];exact fh.2 ⟨λa ha=>sD _ _ (hy a (bY _ ha)),h.2⟩
 |x::l,h,hy,o+1=>by
  rw[fh] at h;rw[List.set_cons_succ];refine fh.2 ⟨λa ha=>?_,U5 sD h.2 (λz hz=>hy z (bY _ hz)) o⟩;rcases OM ha with ha|rfl;·exact h.1 a ha
  ·exact hy x (bD ..)
def RE{α:Type}{R:α->α->Prop}(sD:∀a b,R a b->R b a):∀(ys:List α) (l:List α) (o:Nat),l.Pairwise R->ys.Pairwise R->(∀x∈l,∀y∈ys,R x y)->(kQ l o ys).Pairwise R
 |[],l,o,h,_,_=>h
 |y::ys,l,o,h,h2,h3=>by
  rw[fh] at h2;refine RE sD ys _ _ (U5 sD h (λx hx=>h3 x hx y (bD ..)) o) h2.2 λx hx z hz=>?_;rcases OM hx with hx|rfl;·exact h3 x hx z (bY _ hz)
  ·exact h2.1 z hz
def mF:List C->List Nat->List C->List C
 |cs,o::os,y::ys=>mF (kQ cs o y.cells) os ys
 |cs,_,_=>cs
def RJ:∀(cs:List C) (os:List Nat) (ys:List C),(mF cs os ys).map C.er=xh (cs.map C.er) os (ys.map C.er)
 |cs,[],ys=>by cases ys<;>rfl
 |cs,o::os,[]=>rfl
 |cs,o::os,y::ys=>by simp only[mF,xh,bn];rw[RJ,KI,uo]
def RL:∀(cs:List C) (os:List Nat) (ys:List C),∀x∈mF cs os ys,x∈cs\/x∈ys.flatMap C.cells
 |cs,[],ys,x,hx=>by cases ys<;>exact .inl hx
 |cs,o::os,[],x,hx=>.inl hx
 |cs,o::os,y::ys,x,hx=>by
  rw[jV,dy];rcases RL _ os ys x hx with hx|hx;·exact(KJ _ _ _ x hx).imp id .inl
  ·exact .inr (.inr hx)
def RM{R:C->C->Prop}(sD:∀a b,R a b->R b a):∀(cs:List C) (os:List Nat) (ys:List C),cs.Pairwise R->(ys.flatMap C.cells).Pairwise R->(∀x∈cs,∀y∈ys.flatMap C.cells,R x y)->(mF cs os ys).Pairwise R
 |cs,[],ys,h,_,_=>by cases ys<;>exact h
 |cs,o::os,[],h,_,_=>h
 |cs,o::os,y::ys,h,h2,h3=>by
  rw[jV,tL] at h2;refine RM sD _ os ys (RE sD _ _ _ h h2.1 λx hx z hz=>h3 x hx z (by rw[jV];exact OJ _ hz)) h2.2.1 λx hx z hz=>?_;rcases KJ _ _ _ x hx with hx|hx;·exact h3 x hx z (by rw[jV];exact OK _ hz)
  ·exact h2.2.2 x hx z hz
def uq(places:List (Nat×Nat))(len:Nat):List (Nat×Operand)->List ((Nat×Nat)×AV)->Bool
 |[],[]=>true
 |(i,x')::l',((off,size),x)::l=>(match places[i]? with|some q=>q.1==off && q.2==size|none=>false) && decide (0<size) && decide (off+size<=len) && aQ x' x && uq places len l' l
 |_,_=>false
def QW{places:List (Nat×Nat)}{len:Nat}:∀{l':List (Nat×Operand)} {l:List ((Nat×Nat)×AV)},uq places len l' l=true->mC (l'.map (·.2)) (l.map (·.2))=true
 |[],[],_=>rfl
 |(i,x')::l',((off,size),x)::l,h=>by simp only[uq,aB] at h;simp only[bn,mC,h.1.2,QW h.2,Bool.and_self]
 |[],_::_,h=>by cases h
 |_::_,[],h=>by cases h
def RF(a:Act){places:List (Nat×Nat)}{len:Nat}:∀{l':List (Nat×Operand)} {l:List ((Nat×Nat)×AV)},uq places len l' l=true->∀(zs cs:List C),zs.length=len->cs.map C.val=(l'.map (·.2)).map a.eval->(∀x∈cs,x.shape)->zk (l.map (·.1.2)) (cs.map C.er)->
  Instr.fill (λi=>places[i]?) (zs.map C.val).toArray (l'.map λx=>(x.1,a.eval x.2))=some ((mF zs (l.map (·.1.1)) cs).map C.val).toArray
 |[],[],_,zs,cs,hz,hv,hs,hsz=>by
  cases cs with
  |nil=>rfl
  |cons x cs=>simp at hv
 |(i,x')::l',((off,size),x)::l,h,zs,cs,hz,hv,hs,hsz=>by
  simp only[uq,aB,bp] at h;obtain⟨⟨⟨⟨h1,h2⟩,h3⟩,h4⟩,h5⟩:=h;cases cs with
  |nil=>simp at hv
  |cons y cs=>
   simp only[bn,wE] at hv;simp only[bn,zk] at hsz
   have hpl:places[i]?=some (off,size):=by
    cases hp:places[i]? with
    |none=>rw[hp] at h1;cases h1
    |some q=>rw[hp] at h1;simp only[aB,en] at h1;rw[<-h1.1,<-h1.2]
   have qn:y.cells.length=size:=by have:=hsz.1;rw[<-uo] at this;simpa using this
   have oH:=ED (by rw[qn];exact h2) (hs y (bD ..));simp only[bn];unfold Instr.fill;simp only[hpl,<-hv.1,oH];rw[aF (by simp[qn,hz];exact h3)];have:(((y.cells.map C.val).toArray.zipIdx).foldl (λcs (x:Value×Nat)=>cs.setIfInBounds (off+x.2) x.1) (zs.map C.val).toArray)=((kQ zs off y.cells).map C.val).toArray:=by apply pN;rw[<-Array.foldl_toList,Array.toList_zipIdx,R3,KI];rfl
   have ih:=RF a h5 (kQ zs off y.cells) cs (by rw[RD];exact hz) hv.2 (λx hx=>hs x (bY _ hx)) hsz.2;simp only[mF];rw[<-ih,<-this]
 |[],_::_,h,_,_,_,_,_,_=>by cases h
 |_::_,[],h,_,_,_,_,_,_=>by cases h
def ahb(h:St c G zl s a w){d:Nat}{tk:Tk}{ty:TypeId}{i:TypeInfo}{v:Value}{z:List X}{ps:List ((Nat×Nat)×AV)}{ps':Array (Nat×Operand)}{places:List (Nat×Nat)}(ho:o.op=.build ty ps')
  (hb:∀parts cells,Instr.fill (λi=>places[i]?) v.cells parts=some cells->P.built ty parts=some cells)(hc:ny v.cells.toList z=true)(hd:o.dst=some d)(hn:d<c.nt)(hx:uq places z.length ps'.toList ps=true)
  (hK:aT P (.build d tk z ps) s K):jX P c o a w K:=by
 obtain⟨k1,k2,k3⟩:=hK;obtain⟨cs,G',g1,g2,g3,g4,g5⟩:=aiZ tk (QW hx) h k1;obtain⟨l,l1,l2,l3⟩:=DZ w zl c.zb hc;rw[<-g1] at k2 k3;have nE:l.length=z.length:=by rw[<-l1];simp
 have SQ:=RF a hx l cs nE g2 g4 k2;have hvz:(l.map C.val).toArray=v.cells:=by rw[l2]
 rw[hvz] at SQ;have hrun:(Instr.build ty (ps'.map λ(i,x)=>(i,a.eval x))).run P w=.ok (.agg ((mF l (ps.map (·.1.1)) cs).map C.val).toArray) w:=by refine run_build w ty _ _ (hb _ _ ?_);rw[OR];exact SQ
 have hT:=bP.flat g3 g4
 have hall:∀x∈mF l (ps.map (·.1.1)) cs,x.cell/\x.ok w (Zf zl c.zb)/\x.rf G'/\∀b k,x.fp b k->∃y∈cs.flatMap C.cells,y.fp b k:=λx hx=>by
  rcases RL _ _ _ x hx with hx|hx;·obtain⟨a1,a2,a3⟩:=l3 x hx;exact⟨C.lY a1,a2,C.oW a1 _,λb k hf=>(a3 b k hf).elim⟩
  ·obtain⟨y,hy,hx'⟩:=Jf.1 hx;obtain⟨b1,b2⟩:=wW (g4 y hy) (g3.all y hy).1 hx';exact⟨b1,b2,g5 y hy x hx',λb k hf=>⟨x,hx,hf⟩⟩
 have ia:(mF l (ps.map (·.1.1)) cs).Pairwise λa b=>∀x k,a.fp x k->¬b.fp x k:=
  RM (λa b hab x k hf hf'=>hab x k hf' hf) _ _ _ (rF λx hx=>(l3 x hx).2.2) hT.apart λx hx y _ b k hf=>((l3 x hx).2.2 b k hf).elim
 obtain⟨G2,h'⟩:=h.fresh hT (Ext.refl _ w) hn (x:=gR (mF l (ps.map (·.1.1)) cs)) ⟨λj hj=>⟨(hall _ (cQ hj _)).1,(hall _ (cQ hj _)).2.1⟩,λj hj b k hf j' hj' hne=>yl ia _ hj hj' hne hf⟩ (λj hj=>(hall _ (cQ hj _)).2.2.1) (λb k hf=>by obtain⟨x,hx,hf⟩:=(rD _ _ _).1 hf;exact .inr ((hall x hx).2.2.2 b k hf))
 refine⟨.agg ((mF l (ps.map (·.1.1)) cs).map C.val).toArray,w,?_,Ext.refl _ _,G2,zl,_,k3,?_⟩;·simp only[execOp,ho,Sem.run_bind,hrun,Result.andThen_ok,Sem.run_pure]
 ·rw[hd];rw[wM,RJ,l1,z6] at h';exact h'
end
end M
namespace M
open Go Go.RowKit
variable [Bs]
section
variable {P:Program}
def aik{w:World}{g k:Nat}{v u:Value}(hv:v.oneCell'=true)(hc:w.cell? ⟨g,k,none⟩=some u)(hf:w.frozen? ⟨g,k,none⟩=false):(store ⟨g,k,none⟩ v).run P w=.ok () (w.setCell ⟨g,k,none⟩ v):=by rw[run_store P w _ v _ hv,hc];simp[hf]
def fm.hand{d y z:C}{i c g k:Nat}(h:fm d i c y g k)(hz:y.cU->z.cU):fm d i c z g k:=by
 cases h with
 |row h hi hc hs=>exact .row h hi hc (hz hs)
 |ptr h hi hc=>exact .ptr h hi hc
def fm.fp{d y:C}{i c g k:Nat}(h:fm d i c y g k):d.fp g k:=by
 cases h with
 |row hd hi hc hs=>subst hd;exact⟨rfl,.inl ⟨_,rfl⟩⟩
 |ptr hd hi hc=>subst hd;exact⟨rfl,.inl ⟨rfl,by omega,by omega⟩⟩
structure Px (w:World) (zl zb:Nat->Nat->Prop) (G:Nat->C) (l:List C):Prop where
 all:∀x∈l,x.cell/\x.ok w (Zf zl zb)/\x.rf G/\(∀t b k,x.fp b k->¬(G t).fp b k)/\∀b k,x.fp b k->¬zl b k/\¬zb b k
 apart:l.Pairwise λa b=>∀x k,a.fp x k->¬b.fp x k
def afG(r:Nat)(p:Path)(l:List C):X.gI r p (l.map C.er)=(l.map λx=>x.aE (C.bQ r p)).map C.er:=by rw[X.xS,cP];exact cm λx _=>(C.oK r p x).symm
def Vj(r:Nat)(p:Path)(i:Nat){zl zb:Nat->Nat->Prop}{g k0:Nat}:∀(n:Nat) (l:List C),l.length=n->∀(c m:Nat) {w:World} {G:Nat->C} {s:ah} {d:C},Inv w zl zb G s->(G r).sub p=some d->
  (∀q x,l[q]?=some x->fm d i (c+q) x g (k0+m+q))->Px w zl zb G l->
  ∃w' G',(storeCells ⟨g,k0,none⟩ (l.map C.val) m).run P w=.ok () w'/\Inv w' zl zb G' (setCells r p i c (l.map C.er) s)/\(∀t,(G' t).val=(G t).val)/\(∀t b k,(G' t).fp b k->(∃x∈l,x.fp b k)\/(G t).fp b k)/\Ext (λb k=>b=g/\k0+m<=k/\k<k0+m+n) w w'
 |0,l,hn,c,m,w,G,s,d,h,hsub,hsp,hh=>by have:l=[]:=O9 hn;subst this;exact⟨w,G,rfl,by simpa [setCells] using h,λ_=>rfl,λt b k hf=>.inr hf,Ext.refl _ _⟩
 |n+1,[],hn,c,m,w,G,s,d,h,hsub,hsp,hh=>by simp at hn
 |n+1,y::l,hn,c,m,w,G,s,d,h,hsub,hsp,hh=>by
  have S2:=hsp 0 y rfl;simp only[om] at S2;obtain⟨y1,y2,y3,y4,y5⟩:=hh.all y (bD ..);obtain⟨G1,i1,i2,i3,i4,i5,i6,i7,d',i8,i9⟩:=h.store r p i c d y g (k0+m) hsub S2 y2 y1 y3 y4 y5;obtain⟨u,hu⟩:=i5;have hE:=Ext.setCell w g (k0+m) y.val;have ia:=fh.1 hh.apart;have bx:∀{b k},d.fp b k->(G r).fp b k:=λhf=>C.gQ p hsub (h.ok r) hf
  have ael:∀(f:C->C),(∀x,f x=if oU r p i c s then x.aE (C.bQ r (p++[(i,c)])) else x)->Px (w.setCell ⟨g,k0+m,none⟩ y.val) zl zb G1 (l.map f):=by
   intro f qj
   have cC:∀x b k,(f x).fp b k↔x.fp b k:=λx b k=>by
    rw[qj];split;·exact C.cO _ x b k
    ·exact kJ
   refine⟨λx hx=>?_,?_⟩
   ·obtain⟨x,hx0,rfl⟩:=bw.1 hx;clear hx;have hx:x∈l:=hx0;obtain⟨x1,x2,x3,x4,x5⟩:=hh.all x (bY _ hx)
    have hok:x.ok (w.setCell ⟨g,k0+m,none⟩ y.val) (Zf zl zb):=C.fI hE (λmm b k hz hs=>by
     obtain⟨rfl,rfl⟩:=hs;exact h.zU r mm _ _ hz (bx i4)) _ (λb k hf hs=>by
     obtain⟨rfl,rfl⟩:=hs;exact x4 r _ _ hf (bx i4)) x2
    refine⟨?_,?_,?_,λt b k hf hf'=>?_,λb k hf=>x5 b k ((cC x b k).1 hf)⟩
    ·rw[qj];split;·exact C.GL _ _ x1
     ·exact x1
    ·rw[qj];split;·exact C.mU _ _ hok
     ·exact hok
    ·have:=i7 x x3;rw[qj];cases hb:oU r p i c s<;>rw[hb] at this<;>exact this
    ·rcases i3 t b k hf' with hy|hg;·exact ia.1 x hx b k hy ((cC x b k).1 hf)
     ·exact x4 t b k ((cC x b k).1 hf) hg
   ·refine DL.2 (ia.2.imp ?_);intro a b hab x k hf hf';exact hab x k ((cC a x k).1 hf) ((cC b x k).1 hf')
  have fin:∀(f:C->C),(∀x,f x=if oU r p i c s then x.aE (C.bQ r (p++[(i,c)])) else x)->setCells r p i c ((y::l).map C.er) s=setCells r p i (c+1) ((l.map f).map C.er) (setCell r p i c y.er s)->
    ∃w' G',(storeCells ⟨g,k0,none⟩ ((y::l).map C.val) m).run P w=.ok () w'/\Inv w' zl zb G' (setCells r p i c ((y::l).map C.er) s)/\(∀t,(G' t).val=(G t).val)/\(∀t b k,(G' t).fp b k->(∃x∈y::l,x.fp b k)\/(G t).fp b k)/\Ext (λb k=>b=g/\k0+m<=k/\k<k0+m+(n+1)) w w':=by
   intro f qj A8
   have cC:∀x b k,(f x).fp b k↔x.fp b k:=λx b k=>by
    rw[qj];split;·exact C.cO _ x b k
    ·exact kJ
   have hval:(l.map f).map C.val=l.map C.val:=by
    rw[cP];refine cm λx _=>?_;show (f x).val=x.val;rw[qj];split;·exact C.jw _ x
    ·rfl
   obtain⟨w',G',j1,j2,j3,j4,j5⟩:=Vj r p i n (l.map f) (by simpa using hn) (c+1) (m+1) i1 i8 (λq x hq=>by
    rw[cZ] at hq;cases uK:l[q]? with
    |none=>rw[uK] at hq;cases hq
    |some x0=>
     rw[uK] at hq;simp only[cv,dP] at hq;subst hq;have h1:=i9 _ _ _ _ _ (hsp (q+1) x0 (by simpa using uK));rw[show c+1+q=c+(q+1) by omega,show k0+(m+1)+q=k0+m+(q+1) by omega];rw[qj];split;·exact h1.hand λhs=>by rw[C.yg _ _ hs];exact hs
     ·exact h1) (ael f qj)
   refine⟨w',G',?_,by rw[A8];exact j2,λt=>(j3 t).trans (i2 t),λt b k hf=>?_,?_⟩;·rw[bn,storeCells,Sem.run_bind,rC,aik (Inv.rO y1) hu i6];simp only[Result.andThen_ok];rw[<-hval];exact j1
   ·rcases j4 t b k hf with ⟨x,hx,hf'⟩|hf';·obtain⟨x0,hx0,rfl⟩:=bw.1 hx;exact .inl ⟨x0,bY _ hx0,(cC x0 b k).1 hf'⟩
    ·exact(i3 t b k hf').imp (λhy=>⟨y,bD ..,hy⟩) id
   ·refine(hE.mono (S':=λb k=>b=g/\k0+m<=k/\k<k0+m+(n+1)) (λb k hs _=>⟨hs.1,by omega,by omega⟩)).trans j5 λb k hs hb=>⟨hs.1,by omega,by omega⟩
  cases xB:oU r p i c s with
  |true=>refine fin (λx=>x.aE (C.bQ r (p++[(i,c)]))) (λx=>by rw[ax xB]) ?_;simp only[bn];rw[setCells,xB,mw,afG]
  |false=>refine fin id (λx=>by rw[xB];rfl) ?_;simp only[bn];rw[setCells,xB,ri];simp
end
end M
