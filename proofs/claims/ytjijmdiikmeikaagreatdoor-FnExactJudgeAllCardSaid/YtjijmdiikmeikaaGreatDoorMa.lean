/- A machine of values for loaded Go functions, sound for the calculus of calls; part 1; no conditions. -/
import Derived.Calls
import Derived.Orders
import Derived.Laws.Sem
import Derived.Below
import Derived.Laws.Cells
import Derived.Laws.Strings
import Derived.Laws.StructEq
import Derived.Laws.IdiomStrings
import Derived.Laws.Entries
import Derived.Laws.OwnMore
import Derived.Great.BuildSlice
set_option linter.defProp false
set_option linter.unusedSectionVars false
set_option linter.unusedVariables false
set_option linter.unusedSimpArgs false
def pG:=@Array.ext'
def JN:=@Array.ext_getElem?
def vY:=@Array.getD_eq_getD_getElem?
def Pu:=@Array.getElem?_append_left
def JS:=@Array.getElem?_eq_getElem
def l9:=@Array.getElem?_eq_none
def kz:=@Array.getElem?_eq_some_iff
def Wz:=@Array.getElem?_modify
def WA:=@Array.getElem?_replicate
def PI:=@Array.getElem?_setIfInBounds_ne
def Wf:=@Array.getElem?_setIfInBounds_self_of_lt
def zz:=@Array.length_toList
def Wi:=@Array.setIfInBounds_comm
def Pf:=@Array.size_append
def Pg:=@Array.toList_map
def kr:=@Bool.and_assoc
def aC:=@Bool.and_eq_true
def Pk:=@Bool.and_true
def JM:=@Bool.eq_iff_iff
def Pp:=@Bool.false_and
def fS:=@Bool.false_eq_true
def zG:=@Bool.not_eq_true'
def Pq:=@Bool.not_false
def vX:=@Bool.or_eq_true
def Pr:=@Bool.true_and
def Pt:=@Bool.true_eq_false
def El:=@Classical.choose_spec
def zH:=@Eq.trans
def kZ:=@Function.comp_def
def ku:=@Iff.rfl
def Em:=@Int.ofNat_lt
def Ws:=@Int.tdiv_eq_ediv_of_nonneg
def JO:=@Int.tmod_eq_emod_of_nonneg
def JP:=@List.Pairwise.imp_of_mem
def Wt:=@List.all_eq_not_any_not
def pJ:=@List.all_eq_true
def mV:=@List.append_assoc
def Wu:=@List.append_eq_nil_iff
def lZ:=@List.append_nil
def JQ:=@List.cons.inj
def vZ:=@List.cons.injEq
def dG:=@List.cons_append
def zI:=@List.dropWhile_cons
def Wv:=@List.dropWhile_sublist
def En:=@List.drop_drop
def qV:=@List.drop_eq_getElem_cons
def Pv:=@List.drop_eq_nil_of_le
def v8:=@List.drop_left
def zJ:=@List.drop_take
def JR:=@List.drop_zero
def Pw:=@List.eq_nil_of_length_eq_zero
def Ww:=@List.exists_cons_of_ne_nil
def gP:=@List.ext_getElem?
def JT:=@List.filter_cons
def Px:=@List.flatMap_append
def je:=@List.flatMap_cons
def Py:=@List.flatMap_nil
def zK:=@List.flatten_append
def Pz:=@List.flatten_cons
def qW:=@List.foldl_cons
def k6:=@List.getD_eq_getElem?_getD
def og:=@List.getElem?_append_left
def iM:=@List.getElem?_append_right
def JU:=@List.getElem?_cons_succ
def zL:=@List.getElem?_cons_zero
def pK:=@List.getElem?_drop
def cv:=@List.getElem?_eq_getElem
def k7:=@List.getElem?_eq_none
def aK:=@List.getElem?_eq_some_iff
def dm:=@List.getElem?_map
def Eo:=@List.getElem?_mapIdx
def tJ:=@List.getElem?_modify
def tK:=@List.getElem?_range
def PA:=@List.getElem?_replicate
def Wx:=@List.getElem?_replicate_of_lt
def wg:=@List.getElem?_set
def Wy:=@List.getElem?_set_ne
def PB:=@List.getElem?_take_of_lt
def zM:=@List.getElem?_toArray
def PC:=@List.getElem?_zip_eq_some
def PD:=@List.getElem_cons_succ
def JV:=@List.getElem_cons_zero
def PE:=@List.getElem_map
def bh:=@List.getElem_mem
def zN:=@List.getElem_of_mem
def PF:=@List.getElem_range
def iN:=@List.length_append
def dc:=@List.length_cons
def wh:=@List.length_drop
def PG:=@List.length_eq_zero_iff
def WB:=@List.length_filter_le
def dH:=@List.length_map
def k8:=@List.length_nil
def wj:=@List.length_range
def JW:=@List.length_reverse
def JX:=@List.length_set
def Ep:=@List.length_take
def zO:=@List.length_zipIdx
def jC:=@List.map_append
def cm:=@List.map_congr_left
def bE:=@List.map_cons
def lW:=@List.map_drop
def cS:=@List.map_map
def mT:=@List.map_nil
def aqf:=@List.map_set
def pH:=@List.map_take
def gO:=@List.mem_append
def O8:=@List.mem_append_left
def O9:=@List.mem_append_right
def ck:=@List.mem_cons
def cl:=@List.mem_cons_of_mem
def bH:=@List.mem_cons_self
def JE:=@List.mem_flatMap
def JF:=@List.mem_flatten
def bw:=@List.mem_map
def fR:=@List.mem_map_of_mem
def lX:=@List.mem_of_getElem?
def Wg:=@List.mem_of_mem_drop
def Pa:=@List.mem_of_mem_take
def Pb:=@List.mem_or_eq_of_mem_set
def tD:=@List.mem_range
def fF:=@List.mem_singleton
def e7:=@List.nil_append
def JG:=@List.not_mem_nil
def vQ:=@List.pairwise_append
def fG:=@List.pairwise_cons
def vR:=@List.pairwise_iff_getElem
def Pc:=@List.pairwise_lt_range
def Ec:=@List.pairwise_map
def Wh:=@List.pairwise_singleton
def Ed:=@List.range_succ_eq_map
def Pd:=@List.reverse_append
def Wj:=@List.reverse_reverse
def JH:=@List.set_append_right
def Ee:=@List.set_cons_zero
def Wk:=@List.singleton_append
def qQ:=@List.size_toArray
def Ef:=@List.sum_append
def tE:=@List.sum_cons
def Pe:=@List.sum_nil
def Wl:=@List.takeWhile_cons
def Wm:=@List.take_append_drop
def Eg:=@List.take_left
def qR:=@List.take_length
def vS:=@List.take_of_length_le
def vT:=@List.take_range
def Wn:=@List.take_succ_cons
def n9:=@List.take_succ_eq_append_getElem
def JI:=@List.zip_cons_cons
def tF:=@Nat.add_assoc
def qS:=@Nat.add_comm
def fH:=@Nat.add_mul
def oa:=@Nat.add_zero
def Eh:=@Nat.div_add_mod
def Wo:=@Nat.div_lt_of_lt_mul
def eP:=@Nat.le_refl
def e8:=@Nat.le_trans
def kV:=@Nat.lt_of_lt_of_le
def iL:=@Nat.lt_or_ge
def kW:=@Nat.min_eq_left
def Ph:=@Nat.min_eq_right
def tG:=@Nat.mod_lt
def qT:=@Nat.mul_comm
def pI:=@Nat.mul_le_mul_right
def JJ:=@Nat.one_mul
def Wp:=@Nat.pow_le_pow_right
def JK:=@Nat.pow_succ
def zA:=@Nat.sub_self
def mU:=@Nat.zero_add
def tH:=@Nat.zero_le
def vU:=@Ne.symm
def kX:=@Option.bind_eq_some_iff
def gw:=@Option.bind_some
def vV:=@Option.getD_some
def zC:=@Option.isSome_iff_exists
def kY:=@Option.map_eq_some_iff
def Pj:=@Option.map_none
def cq:=@Option.map_some
def iz:=@Option.some.inj
def dX:=@Option.some.injEq
def Ei:=@Prod.mk.inj
def jW:=@Prod.mk.injEq
def tI:=@UInt8.toNat_inj
def Pm:=@UInt8.toNat_ofNat'
def JL:=@and_congr_right
def zE:=@and_self
def eH:=@beq_iff_eq
def qU:=@cond_false
def lY:=@cond_true
def dF:=@congrArg
def Ej:=@decide_eq_false
def Wq:=@decide_eq_false_iff_not
def Ek:=@decide_eq_true
def bD:=@decide_eq_true_eq
def Pn:=@decide_false
def vW:=@dif_neg
def oc:=@dif_pos
def Po:=@exists_congr
def di:=@if_false
def aE:=@if_neg
def aA:=@if_pos
def cN:=@if_true
def zF:=@of_decide_eq_true
namespace M
open Go
inductive Md where|own|sl|af
 deriving DecidableEq,Repr
abbrev Path:=List (Nat×Nat)
inductive X where
 |dead
 |int (k:IntKind) (n:Int)
 |bool (b:Bool)
 |str (s:ByteArray)
 |row (m:Md) (sz:Nat) (xs:List (List X))
 |ptr (m:Md) (cs:List X)
 |agg (cs:List X)
 |av (cs:List X)
 |fn (f:FuncId) (caps:List X)
 |ref (s:Nat) (p:Path)
 |az (s:Nat) (p:Path) (i c:Nat)
 |cut (s:Nat) (p:Path) (lo hi:Nat)
namespace X
def step:X->Nat×Nat->Option X
 |.row _ _ xs,q=>(xs[q.1]?).bind (·[q.2]?)
 |.ptr _ cs,q=>bif q.1==0 then cs[q.2]? else none
 |.agg cs,q=>bif q.1==0 then cs[q.2]? else none
 |.av cs,q=>bif q.1==0 then cs[q.2]? else none
 |_,_=>none
def sub(x:X):Path->Option X
 |[]=>some x
 |q::p=>(x.step q).bind (·.sub p)
def bp:X->Nat×Nat->X->X
 |.row m sz xs,q,y=>.row m sz (xs.modify q.1 (·.set q.2 y))
 |.ptr m cs,q,y=>.ptr m (cs.set q.2 y)
 |.agg cs,q,y=>.agg (cs.set q.2 y)
 |.av cs,q,y=>.av (cs.set q.2 y)
 |x,_,_=>x
def putAt:Path->X->X->X
 |[],_,y=>y
 |q::p,x,y=>match x.step q with
  |some z=>x.bp q (putAt p z y)
  |none=>x
mutual
def md(m:Md):X->X
 |.row _ sz xs=>.row m sz (cg m xs)
 |.ptr _ cs=>.ptr m (ey m cs)
 |.agg cs=>.agg (ey m cs)
 |.av cs=>.av (ey m cs)
 |.fn f cs=>.fn f (ey m cs)
 |.ref _ _=>.dead
 |.az _ _ _ _=>.dead
 |.cut _ _ _ _=>.dead
 |.dead=>.dead
 |.int k n=>.int k n
 |.bool b=>.bool b
 |.str s=>.str s
def ey(m:Md):List X->List X
 |[]=>[]
 |x::l=>x.md m::ey m l
def cg(m:Md):List (List X)->List (List X)
 |[]=>[]
 |x::l=>ey m x::cg m l
end
def iW:X->Bool
 |.row _ _ _=>true
 |.ptr _ _=>true
 |.agg _=>true
 |.av _=>true
 |_=>false
def pfx:Path->Path->Bool
 |[],_=>true
 |_::_,[]=>false
 |q::p,r::t=>q.1==r.1 && q.2==r.2 && pfx p t
mutual
def kill(r:Nat)(p:Path):X->X
 |.ref s q=>bif s==r && pfx p q then .dead else .ref s q
 |.az s q i c=>bif s==r && pfx p q then .dead else .az s q i c
 |.cut s q i c=>bif s==r && pfx p q then .dead else .cut s q i c
 |.ptr m cs=>.ptr m (hO r p cs)
 |.agg cs=>.agg (hO r p cs)
 |.av cs=>.av (hO r p cs)
 |.fn f cs=>.fn f (hO r p cs)
 |.dead=>.dead
 |.int k n=>.int k n
 |.bool b=>.bool b
 |.str s=>.str s
 |.row m sz xs=>.row m sz xs
def hO(r:Nat)(p:Path):List X->List X
 |[]=>[]
 |x::l=>x.kill r p::hO r p l
end
def MC(r:Nat)(p:Path):∀l:List X,(hO r p l).length=l.length
 |[]=>rfl
 |x::l=>by simp only[hO,dc,MC r p l]
mutual
def only(ks:List Nat):X->X
 |.ref s q=>bif ks.contains s then .ref s q else .dead
 |.az s q i c=>bif ks.contains s then .az s q i c else .dead
 |.cut s q i c=>bif ks.contains s then .cut s q i c else .dead
 |.ptr m cs=>.ptr m (oS ks cs)
 |.agg cs=>.agg (oS ks cs)
 |.av cs=>.av (oS ks cs)
 |.fn f cs=>.fn f (oS ks cs)
 |.dead=>.dead
 |.int k n=>.int k n
 |.bool b=>.bool b
 |.str s=>.str s
 |.row m sz xs=>.row m sz xs
def oS(ks:List Nat):List X->List X
 |[]=>[]
 |x::l=>x.only ks::oS ks l
end
end X
abbrev ah:=List (Nat×X)
def get:ah->Nat->X
 |[],_=>.dead
 |(k',v)::s,k=>bif k'==k then v else get s k
def sE(r:Nat)(p:Path):ah->ah
 |[]=>[]
 |(k,v)::s=>(k,v.kill r p)::sE r p s
def put(d:Nat)(v:X)(s:ah):ah:=bif (get s d).iW then (d,v.kill d [])::sE d [] s else (d,v)::s
def fV:Option Nat->X->ah->ah
 |some d,v,s=>put d v s
 |none,_,s=>s
inductive AV where
 |t (n:Nat)
 |k (x:X)
def X.clean:X->Bool
 |.ref _ _=>false
 |.az _ _ _ _=>false
 |.cut _ _ _ _=>false
 |.row m _ xs=>(match m with|.af=>false|_=>true) && bK xs
 |.ptr m cs=>(match m with|.af=>false|_=>true) && cJ cs
 |.agg cs=>cJ cs
 |.av cs=>cJ cs
 |.fn _ cs=>cJ cs
 |_=>true
where
 cJ:List X->Bool
 |[]=>true
 |x::l=>X.clean x && cJ l
 bK:List (List X)->Bool
 |[]=>true
 |x::l=>cJ x && bK l
def jh(n:Nat)(p:Path):X->X
 |.row .own _ _=>.ref n p
 |.ptr .own _=>.az n p 0 0
 |x=>x
def tP(n:Nat)(p:Path)(i:Nat):Nat->List X->List X
 |_,[]=>[]
 |c,x::l=>jh n (p++[(i,c)]) x::tP n p i (c+1) l
def gR(n:Nat)(p:Path):X->X
 |.agg cs=>.agg (tP n p 0 0 cs)
 |x=>jh n p x
def z6(n:Nat)(p:Path):Nat->List X->List X
 |_,[]=>[]
 |j,x::l=>gR n (p++[(0,j)]) x::z6 n p (j+1) l
def alias(n:Nat)(p:Path):X->X
 |.av cs=>.av (z6 n p 0 cs)
 |x=>gR n p x
def ay(s:ah):AV->X
 |.t n=>alias n [] (get s n)
 |.k x=>x
def look(s:ah)(r:Nat)(p:Path):Option X:=(get s r).sub p
def iX(r:Nat)(p:Path)(y:X)(s:ah):ah:=(r,X.putAt p (get (sE r p s) r) (y.kill r p))::sE r p s
def U7(r:Nat)(p:Path)(y:X)(s:ah):ah:=(r,X.putAt p (get s r) y)::s
inductive Tk where|mv|al|aQ
def move(r:Nat)(p:Path)(s:ah):X×ah:=match look s r p with
 |some y=>(y.kill r p,iX r p .dead s)
 |none=>(.dead,s)
def Cr(r:Nat)(p:Path)(lo hi:Nat)(s:ah):X×ah:=match look s r p with
 |some (.row .own z xs)=>(.row .own z ((xs.take hi).drop lo),iX r p .dead s)
 |_=>(.cut r p lo hi,s)
def HJ(r:Nat)(p:Path)(i c:Nat)(s:ah):X×ah:=match look s r p with
 |some (.ptr .own cs)=>bif i==0 && c==0 then (.ptr .own (X.hO r p cs),iX r p .dead s) else (.az r p i c,s)
 |_=>(.az r p i c,s)
def Vq(h:Tk):X->ah->X×ah
 |.ref r p,s=>match h with
  |.al=>(.ref r p,s)
  |.aQ=>match p with
   |[]=>move r [] s
   |q::t=>(.ref r (q::t),s)
  |.mv=>move r p s
 |.cut r p lo hi,s=>match h with
  |.al=>(.cut r p lo hi,s)
  |.aQ=>match p with
   |[]=>Cr r [] lo hi s
   |q::t=>(.cut r (q::t) lo hi,s)
  |.mv=>Cr r p lo hi s
 |.az r p i c,s=>match h with
  |.al=>(.az r p i c,s)
  |.aQ=>(.az r p i c,s)
  |.mv=>HJ r p i c s
 |x,s=>(x,s)
def bY:List X->ah->List X×ah
 |[],s=>([],s)
 |x::l,s=>match x with
  |.ref r p=>((move r p s).1::(bY l (move r p s).2).1,(bY l (move r p s).2).2)
  |.az _ _ _ _=>(.dead::(bY l s).1,(bY l s).2)
  |.cut _ _ _ _=>(.dead::(bY l s).1,(bY l s).2)
  |.fn _ _=>(.dead::(bY l s).1,(bY l s).2)
  |.ptr _ _=>(.dead::(bY l s).1,(bY l s).2)
  |.agg _=>(.dead::(bY l s).1,(bY l s).2)
  |.av _=>(.dead::(bY l s).1,(bY l s).2)
  |y=>(y::(bY l s).1,(bY l s).2)
def take(h:Tk):X->ah->X×ah
 |.agg cs,s=>match h with
  |.mv=>(.agg (bY cs s).1,(bY cs s).2)
  |_=>(.agg cs,s)
 |x,s=>Vq h x s
def Fu(s:ah)(r:Nat)(p:Path):Bool:=match look s r p with
 |some .dead=>(match p.getLast? with
  |some _=>(match look s r p.dropLast with
   |some (.row .own _ _)=>true
   |some (.ptr .own _)=>true
   |some (.agg _)=>true
   |some (.av _)=>true
   |_=>false)
  |none=>false)
 |_=>false
def vl(r:Nat)(p:Path):List X->Bool
 |[]=>true
 |.ref r' p'::l=> !(r'==r && X.pfx p p') && vl r p l
 |_::l=>vl r p l
def mY:List X->List X->ah->Option ah
 |[],_,s=>some s
 |x::l,ys,s=>match x,ys with
  |.ref r p,y::ys=>bif Fu s r p && vl r p l then mY l ys ((r,X.putAt p (get s r) y)::s) else none
  |_,_::ys=>mY l ys s
  |_,[]=>none
def cellsOf:X->List X
 |.agg cs=>cs
 |.av _=>[]
 |.dead=>[]
 |x=>[x]
inductive PM where|af|gS (n:Nat)|mv|mut (n:Nat)
def scalar:X->Bool
 |.int _ _=>true
 |.bool _=>true
 |.str _=>true
 |_=>false
def gB(s:ah):X->Option (List X)
 |.ptr _ cs=>some cs
 |.az r p i c=>match look s r p with
  |some (.row _ _ xs)=>(xs[i]?).map λe=>tP r p i c (e.drop c)
  |some (.ptr _ cs)=>some (tP r p i c (cs.drop c))
  |_=>none
 |_=>none
def rowAt(s:ah):X->Option (Nat×List (List X))
 |.row _ z xs=>some (z,xs)
 |.ref r p=>match look s r p with
  |some (.row _ z xs)=>some (z,xs)
  |_=>none
 |.cut r p lo hi=>match look s r p with
  |some (.row _ z xs)=>some (z,(xs.take hi).drop lo)
  |_=>none
 |_=>none
def lR(s:ah):X->X
 |.ref r p=>match look s r p with
  |some y=>y.md .af
  |none=>.dead
 |.cut r p lo hi=>match look s r p with
  |some (.row _ sz xs)=>X.md .af (.row .af sz ((xs.take hi).drop lo))
  |_=>.dead
 |x=>x.md .af
def oW(s:ah):List X->List X
 |[]=>[]
 |x::l=>lR s x::oW s l
def yG(n:Nat)(s:ah)(x:X):X:=match gB s x with
 |some (c::cs)=>.ptr .af (oW s ((c::cs).take n))
 |_=>.dead
def gK(s:ah):X->X
 |.az r p i c=>(match gB s (.az r p i c) with|some (c::cs)=>X.ptr .af (oW s (c::cs))|_=>.dead)
 |x=>lR s x
def jT(s:ah):List X->List X
 |[]=>[]
 |x::l=>gK s x::jT s l
def fO(s:ah):List X->List X
 |[]=>[]
 |x::l=>(match x with
  |.az r p i c=>(match gB s (.az r p i c) with|some (c::cs)=>X.ptr .af (jT s (c::cs))|_=>.dead)
  |x=>lR s x)::fO s l
def res(s:ah):X->X
 |.agg cs=>.agg (oW s cs)
 |.fn f cs=>.fn f (fO s cs)
 |x=>lR s x
def oR(r:Nat)(p:Path)(i c:Nat)(s:ah):Bool:=match look s r (p++[(i,c)]) with
 |some z=>z.iW
 |none=>true
def setCell(r:Nat)(p:Path)(i c:Nat)(y:X)(s:ah):ah:=
 bif oR r p i c s then iX r (p++[(i,c)]) y s else U7 r (p++[(i,c)]) y s
def setCells(r:Nat)(p:Path)(i:Nat):Nat->List X->ah->ah
 |_,[],s=>s
 |c,y::l,s=>bif oR r p i c s then setCells r p i (c+1) (X.hO r (p++[(i,c)]) l) (setCell r p i c y s) else setCells r p i (c+1) l (setCell r p i c y s)
termination_by _ l=>l.length
decreasing_by all_goals simp[X.MC]
def Au(d:Nat)(cs:List X)(k:List X->X)(s:ah):Option ah:=
 bif X.clean.cJ (bY cs s).1 then (mY cs (X.ey .sl (bY cs s).1) (bY cs s).2).map (put d (k (X.ey .sl (bY cs s).1))) else none
def ghost(fz:Bool)(d:Nat)(s:ah):Option ah:=
 bif fz then (match ay s (.t d) with
  |.agg cs=>Au d cs .agg s
  |.ref r p=>Au d [.ref r p] (·.headD .dead) s
  |_=>some s)
 else some (put d (take .mv (ay s (.t d)) s).1 (take .mv (ay s (.t d)) s).2)
inductive Ex where|normal|exit (id:Nat)|ret
inductive cw where
 |mv (d:Nat) (x:AV)
 |aU (d:Nat) (h:Tk) (x:AV)
 |pick (d:Nat) (c a b:AV)
 |un (d:Nat) (op:UnOp) (x:AV)
 |bin (d:Nat) (op:BinOp) (x y:AV)
 |beq (d:Nat) (neg:Bool) (x y:AV)
 |mX (d:Nat) (neg:Bool) (ks:List Nat) (x y:AV)
 |sU (d:Nat) (neg:Bool) (x:AV)
 |conv (d:Nat) (k:IntKind) (x:AV)
 |bytes (d:Nat) (x:AV)
 |text (d:Nat) (x:AV)
 |box (d:Nat) (h:Tk) (x:AV)
 |new (d:Nat) (zero:List X)
 |build (d:Nat) (h:Tk) (zero:List X) (parts:List ((Nat×Nat)×AV))
 |lit (d:Nat) (h:Tk) (sz:Nat) (parts:List AV)
 |make (d:Nat) (sz bytes:Nat) (zero:List X) (n:AV)
 |load (d:Nat) (sz:Nat) (agg:Bool) (a:AV)
 |store (sz:Nat) (h:Tk) (a x:AV)
 |dB (d:Nat) (x:AV)
 |pS (d:Nat) (x:AV) (off:Nat)
 |kF (d:Nat) (x:AV) (off sz:Nat) (agg:Bool)
 |fy (d:Nat) (sz:Nat) (x i:AV)
 |dD (d:Nat) (x i:AV)
 |ru (d:Nat) (n sz:Nat) (agg:Bool) (x i:AV)
 |ext (d:Nat) (x:AV) (i:Nat)
 |gu (d:Nat) (x:AV) (lo hi:Option AV)
 |kR (d:Nat) (sz:Nat) (x:AV) (lo hi:Option AV)
 |nQ (d:Nat) (f:FuncId) (caps:List AV)
 |len (d:Nat) (x:AV)
 |tn (d:Nat) (x:AV)
 |app (d:Nat) (h:Tk) (sz bytes:Nat) (x y:AV)
 |mn (d:Nat) (xs:List AV)
 |mx (d:Nat) (xs:List AV)
 |rC (d:Option Nat) (f:FuncId) (x:AV) (as:List (AV×PM))
 |wR (sz:Nat) (z:List X) (x:AV)
 |nK (d:Nat) (fz:Bool) (sz:Nat) (agg:Bool) (a:AV)
 |call (d:Option Nat) (f:FuncId) (as:List (AV×PM))
 |kC (d:Option Nat) (f:AV) (as:List (AV×PM))
structure G where
 g:Option (Nat×Bool):=none
 o:cw
inductive DT where
 |nil (ks:List Nat)
 |step (i:Nat) (g:G) (t:DT)
 |alt (a b:DT)
 |kp (ks:List Nat) (t:DT)
inductive A where
 |skip|ret
 |ops (l:List G)
 |draw (t:DT)
 |seq (a b:A)
 |cond (c:AV) (a b:A)
 |block (id:Nat) (b:A)
 |loop (b:A)
 |exit (id:Nat)
 |pk (ks:List Nat) (b:A)
end M
namespace M
open Go Go.RowKit
abbrev Ad:=Nat×Nat×Option Nat
def jD(n:Nat)(q:Ad):Ad:=if n=0 then q else (q.1,q.2.1+n,none)
def pN(n g o:Nat):jD n (g,o,none)=(g,o+n,none):=by
 unfold jD;split;·rename_i h;subst h;rfl
 ·rfl
def YP(n:Nat)(q:Ad):(⟨(jD n q).1,(jD n q).2.1,(jD n q).2.2⟩:Addr)=(⟨q.1,q.2.1,q.2.2⟩:Addr).add n:=by unfold jD Addr.add;split<;>rfl
inductive C where
 |dead (v:Value)
 |int (k:IntKind) (n:Int)
 |bool (b:Bool)
 |str (s:ByteArray)
 |row (m:Md) (sz:Nat) (A:Option Ad) (len cap:Nat) (e:Nat->Nat->C)
 |ptr (m:Md) (g o n:Nat) (c:Nat->C)
 |agg (n:Nat) (c:Nat->C)
 |av (n:Nat) (c:Nat->C)
 |fn (f:FuncId) (n:Nat) (c:Nat->C)
 |ref (v:Value) (s:Nat) (p:Path)
 |az (v:Value) (s:Nat) (p:Path) (i c:Nat)
 |cut (v:Value) (s:Nat) (p:Path) (lo hi:Nat)
namespace C
def val:C->Value
 |.dead v=>v
 |.int k n=>.int k n
 |.bool b=>.bool b
 |.str s=>.string s
 |.row _ _ A len cap _=>.slice (A.map λq=>⟨q.1,q.2.1,q.2.2⟩) len cap
 |.ptr _ g o _ _=>.pointer (some ⟨g,o,none⟩)
 |.agg n c=>.agg ((List.range n).map λj=>(c j).val).toArray
 |.av n c=>.tuple ((List.range n).map λj=>(c j).val).toArray
 |.fn f n c=>.func (.func f) #[] ((List.range n).map λj=>(c j).val).toArray
 |.ref v _ _=>v
 |.az v _ _ _ _=>v
 |.cut v _ _ _ _=>v
def er:C->X
 |.dead _=>.dead
 |.int k n=>.int k n
 |.bool b=>.bool b
 |.str s=>.str s
 |.row m sz _ len _ e=>.row m sz ((List.range len).map λi=>(List.range sz).map λj=>(e i j).er)
 |.ptr m _ _ n c=>.ptr m ((List.range n).map λj=>(c j).er)
 |.agg n c=>.agg ((List.range n).map λj=>(c j).er)
 |.av n c=>.av ((List.range n).map λj=>(c j).er)
 |.fn f n c=>.fn f ((List.range n).map λj=>(c j).er)
 |.ref _ s p=>.ref s p
 |.az _ s p i c=>.az s p i c
 |.cut _ s p lo hi=>.cut s p lo hi
def fp:C->Nat->Nat->Prop
 |.row m sz A len _ e=>λb k=>m=.own/\((∃o,A=some (b,o,none))\/∃i j,i<len/\j<sz/\(e i j).fp b k)
 |.ptr m g o n c=>λb k=>m=.own/\((b=g/\o<=k/\k<o+n)\/∃j,j<n/\(c j).fp b k)
 |.agg n c=>λb k=>∃j,j<n/\(c j).fp b k
 |.av n c=>λb k=>∃j,j<n/\(c j).fp b k
 |_=>λ_ _=>False
def cell:C->Prop
 |.agg _ _=>False
 |.av _ _=>False
 |.dead v=>v.oneCell'=true
 |.ref v _ _=>v.oneCell'=true
 |.az v _ _ _ _=>v.oneCell'=true
 |.cut v _ _ _ _=>v.oneCell'=true
 |_=>True
def gj:C->Prop
 |.av _ _=>False
 |_=>True
def cZ:C->Prop
 |.agg _ _=>False
 |.av _ _=>False
 |.ref _ _ _=>False
 |.az _ _ _ _ _=>False
 |.cut _ _ _ _ _=>False
 |.fn _ _ _=>False
 |.ptr _ _ _ _ _=>False
 |_=>True
def fits(m:Md):C->Prop
 |.row m' _ _ _ _ _=>m=.own\/m'=m\/(m=.af/\m'=.sl)
 |.ptr m' _ _ _ _=>m=.own\/m'=m\/(m=.af/\m'=.sl)
 |_=>True
end C
def Zf(zl zb:Nat->Nat->Prop):Md->Nat->Nat->Prop
 |.own=>λ_ _=>False
 |.sl=>zl
 |.af=>λb k=>zl b k\/zb b k
namespace C
def ok(w:World)(Z:Md->Nat->Nat->Prop):C->Prop
 |.row m sz A len cap e=>
  len<=cap/\
  (∀i j,i<len->j<sz->∃g o,A=some (g,o,none)/\w.cell? ⟨g,o+i*sz+j,none⟩=some (e i j).val/\(m≠.own->Z m g (o+i*sz+j)))/\
  (∀i j,i<len->j<sz->(e i j).cell/\(e i j).cZ/\(e i j).fits m/\(e i j).ok w Z)/\
  (m=.own->(A=none/\cap=0)\/∃g o arr t fz,A=some (g,o,none)/\w.heap[g]?=some (.cells arr t fz)/\o+cap*sz<=arr.size/\∀k,o<=k->k<o+cap*sz->w.frozen? ⟨g,k,none⟩=false)/\
  (∀i j,i<len->j<sz->∀b k,(e i j).fp b k->(m=.own->∀o,A≠some (b,o,none))/\∀i' j',i'<len->j'<sz->(i,j)≠(i',j')->¬(e i' j').fp b k)
 |.ptr m g o n c=>
  (∀j,j<n->w.cell? ⟨g,o+j,none⟩=some (c j).val/\(m≠.own->Z m g (o+j))/\(m=.own->w.frozen? ⟨g,o+j,none⟩=false))/\
  g<w.heap.size/\
  (∀j,j<n->(c j).cell/\(c j).fits m/\(c j).ok w Z)/\
  (∀j,j<n->∀b k,(c j).fp b k->(m=.own->¬(b=g/\o<=k/\k<o+n))/\∀j',j'<n->j≠j'->¬(c j').fp b k)
 |.agg n c=>(∀j,j<n->(c j).cell/\(c j).ok w Z)/\(∀j,j<n->∀b k,(c j).fp b k->∀j',j'<n->j≠j'->¬(c j').fp b k)
 |.av n c=>(∀j,j<n->(c j).gj/\(c j).ok w Z)/\(∀j,j<n->∀b k,(c j).fp b k->∀j',j'<n->j≠j'->¬(c j').fp b k)
 |.fn _ n c=>∀j,j<n->(c j).ok w Z/\∀b k,¬(c j).fp b k
 |.str s=>s.size<=9223372036854775807
 |_=>True
end C
class Bs where
 W0:World
def Ev[B:Bs](w:World)(zl zb:Nat->Nat->Prop):Prop:=∀b,b<B.W0.heap.size->w.heap[b]?=B.W0.heap[b]?/\∀k,zl b k\/zb b k
structure Ext (S:Nat->Nat->Prop) (w w':World):Prop where
 os:w'.os=w.os
 tape:w'.tape=w.tape
 output:w'.output=w.output
 size:w.heap.size<=w'.heap.size
 block:∀b,b<w.heap.size->w'.heap[b]?=w.heap[b]?\/∃arr fZ t fz,w.heap[b]?=some (.cells arr t fz)/\w'.heap[b]?=some (.cells fZ t fz)/\fZ.size=arr.size/\∀k,¬S b k->fZ[k]?=arr[k]?
namespace Ext
variable {S S':Nat->Nat->Prop}{w w1 w2:World}
def refl(S:Nat->Nat->Prop)(w:World):Ext S w w:=⟨rfl,rfl,rfl,eP _,λ_ _=>.inl rfl⟩
def trans(h:Ext S w w1)(h':Ext S' w1 w2)(hs:∀b k,S' b k->b<w.heap.size->S b k):Ext S w w2:=by
 refine⟨h'.os.trans h.os,h'.tape.trans h.tape,h'.output.trans h.output,e8 h.size h'.size,λb hb=>?_⟩;rcases h.block b hb with e|⟨arr,fZ,t,fz,e1,e2,e3,e4⟩
 ·rcases h'.block b (kV hb h.size) with e'|⟨a1,a2,t',mA,f1,f2,f3,f4⟩;·exact .inl (e'.trans e)
  ·exact .inr ⟨a1,a2,t',mA,e▸f1,f2,f3,λk hk=>f4 k λhS=>hk (hs b k hS hb)⟩
 ·rcases h'.block b (kV hb h.size) with e'|⟨a1,a2,t',mA,f1,f2,f3,f4⟩;·exact .inr ⟨arr,fZ,t,fz,e1,e'.trans e2,e3,e4⟩
  ·rw[e2] at f1;injection f1 with f1
   injection f1 with g1 g2 g3
   subst g1;subst g2;subst g3;exact .inr ⟨arr,a2,t,fz,e1,f2,f3.trans e3,λk hk=>(f4 k λhS=>hk (hs b k hS hb)).trans (e4 k hk)⟩
def mono(h:Ext S w w1)(hs:∀b k,S b k->b<w.heap.size->S' b k):Ext S' w w1:=by
 refine⟨h.os,h.tape,h.output,h.size,λb hb=>?_⟩;rcases h.block b hb with e|⟨arr,fZ,t,fz,e1,e2,e3,e4⟩;·exact .inl e
 ·exact .inr ⟨arr,fZ,t,fz,e1,e2,e3,λk hk=>e4 k λhS=>hk (hs b k hS hb)⟩
def cell(h:Ext S w w1){b k:Nat}(hS:¬S b k){v:Value}(hc:w.cell? ⟨b,k,none⟩=some v):w1.cell? ⟨b,k,none⟩=some v:=by
 have hb:b<w.heap.size:=by
  rcases iL b w.heap.size with h|h;·exact h
  ·simp[World.cell?,l9 h] at hc
 rcases h.block b hb with e|⟨arr,fZ,t,fz,e1,e2,e3,e4⟩;·simpa [World.cell?,e] using hc
 ·simp only[World.cell?,e1,e2] at hc⊢;simpa [e4 k hS] using hc
def frozen(h:Ext S w w1){b k:Nat}(hb:b<w.heap.size):w1.frozen? ⟨b,k,none⟩=w.frozen? ⟨b,k,none⟩:=by
 rcases h.block b hb with e|⟨arr,fZ,t,fz,e1,e2,e3,e4⟩;·simp[World.frozen?,e]
 ·simp[World.frozen?,e1,e2]
def below(h:Ext (λ_ _=>False) w w1):Below w.heap.size w w1:=by
 refine⟨h.os,h.tape,h.output,h.size,λb hb=>?_⟩;rcases h.block b hb with e|⟨arr,fZ,t,fz,e1,e2,e3,e4⟩;·exact e
 ·have:fZ=arr:=by apply JN;intro i;exact e4 i (by simp)
  rw[e1,e2,this]
def drew(w:World)(S:Nat->Nat->Prop):Ext S w w.drew:=⟨rfl,rfl,rfl,eP _,λ_ _=>.inl rfl⟩
def alloc(w:World)(S:Nat->Nat->Prop)(o:Obj):Ext S w (w.alloc o):=by exact⟨rfl,rfl,rfl,by show w.heap.size<=(w.heap.push o).size;simp,λb hb=>.inl (Below.heap_alloc w o b hb)⟩
end Ext
end M
namespace M
open Go
namespace C
def bare:C->Prop
 |.ref _ _ _=>False
 |.az _ _ _ _ _=>False
 |.cut _ _ _ _ _=>False
 |.ptr _ _ _ n c=>∀j,j<n->(c j).bare
 |.agg n c=>∀j,j<n->(c j).bare
 |.av n c=>∀j,j<n->(c j).bare
 |.fn _ n c=>∀j,j<n->(c j).bare
 |_=>True
end C
structure qX (w:World) (zl zb:Nat->Nat->Prop) (cs:List C):Prop where
 ok:∀x∈cs,x.ok w (Zf zl zb)
 bare:∀x∈cs,x.bare
 fz:∀x∈cs,∀b k,x.fp b k->¬zl b k/\¬zb b k
 cL:∀b k,zl b k\/zb b k->b<w.heap.size
 apart:cs.Pairwise λa b=>∀x k,a.fp x k->¬b.fp x k
structure PS (w:World) (zl:Nat->Nat->Prop) (cs:List C) (e:Ending) (w':World) (r:C) (ps:List C) (aM:Nat->Nat->Prop):Prop where
 ends:e=.returned r.val
 vals:ps.map C.val=cs.map C.val
 ext:Ext (λb k=>∃x∈cs,x.fp b k) w w'
 all:qX w' aM (λ_ _=>False) (r::ps)
 dom:∀x∈r::ps,∀b k,x.fp b k->(∃y∈cs,y.fp b k)\/w.heap.size<=b
 tL:∀b k,zl b k->aM b k
 tM:∀b k,aM b k->zl b k\/(∃y∈cs,y.fp b k)\/w.heap.size<=b
def AC[Bs](P:Program)(f:FuncId)(xs:List X)(Q:X->List X->Prop):Prop:=
 ∀w zl zb cs,cs.map C.er=xs->qX w zl zb cs->Ev w zl zb->Calls P f (cs.map C.val).toArray w λe w'=>∃r ps aM,PS w zl cs e w' r ps aM/\Q r.er (ps.map C.er)
def j6:List Nat->List X->List X->Option Bool
 |[],[],[]=>some true
 |0::ks,.int k a::l,.int k' b::r=>if k=k' then (j6 ks l r).map λt=>(a==b) && t else none
 |1::ks,.bool a::l,.bool b::r=>(j6 ks l r).map λt=>(a==b) && t
 |2::ks,.str a::l,.str b::r=>(j6 ks l r).map λt=>decide (a=b) && t
 |_,_,_=>none
def wG(op:BinOp):X->X->Prop
 |.int k a,.int k' b=>match op with
  |.shl=>0<=b
  |.shr=>0<=b
  |.quo=>k=k'/\b≠0
  |.rem=>k=k'/\b≠0
  |.andNot=>False
  |_=>k=k'
 |.str a,.str b=>match op with
  |.add=>a.size+b.size<=9223372036854775807
  |.eql=>True
  |.neq=>True
  |_=>False
 |_,_=>False
def Kc(op:BinOp):X->X->X
 |.int k a,.int _ b=>match op with
  |.add=>.int k (k.wrap (a+b))
  |.sub=>.int k (k.wrap (a - b))
  |.mul=>.int k (k.wrap (a*b))
  |.quo=>.int k (k.wrap (a.tdiv b))
  |.rem=>.int k (a.tmod b)
  |.shl=>.int k (k.wrap (a*2^(min b.toNat k.bits)))
  |.shr=>.int k (a.fdiv (2^(min b.toNat k.bits)))
  |.and=>.int k (k.wrap (BitVec.ofInt k.bits a &&& BitVec.ofInt k.bits b).toNat)
  |.or=>.int k (k.wrap (BitVec.ofInt k.bits a|||BitVec.ofInt k.bits b).toNat)
  |.xor=>.int k (k.wrap (BitVec.ofInt k.bits a^^^BitVec.ofInt k.bits b).toNat)
  |.eql=>.bool (decide (a=b))
  |.neq=>.bool (!decide (a=b))
  |.lss=>.bool (decide (a<b))
  |.leq=>.bool (decide (a<=b))
  |.gtr=>.bool (decide (b<a))
  |.geq=>.bool (decide (b<=a))
  |_=>.dead
 |.str a,.str b=>match op with
  |.add=>.str (a++b)
  |.eql=>.bool (decide (a=b))
  |.neq=>.bool (!decide (a=b))
  |_=>.dead
 |_,_=>.dead
def zo(op:UnOp):X->Prop
 |.int _ _=>match op with
  |.neg=>True
  |_=>False
 |.bool _=>match op with
  |.not=>True
  |_=>False
 |_=>False
def ON(op:UnOp):X->X
 |.int k n=>.int k (k.wrap (0 - n))
 |.bool b=>.bool (!b)
 |_=>.dead
def CE(t:Bool):X->X->X
 |.bool a,.bool b=>.bool (bif t then a else b)
 |x,y=>bif t then x else y
def cZ:X->Bool
 |.dead=>true
 |.int _ _=>true
 |.bool _=>true
 |.str _=>true
 |.row _ _ _=>true
 |_=>false
def iu:List X->Bool
 |[]=>true
 |x::l=>cZ x && iu l
def takes(h:Tk):List AV->ah->List X×ah
 |[],s=>([],s)
 |a::l,s=>((take h (ay s a) s).1::(takes h l (take h (ay s a) s).2).1,(takes h l (take h (ay s a) s).2).2)
def kE{α:Type}:List α->Nat->List α->List α
 |cs,_,[]=>cs
 |cs,o,y::l=>kE (cs.set o y) (o+1) l
def wY:List X->List Nat->List X->List X
 |cs,o::os,y::ys=>wY (kE cs o (cellsOf y)) os ys
 |cs,_,_=>cs
def ze:List Nat->List X->Prop
 |[],[]=>True
 |n::ns,y::ys=>(cellsOf y).length=n/\ze ns ys
 |_,_=>False
def storable(s:ah)(r:Nat)(p:Path)(i c:Nat)(l:List X):Prop:=match look s r p with
 |some (.row .own _ xs)=>(match xs[i]? with
  |some e=>c+l.length<=e.length/\iu l=true
  |none=>False)
 |some (.ptr .own cs)=>c+l.length<=cs.length
 |_=>False
def Ja:Tk->List X->Prop
 |.al,_=>True
 |_,l=>∀x∈l,iu (cellsOf x)=true
def asNat(s:ah):Option AV->Nat->Int
 |none,n=>n
 |some a,_=>match ay s a with
  |.int _ i=>i
  |_=>-1
def scalars:List (List X)->Prop:=λxs=>∀e∈xs,∀c∈e,scalar c=true
def bX:List (AV×PM)->ah->List X×ah
 |[],s=>([],s)
 |(x,.mv)::l,s=>((take .mv (ay s x) s).1::(bX l (take .mv (ay s x) s).2).1,(bX l (take .mv (ay s x) s).2).2)
 |(_,.af)::l,s=>(.dead::(bX l s).1,(bX l s).2)
 |(_,.gS _)::l,s=>(.dead::(bX l s).1,(bX l s).2)
 |(_,.mut _)::l,s=>(.dead::(bX l s).1,(bX l s).2)
def gy(s1:ah)(y:X):List (AV×PM)->List X->List X
 |(x,.af)::l,_::ms=>res s1 (ay s1 x)::gy s1 y l ms
 |(x,.gS n)::l,_::ms=>yG n s1 (ay s1 x)::gy s1 y l ms
 |(_,.mv)::l,m::ms=>m::gy s1 y l ms
 |(_,.mut _)::l,_::ms=>y::gy s1 y l ms
 |_,_=>[]
def ei:List (AV×PM)->Option (AV×Nat)
 |[]=>none
 |(x,.mut n)::_=>some (x,n)
 |(_,.mv)::l=>ei l
 |(_,.af)::l=>ei l
 |(_,.gS _)::l=>ei l
def kQ:List (AV×PM)->List X->X
 |(_,.mut _)::_,y::_=>y
 |(_,.mv)::l,_::r=>kQ l r
 |(_,.af)::l,_::r=>kQ l r
 |(_,.gS _)::l,_::r=>kQ l r
 |_,_=>.dead
def pP(p q:Path):Bool:=X.pfx p q && decide (p.length<q.length)
mutual
def X.fA(r:Nat)(p:Path):X->X
 |.ref s q=>bif s==r && pP p q then .dead else .ref s q
 |.az s q i c=>bif s==r && pP p q then .dead else .az s q i c
 |.cut s q i c=>bif s==r && pP p q then .dead else .cut s q i c
 |.ptr m cs=>.ptr m (X.qn r p cs)
 |.agg cs=>.agg (X.qn r p cs)
 |.av cs=>.av (X.qn r p cs)
 |.fn f cs=>.fn f (X.qn r p cs)
 |.dead=>.dead
 |.int k n=>.int k n
 |.bool b=>.bool b
 |.str s=>.str s
 |.row m sz xs=>.row m sz xs
def X.qn(r:Nat)(p:Path):List X->List X
 |[]=>[]
 |x::l=>x.fA r p::X.qn r p l
end
def sD(r:Nat)(p:Path):ah->ah
 |[]=>[]
 |(k,v)::s=>(k,v.fA r p)::sD r p s
def iJ(r:Nat)(p:Path)(y:X)(s:ah):ah:=(r,X.putAt p (get (sD r p s) r) (y.fA r p))::sD r p s
def yp(r:Nat)(p:Path)(s:ah)(n:Nat)(x:X)(go:X->(X->(ah->Prop)->Prop)->Prop):Prop:=
 match x with
 |.ref _ _=>(match look s r p with
  |some (.row .own z xs)=>go (.row .own z xs) λy K=>match y with
   |.row .own z' ys=>z'=z/\K (iJ r p (.row .own z ys) s)
   |_=>False
  |_=>False)
 |.az _ _ i c=>(match look s r p with
  |some (.ptr .own cs)=>c+n<=cs.length/\go (.ptr .own ((cs.drop c).take n)) λy K=>match y with
   |.ptr .own ys=>ys.length=n/\K (iJ r p (.ptr .own (cs.take c++ys++cs.drop (c+n))) s)
   |_=>False
  |some (.row .own z xs)=>(match xs[i]? with
   |some e=>c+n<=e.length/\go (.ptr .own ((e.drop c).take n)) λy K=>match y with
    |.ptr .own ys=>ys.length=n/\iu ys=true/\K (iJ r p (.row .own z (xs.set i (e.take c++ys++e.drop (c+n)))) s)
    |_=>False
   |none=>False)
  |_=>False)
 |_=>False
def placeOf:X->Nat×Path
 |.ref r p=>(r,p)
 |.az r p _ _=>(r,p)
 |_=>(0,[])
def X.bare:X->Bool
 |.ref _ _=>false
 |.az _ _ _ _=>false
 |.cut _ _ _ _=>false
 |.ptr _ cs=>jE cs
 |.agg cs=>jE cs
 |.av cs=>jE cs
 |.fn _ cs=>jE cs
 |_=>true
where
 jE:List X->Bool
 |[]=>true
 |x::l=>X.bare x && jE l
def oq(s1:ah):Option AV->List X
 |none=>[]
 |some x=>match ay s1 x with
  |.fn _ cs=>fO s1 cs
  |_=>[]
def rE(s1:ah)(fv:Option AV)(f:FuncId):Prop:=match fv with
 |none=>True
 |some x=>match ay s1 x with
  |.fn g _=>g=f
  |_=>False
def ua[Bs](P:Program)(f:FuncId)(d:Option Nat)(as:List (AV×PM))(fv:Option AV)(s:ah)(K:ah->Prop):Prop:=
 X.bare.jE (bX as s).1=true/\
 match ei as with
 |none=>rE (bX as s).2 fv f/\AC P f (gy (bX as s).2 .dead as (bX as s).1++oq (bX as s).2 fv) λr _=>K (fV d r (bX as s).2)
 |some (x,n)=>yp (placeOf (ay (bX as s).2 x)).1 (placeOf (ay (bX as s).2 x)).2 (bX as s).2 n (ay (bX as s).2 x) λy back=>X.bare y=true/\rE (iX (placeOf (ay (bX as s).2 x)).1 (placeOf (ay (bX as s).2 x)).2 .dead (bX as s).2) fv f/\
   AC P f (gy (iX (placeOf (ay (bX as s).2 x)).1 (placeOf (ay (bX as s).2 x)).2 .dead (bX as s).2) y as (bX as s).1++oq (iX (placeOf (ay (bX as s).2 x)).1 (placeOf (ay (bX as s).2 x)).2 .dead (bX as s).2) fv)
    λq ps=>back (kQ as ps) λs'=>K (fV d q s')
def E5(lo hi:Nat)(xs:List (List X)):List (List X):=xs.mapIdx λi e=>if lo<=i/\i<hi then e.map (λ_=>.dead) else e
def Fg(lo hi:Nat)(z:List X)(xs:List (List X)):List (List X):=xs.mapIdx λi e=>if lo<=i/\i<hi then z else e
def cM(x:X)(s:ah):X×ah:=match x with
 |.cut r p lo hi=>(match look s r p with
  |some (.row .own z xs)=>(.row .own z ((xs.take hi).drop lo),iJ r p (.row .own z (E5 lo hi xs)) s)
  |_=>(.dead,s))
 |x=>take .mv x s
def ak(P:Program)(f:FuncId):Bool:=match P.funcs[f]? with
 |some fn=> !(fn.name== "runtime.NumGoroutine") && !fn.body.isNone
 |none=>false
def kn:List (List X)->Bool
 |(_::_)::_=>true
 |_=>false
def aV[Bs](P:Program)(o:cw)(s:ah)(K:ah->Prop):Prop:=
 match o with
 |.mv d x=>K (put d (ay s x) s)
 |.aU d h x=>K (put d (take h (ay s x) s).1 (take h (ay s x) s).2)
 |.pick d c a b=>match ay s c with
  |.bool t=>K (put d (CE t (ay s a) (ay s b)) s)
  |_=>False
 |.un d op x=>zo op (ay s x)/\K (put d (ON op (ay s x)) s)
 |.bin d op x y=>wG op (ay s x) (ay s y)/\K (put d (Kc op (ay s x) (ay s y)) s)
 |.beq d neg x y=>match ay s x,ay s y with
  |.bool p,.bool q=>K (put d (.bool (xor neg (p==q))) s)
  |_,_=>False
 |.sU d neg x=>match ay s x with
  |.row _ _ xs=>∀b:Bool,(kn xs=true->b=false)->K (put d (.bool (xor neg b)) s)
  |_=>False
 |.mX d neg ks x y=>match ay s x,ay s y with
  |.agg p,.agg q=>∃t,j6 ks p q=some t/\K (put d (.bool (xor neg t)) s)
  |_,_=>False
 |.conv d k x=>match ay s x with
  |.int _ n=>K (put d (.int k (k.wrap n)) s)
  |_=>False
 |.bytes d x=>match ay s x with
  |.str t=>K (put d (.row .own 1 (t.data.toList.map λb=>[.int .u8 b.toNat])) s)
  |_=>False
 |.text d x=>∃xs,rowAt s (ay s x)=some (1,xs)/\xs.length<=9223372036854775807/\∃l:List UInt8,xs=l.map (λb=>[.int .u8 b.toNat])/\K (put d (.str ⟨l.toArray⟩) s)
 |.box d h x=>0<(cellsOf (take h (ay s x) s).1).length/\K (put d (.ptr .own (cellsOf (take h (ay s x) s).1)) (take h (ay s x) s).2)
 |.new d z=>K (put d (.ptr .own z) s)
 |.build d h z ps=>Ja h (takes h (ps.map (·.2)) s).1/\ze (ps.map (·.1.2)) (takes h (ps.map (·.2)) s).1/\K (put d (.agg (wY z (ps.map (·.1.1)) (takes h (ps.map (·.2)) s).1)) (takes h (ps.map (·.2)) s).2)
 |.lit d h sz ps=>(∀x∈(takes h ps s).1,(cellsOf x).length=sz/\iu (cellsOf x)=true)/\K (put d (.row .own sz ((takes h ps s).1.map cellsOf)) (takes h ps s).2)
 |.make d sz bytes z n=>match ay s n with
  |.int _ i=>0<=i/\i*bytes<=140737488355328/\K (put d (.row .own sz (List.replicate i.toNat z)) s)
  |_=>False
 |.load d sz agg a=>∃cs,gB s (ay s a)=some cs/\sz<=cs.length/\K (put d (bif agg then .agg (cs.take sz) else cs.headD .dead) s)
 |.store sz h a x=>(cellsOf (take h (ay s x) s).1).length=sz/\(match ay (take h (ay s x) s).2 a with
  |.az r p i c=>storable (take h (ay s x) s).2 r p i c (cellsOf (take h (ay s x) s).1)/\K (setCells r p i c (cellsOf (take h (ay s x) s).1) (take h (ay s x) s).2)
  |_=>False)
 |.dB d x=>match ay s x with
  |.az r p i c=>K (put d (.az r p i c) s)
  |.ptr m cs=>K (put d (.ptr m cs) s)
  |.fn f cs=>K (put d (.fn f cs) s)
  |_=>False
 |.pS d x off=>match ay s x with
  |.az r p i c=>K (put d (.az r p i (c+off)) s)
  |.ptr m cs=>K (put d (.ptr m (cs.drop off)) s)
  |_=>False
 |.kF d x off sz agg=>match ay s x with
  |.agg cs=>off+sz<=cs.length/\K (put d (bif agg then .agg ((cs.drop off).take sz) else (cs.drop off).headD .dead) s)
  |_=>False
 |.fy d sz x i=>match ay s i with
  |.int _ n=>0<=n/\(match ay s x with
   |.row m z xs=>z=sz/\∃e,xs[n.toNat]?=some e/\K (put d (.ptr m e) s)
   |.ref r p=>(match look s r p with
    |some (.row _ z xs)=>z=sz/\n.toNat<xs.length/\K (put d (.az r p n.toNat 0) s)
    |_=>False)
   |.cut r p lo hi=>(match look s r p with
    |some (.row _ z _)=>z=sz/\lo+n.toNat<hi/\K (put d (.az r p (lo+n.toNat) 0) s)
    |_=>False)
   |_=>False)
  |_=>False
 |.dD d x i=>match ay s x,ay s i with
  |.str t,.int _ n=>0<=n/\∃b,t.data[n.toNat]?=some b/\K (put d (.int .u8 b.toNat) s)
  |_,_=>False
 |.ru d n sz agg x i=>match ay s x,ay s i with
  |.agg cs,.int _ j=>0<=j/\j<n/\cs.length=n*sz/\K (put d (bif agg then .agg ((cs.drop (j.toNat*sz)).take sz) else (cs.drop (j.toNat*sz)).headD .dead) s)
  |_,_=>False
 |.ext d x i=>match ay s x with
  |.av cs=>i<cs.length/\K (put d (cs.getD i .dead) s)
  |_=>False
 |.gu d x lo hi=>match ay s x with
  |.str t=>0<=asNat s lo 0/\asNat s lo 0<=asNat s hi t.size/\asNat s hi t.size<=t.size/\K (put d (.str (t.extract (asNat s lo 0).toNat (asNat s hi t.size).toNat)) s)
  |_=>False
 |.kR d sz x lo hi=>∃xs,rowAt s (ay s x)=some (sz,xs)/\0<=asNat s lo 0/\asNat s lo 0<=asNat s hi xs.length/\asNat s hi xs.length<=xs.length/\(match ay s x with
  |.row m z _=>K (put d (.row m z ((xs.take (asNat s hi xs.length).toNat).drop (asNat s lo 0).toNat)) s)
  |.ref r p=>K (put d (.cut r p (asNat s lo 0).toNat (asNat s hi xs.length).toNat) s)
  |_=>False)
 |.nK d fz sz agg a=>∃cs,gB s (ay s a)=some cs/\sz<=cs.length/\∃s',ghost fz d (put d (bif agg then .agg (cs.take sz) else cs.headD .dead) s)=some s'/\K s'
 |.wR sz z x=>match ay s x with
  |.cut r p lo hi=>(match look s r p with
   |some (.row .own z' xs)=>z'=sz/\K (iJ r p (.row .own z' (Fg lo hi z xs)) s)
   |_=>False)
  |_=>False
 |.rC d f x as=>match ay s x with
  |.agg cs=>X.bare.jE (bY cs s).1=true/\AC P f (.agg (bY cs s).1::gy (bY cs s).2 .dead as (as.map λ_=>.dead)) λr ps=>match ps with
   |.agg ys::_=>iu ys=true/\∃s',mY cs ys (bY cs s).2=some s'/\K (fV d r s')
   |_=>False
  |_=>False
 |.nQ d f cs=>K (put d (.fn f (cs.map (ay s))) s)
 |.len d x=>∃z xs,rowAt s (ay s x)=some (z,xs)/\K (put d (.int .i64 xs.length) s)
 |.tn d x=>match ay s x with
  |.str t=>K (put d (.int .i64 t.size) s)
  |_=>False
 |.app d h sz bytes x y=>match (take .mv (ay s x) s).1 with
  |.row .own z xs=>z=sz/\(match h with
   |.mv=>(match (cM (ay (take .mv (ay s x) s).2 y) (take .mv (ay s x) s).2).1 with
    |.row .own z' ys=>z'=sz/\(xs.length+ys.length)*bytes<=140737488355328/\K (put d (.row .own z (xs++ys)) (cM (ay (take .mv (ay s x) s).2 y) (take .mv (ay s x) s).2).2)
    |_=>False)
   |_=>∃ys,rowAt (take .mv (ay s x) s).2 (ay (take .mv (ay s x) s).2 y)=some (sz,ys)/\(xs.length+ys.length)*bytes<=140737488355328/\scalars ys/\K (put d (.row .own z (xs++ys)) (take .mv (ay s x) s).2))
  |_=>False
 |.mn d xs=>match xs.map (ay s) with
  |[.int k a,.int k' b]=>k=k'/\K (put d (.int k (if b<a then b else a)) s)
  |_=>False
 |.mx d xs=>match xs.map (ay s) with
  |[.int k a,.int k' b]=>k=k'/\K (put d (.int k (if b>a then b else a)) s)
  |_=>False
 |.call d f as=>ua P f d as none s K
 |.kC d x as=>match ay s x with
  |.fn f _=>ak P f=true/\ua P f d as (some x) s K
  |_=>False
def cw.dst:cw->Option Nat
 |.mv d _|.aU d _ _|.pick d _ _ _|.un d _ _|.bin d _ _ _|.beq d _ _ _|.mX d _ _ _ _|.sU d _ _|.conv d _ _|.bytes d _|.text d _|.box d _ _|.new d _|.build d _ _ _|.lit d _ _ _
 |.make d _ _ _ _|.load d _ _ _|.dB d _|.pS d _ _|.kF d _ _ _ _|.fy d _ _ _|.dD d _ _|.ru d _ _ _ _ _|.ext d _ _|.gu d _ _ _
 |.kR d _ _ _ _|.nQ d _ _|.len d _|.tn d _|.app d _ _ _ _ _|.mn d _|.mx d _|.nK d _ _ _ _=>some d
 |.call d _ _=>d
 |.kC d _ _=>d
 |.rC d _ _ _=>d
 |.store _ _ _ _=>none
 |.wR _ _ _=>none
def pO[Bs](P:Program)(g:G)(s:ah)(K:ah->Prop):Prop:=match g with
 |⟨none,o⟩=>aV P o s K
 |⟨some (t,b),o⟩=>match get s t with
  |.bool v=>(v=b->aV P o ((t,.bool b)::s) K)/\(v= !b->K (fV o.dst (.av []) ((t,.bool (!b))::s)))
  |.av []=>K (fV o.dst (.av []) s)
  |_=>False
def kA[Bs](P:Program):List G->ah->(Ex->ah->Prop)->Prop
 |[],s,Q=>Q .normal s
 |g::l,s,Q=>pO P g s λs'=>kA P l s' Q
def keep(ks:List Nat)(s:ah):ah:=ks.map λk=>(k,(get s k).only ks)
def iD[Bs](P:Program):DT->ah->(Ex->ah->Prop)->Prop
 |.nil ks,s,Q=>Q .normal (keep ks s)
 |.step _ g t,s,Q=>pO P g s λs'=>iD P t s' Q
 |.alt a b,s,Q=>iD P a s Q/\iD P b s Q
 |.kp ks t,s,Q=>iD P t (keep ks s) Q
def e9[Bs](P:Program):A->ah->(Ex->ah->Prop)->Prop
 |.skip,s,Q=>Q .normal s
 |.ret,s,Q=>Q .ret s
 |.exit id,s,Q=>Q (.exit id) s
 |.ops l,s,Q=>kA P l s Q
 |.draw t,s,Q=>iD P t s Q
 |.seq a b,s,Q=>e9 P a s λe s'=>match e with
  |.normal=>e9 P b s' Q
  |e=>Q e s'
 |.cond c a b,s,Q=>match ay s c with
  |.bool t=>(t=true->e9 P a s Q)/\(t=false->e9 P b s Q)
  |_=>False
 |.block id b,s,Q=>e9 P b s λe s'=>match e with
  |.exit i=>bif i==id then Q .normal s' else Q (.exit i) s'
  |e=>Q e s'
 |.loop b,s,Q=>∃I:Nat->ah->Prop,(∃n,I n s)/\∀n s',I n s'->e9 P b s' λe s''=>match e with
  |.normal=>∃m,m<n/\I m s''
  |e=>Q e s''
 |.pk ks b,s,Q=>e9 P b s λe s'=>match e with
  |.normal=>Q .normal (keep ks s')
  |e=>Q e s'
def zR[Bs](P:Program)(t:DT)(Q:Ex->ah->Prop):ah->Prop:=λs=>iD P t s Q
def J0[Bs](P:Program)(l:List G)(Q:Ex->ah->Prop):ah->Prop:=λs=>kA P l s Q
def Ey[Bs](P:Program)(b:A)(Q:Ex->ah->Prop):Ex->ah->Prop:=λe s'=>match e with
  |.normal=>e9 P b s' Q
  |e=>Q e s'
def Et(id:Nat)(Q:Ex->ah->Prop):Ex->ah->Prop:=λe s'=>match e with
  |.exit i=>bif i==id then Q .normal s' else Q (.exit i) s'
  |e=>Q e s'
end M
namespace M
open Go
variable [Bs]{P:Program}
@[simp] def aqv(s:ah)(Q:Ex->ah->Prop):e9 P .skip s Q=Q .normal s:=rfl
@[simp] def aqt(s:ah)(Q:Ex->ah->Prop):e9 P .ret s Q=Q .ret s:=rfl
@[simp] def aqr(i:Nat)(s:ah)(Q:Ex->ah->Prop):e9 P (.exit i) s Q=Q (.exit i) s:=rfl
@[simp] def aqs(l:List G)(s:ah)(Q:Ex->ah->Prop):e9 P (.ops l) s Q=kA P l s Q:=rfl
@[simp] def aqq(t:DT)(s:ah)(Q:Ex->ah->Prop):e9 P (.draw t) s Q=iD P t s Q:=rfl
@[simp] def arw(ks:List Nat)(s:ah)(Q:Ex->ah->Prop):iD P (.nil ks) s Q=Q .normal (keep ks s):=rfl
@[simp] def arx(i:Nat)(o:cw)(t:DT)(s:ah)(Q:Ex->ah->Prop):iD P (.step i ⟨none,o⟩ t) s Q=aV P o s (zR P t Q):=rfl
@[simp] def aru(i t:Nat)(b:Bool)(o:cw)(l:DT)(s:ah)(Q:Ex->ah->Prop):iD P (.step i ⟨some (t,b),o⟩ l) s Q=(match get s t with
  |.bool v=>(v=b->aV P o ((t,.bool b)::s) (zR P l Q))/\(v= !b->zR P l Q (fV o.dst (.av []) ((t,.bool (!b))::s)))
  |.av []=>zR P l Q (fV o.dst (.av []) s)
  |_=>False):=rfl
@[simp] def art(a b:DT)(s:ah)(Q:Ex->ah->Prop):iD P (.alt a b) s Q=(iD P a s Q/\iD P b s Q):=rfl
@[simp] def arv(ks:List Nat)(t:DT)(s:ah)(Q:Ex->ah->Prop):iD P (.kp ks t) s Q=iD P t (keep ks s) Q:=rfl
@[simp] def ars(t:DT)(Q:Ex->ah->Prop)(s:ah):zR P t Q s=iD P t s Q:=rfl
@[simp] def aqu(a b:A)(s:ah)(Q:Ex->ah->Prop):e9 P (.seq a b) s Q=e9 P a s (Ey P b Q):=rfl
@[simp] def aqo(i:Nat)(b:A)(s:ah)(Q:Ex->ah->Prop):e9 P (.block i b) s Q=e9 P b s (Et i Q):=rfl
@[simp] def aqp(c:AV)(a b:A)(s:ah)(Q:Ex->ah->Prop):e9 P (.cond c a b) s Q=(match ay s c with|.bool t=>(t=true->e9 P a s Q)/\(t=false->e9 P b s Q)|_=>False):=rfl
@[simp] def atn(b:A)(Q:Ex->ah->Prop)(s:ah):Ey P b Q .normal s=e9 P b s Q:=rfl
@[simp] def atm(b:A)(Q:Ex->ah->Prop)(s:ah)(i:Nat):Ey P b Q (.exit i) s=Q (.exit i) s:=rfl
@[simp] def ato(b:A)(Q:Ex->ah->Prop)(s:ah):Ey P b Q .ret s=Q .ret s:=rfl
@[simp] def aqF(i:Nat)(Q:Ex->ah->Prop)(s:ah):Et i Q .normal s=Q .normal s:=rfl
@[simp] def aqG(i:Nat)(Q:Ex->ah->Prop)(s:ah):Et i Q .ret s=Q .ret s:=rfl
@[simp] def aqE(i j:Nat)(Q:Ex->ah->Prop)(s:ah):Et i Q (.exit j) s=(bif j==i then Q .normal s else Q (.exit j) s):=rfl
@[simp] def as5(s:ah)(Q:Ex->ah->Prop):kA P [] s Q=Q .normal s:=rfl
@[simp] def as3(o:cw)(l:List G)(s:ah)(Q:Ex->ah->Prop):kA P (⟨none,o⟩::l) s Q=aV P o s (J0 P l Q):=rfl
@[simp] def as4(t:Nat)(b:Bool)(o:cw)(l:List G)(s:ah)(Q:Ex->ah->Prop):kA P (⟨some (t,b),o⟩::l) s Q=(match get s t with
  |.bool v=>(v=b->aV P o ((t,.bool b)::s) (J0 P l Q))/\(v= !b->kA P l (fV o.dst (.av []) ((t,.bool (!b))::s)) Q)
  |.av []=>kA P l (fV o.dst (.av []) s) Q
  |_=>False):=rfl
@[simp] def as2(l:List G)(Q:Ex->ah->Prop)(s:ah):J0 P l Q s=kA P l s Q:=rfl
attribute [simp] aV get put fV sE X.iW ay alias jh gR z6 tP look X.sub X.step X.putAt X.bp iX U7 move take Vq bY cellsOf gB rowAt res lR oW yG fO oR setCell setCells
 j6 wG Kc zo ON CE cZ iu takes kE wY Ja ze storable asNat bX gy ei kQ pP X.fA X.qn sD iJ yp placeOf X.bare X.bare.jE oq rE ua X.md X.ey X.cg X.kill X.hO X.pfx cw.dst scalar X.only X.oS keep
end M
namespace M
open Go Go.RowKit
namespace C
variable {w w':World}{Z Z':Md->Nat->Nat->Prop}{S:Nat->Nat->Prop}
def fK:∀(c:C),c.ok w Z->∀b k,c.fp b k->b<w.heap.size
 |.row m sz A len cap e,h,b,k,hf=>by
  obtain⟨h1,h2,h3,h4,h5⟩:=h;rcases hf with ⟨hm,⟨o,hA⟩|⟨i,j,hi,hj,hf⟩⟩
  ·rcases h4 hm with ⟨hn,_⟩|⟨g,o',arr,t,fz,kG,hh,_⟩;·rw[hn] at hA;cases hA
   ·rw[kG] at hA;injection hA with hA
    injection hA with e1 e2
    subst e1;exact(kz.1 hh).1
  ·exact fK (e i j) (h3 i j hi hj).2.2.2 b k hf
 |.ptr m g o n c,h,b,k,hf=>by
  obtain⟨h1,h2,h3,h4⟩:=h;rcases hf with ⟨_,⟨rfl,_⟩|⟨j,hj,hf⟩⟩;·exact h2
  ·exact fK (c j) (h3 j hj).2.2 b k hf
 |.agg n c,h,b,k,hf=>by obtain⟨j,hj,hf⟩:=hf;exact fK (c j) (h.1 j hj).2 b k hf
 |.av n c,h,b,k,hf=>by obtain⟨j,hj,hf⟩:=hf;exact fK (c j) (h.1 j hj).2 b k hf
 |.fn _ _ _,_,_,_,hf=>hf.elim
 |.dead _,_,_,_,hf=>hf.elim
 |.int _ _,_,_,_,hf=>hf.elim
 |.bool _,_,_,_,hf=>hf.elim
 |.str _,_,_,_,hf=>hf.elim
 |.ref _ _ _,_,_,_,hf=>hf.elim
 |.az _ _ _ _ _,_,_,_,hf=>hf.elim
 |.cut _ _ _ _ _,_,_,_,hf=>hf.elim
def RU{c:C}{m:Md}(hc:c.cell)(hf:c.fits m){b k:Nat}(h:c.fp b k):m=.own:=by
 cases c with
 |row m' sz A len cap e=>
  obtain⟨hm,_⟩:=h;subst hm;rcases hf with h|h|⟨_,h⟩;·exact h
  ·exact h.symm
  ·cases h
 |ptr m' g o n c=>
  obtain⟨hm,_⟩:=h;subst hm;rcases hf with h|h|⟨_,h⟩;·exact h
  ·exact h.symm
  ·cases h
 |agg n c=>exact hc.elim
 |av n c=>exact hc.elim
 |_=>exact h.elim
def ke{m:Md}{sz:Nat}{A:Option Ad}{len cap:Nat}{e:Nat->Nat->C}{i j:Nat}(h0:(e i j).cell)(h1:(e i j).fits m)(hi:i<len)(hj:j<sz){b k:Nat}(hf:(e i j).fp b k):(C.row m sz A len cap e).fp b k:=
 ⟨RU h0 h1 hf,.inr ⟨i,j,hi,hj,hf⟩⟩
def kO{m:Md}{g o n:Nat}{c:Nat->C}{j:Nat}(h0:(c j).cell)(h1:(c j).fits m)(hj:j<n){b k:Nat}(hf:(c j).fp b k):(C.ptr m g o n c).fp b k:=
 ⟨RU h0 h1 hf,.inr ⟨j,hj,hf⟩⟩
def fM(hE:Ext S w w')(hZ:∀m b k,Z m b k->¬S b k):∀(c:C),(∀b k,c.fp b k->¬S b k)->c.ok w Z->c.ok w' Z
 |.row m sz A len cap e,hS,h=>by
  obtain⟨h1,h2,h3,h4,h5⟩:=h;refine⟨h1,λi j hi hj=>?_,λi j hi hj=>?_,λhm=>?_,h5⟩
  ·obtain⟨g,o,hA,hc,hz⟩:=h2 i j hi hj;refine⟨g,o,hA,hE.cell ?_ hc,hz⟩;by_cases hm:m=.own;·exact hS _ _ ⟨hm,.inl ⟨o,hA⟩⟩
   ·exact hZ _ _ _ (hz hm)
  ·obtain⟨a1,a2,a3,a4⟩:=h3 i j hi hj;exact⟨a1,a2,a3,fM hE hZ (e i j) (λb k hf=>hS b k (ke a1 a3 hi hj hf)) a4⟩
  ·rcases h4 hm with h|⟨g,o,arr,t,fz,hA,hh,hsz,hfr⟩;·exact .inl h
   ·have hg:g<w.heap.size:=(kz.1 hh).1;rcases hE.block g hg with e'|⟨a1,a2,t',mA,e1,e2,e3,e4⟩;·exact .inr ⟨g,o,arr,t,fz,hA,e'.trans hh,hsz,λk hk hk'=>(hE.frozen hg).trans (hfr k hk hk')⟩
    ·rw[hh] at e1;injection e1 with e1
     injection e1 with q1 q2 q3
     subst q1;exact .inr ⟨g,o,a2,t',mA,hA,e2,by omega,λk hk hk'=>(hE.frozen hg).trans (hfr k hk hk')⟩
 |.ptr m g o n c,hS,h=>by
  obtain⟨h1,h2,h3,h4⟩:=h;refine⟨λj hj=>?_,kV h2 hE.size,λj hj=>?_,h4⟩
  ·obtain⟨a1,a2,a3⟩:=h1 j hj;refine⟨hE.cell ?_ a1,a2,λhm=>(hE.frozen h2).trans (a3 hm)⟩;by_cases hm:m=.own;·exact hS _ _ ⟨hm,.inl ⟨rfl,by omega,by omega⟩⟩
   ·exact hZ _ _ _ (a2 hm)
  ·obtain⟨a1,a3,a4⟩:=h3 j hj;exact⟨a1,a3,fM hE hZ (c j) (λb k hf=>hS b k (kO a1 a3 hj hf)) a4⟩
 |.agg n c,hS,h=>⟨λj hj=>⟨(h.1 j hj).1,fM hE hZ (c j) (λb k hf=>hS b k ⟨j,hj,hf⟩) (h.1 j hj).2⟩,h.2⟩
 |.av n c,hS,h=>⟨λj hj=>⟨(h.1 j hj).1,fM hE hZ (c j) (λb k hf=>hS b k ⟨j,hj,hf⟩) (h.1 j hj).2⟩,h.2⟩
 |.fn f n c,hS,h=>λj hj=>⟨fM hE hZ (c j) (λb k hf=>((h j hj).2 b k hf).elim) (h j hj).1,(h j hj).2⟩
 |.dead _,_,h=>h
 |.int _ _,_,h=>h
 |.bool _,_,h=>h
 |.str _,_,h=>h
 |.ref _ _ _,_,h=>h
 |.az _ _ _ _ _,_,h=>h
 |.cut _ _ _ _ _,_,h=>h
def gJ(hZ:∀m b k,Z m b k->Z' m b k):∀(c:C),c.ok w Z->c.ok w Z'
 |.row m sz A len cap e,h=>by
  obtain⟨h1,h2,h3,h4,h5⟩:=h;refine⟨h1,λi j hi hj=>?_,λi j hi hj=>?_,h4,h5⟩;·obtain⟨g,o,hA,hc,hz⟩:=h2 i j hi hj;exact⟨g,o,hA,hc,λhm=>hZ _ _ _ (hz hm)⟩
  ·obtain⟨a1,a2,a3,a4⟩:=h3 i j hi hj;exact⟨a1,a2,a3,gJ hZ (e i j) a4⟩
 |.ptr m g o n c,h=>by
  obtain⟨h1,h2,h3,h4⟩:=h;refine⟨λj hj=>?_,h2,λj hj=>?_,h4⟩;·obtain⟨a1,a2,a3⟩:=h1 j hj;exact⟨a1,λhm=>hZ _ _ _ (a2 hm),a3⟩
  ·obtain⟨a1,a3,a4⟩:=h3 j hj;exact⟨a1,a3,gJ hZ (c j) a4⟩
 |.agg n c,h=>⟨λj hj=>⟨(h.1 j hj).1,gJ hZ (c j) (h.1 j hj).2⟩,h.2⟩
 |.av n c,h=>⟨λj hj=>⟨(h.1 j hj).1,gJ hZ (c j) (h.1 j hj).2⟩,h.2⟩
 |.fn f n c,h=>λj hj=>⟨gJ hZ (c j) (h j hj).1,(h j hj).2⟩
 |.dead _,h=>h
 |.int _ _,h=>h
 |.bool _,h=>h
 |.str _,h=>h
 |.ref _ _ _,h=>h
 |.az _ _ _ _ _,h=>h
 |.cut _ _ _ _ _,h=>h
def step:C->Nat×Nat->Option C
 |.row _ sz _ len _ e,q=>if q.1<len/\q.2<sz then some (e q.1 q.2) else none
 |.ptr _ _ _ n c,q=>if q.1=0/\q.2<n then some (c q.2) else none
 |.agg n c,q=>if q.1=0/\q.2<n then some (c q.2) else none
 |.av n c,q=>if q.1=0/\q.2<n then some (c q.2) else none
 |_,_=>none
def sub(c:C):Path->Option C
 |[]=>some c
 |q::p=>(c.step q).bind (·.sub p)
def b8(f:Nat->C)(j:Nat)(y:C):Nat->C:=λi=>if i=j then y else f i
def bp:C->Nat×Nat->C->C
 |.row m sz A len cap e,q,y=>.row m sz A len cap (λi j=>if i=q.1/\j=q.2 then y else e i j)
 |.ptr m g o n c,q,y=>.ptr m g o n (b8 c q.2 y)
 |.agg n c,q,y=>.agg n (b8 c q.2 y)
 |.av n c,q,y=>.av n (b8 c q.2 y)
 |c,_,_=>c
def putAt:Path->C->C->C
 |[],_,y=>y
 |q::p,c,y=>match c.step q with
  |some z=>c.bp q (putAt p z y)
  |none=>c
def dn{α:Type}(f:Nat->α)(n i:Nat):((List.range n).map f)[i]?=if i<n then some (f i) else none:=by
 rw[dm];by_cases h:i<n;·rw[tK h,aA h];rfl
 ·rw[k7 (by simpa using h),aE h];rfl
def Vi(c:C)(q:Nat×Nat):c.er.step q=(c.step q).map er:=by
 cases c with
 |row m sz A len cap e=>
  simp only[er,X.step,step,dn];by_cases h1:q.1<len
  ·by_cases h2:q.2<sz;·simp[h1,h2,dn]
   ·simp[h1,h2,dn]
  ·simp[h1]
 |ptr m g o n c=>simp only[er,X.step,step,dn];cases h0:q.1==0<;>by_cases h1:q.2<n<;>simp_all
 |agg n c=>simp only[er,X.step,step,dn];cases h0:q.1==0<;>by_cases h1:q.2<n<;>simp_all
 |av n c=>simp only[er,X.step,step,dn];cases h0:q.1==0<;>by_cases h1:q.2<n<;>simp_all
 |_=>rfl
def gL:∀(p:Path) (c:C),c.er.sub p=(c.sub p).map er
 |[],c=>rfl
 |q::p,c=>by
  simp only[X.sub,sub,Vi];cases h:c.step q with
  |none=>rfl
  |some d=>simpa using gL p d
def Cm{α:Type}(f g:Nat->α)(n j:Nat)(y:α)(h:∀i,i<n->g i=if i=j then y else f i):((List.range n).map f).set j y=(List.range n).map g:=by
 apply gP;intro i;rw[wg,dn,dn];simp only[dH,wj];by_cases hi:i<n
 ·by_cases hj:j=i;·subst hj;simp[hi,h j hi]
  ·have:i≠j:=λe=>hj e.symm;simp[hi,hj,h i hi,this]
 ·by_cases hj:j=i;·subst hj;simp[hi]
  ·simp[hi,hj]
def akx(c:C)(q:Nat×Nat)(y:C):(c.bp q y).er=c.er.bp q y.er:=by
 cases c with
 |row m sz A len cap e=>
  simp only[bp,er,X.bp];congr 1;apply gP;intro i;rw[tJ,dn,dn];by_cases hi:i<len
  ·rw[aA hi,aA hi];show some _=some _;congr 1;by_cases hq:q.1=i;·subst hq;simp only[cN];symm;apply Cm;intro j hj;by_cases hj':j=q.2<;>simp[hj']
   ·have oC:i≠q.1:=λe=>hq e.symm;simp[hq,oC]
  ·simp[hi]
 |ptr m g o n c=>simp only[bp,er,X.bp];congr 1;symm;apply Cm;intro i hi;unfold b8;split<;>rfl
 |agg n c=>simp only[bp,er,X.bp];congr 1;symm;apply Cm;intro i hi;unfold b8;split<;>rfl
 |av n c=>simp only[bp,er,X.bp];congr 1;symm;apply Cm;intro i hi;unfold b8;split<;>rfl
 |_=>rfl
def Nv:∀(p:Path) (c y:C),(putAt p c y).er=X.putAt p c.er y.er
 |[],c,y=>rfl
 |q::p,c,y=>by
  simp only[putAt,X.putAt,Vi];cases h:c.step q with
  |none=>rfl
  |some d=>simp only[cq,akx,Nv p d y]
end C
end M
namespace M
open Go Go.RowKit
namespace C
variable {w w':World}{Z Z':Md->Nat->Nat->Prop}{S:Nat->Nat->Prop}
def Ow{c z:C}{q:Nat×Nat}(h:c.step q=some z)(ho:c.ok w Z){b k:Nat}(hf:z.fp b k):c.fp b k:=by
 cases c with
 |row m sz A len cap e=>
  simp only[step] at h;split at h
  ·rename_i hq;injection h with h
   subst h;obtain⟨a1,a2,a3,a4⟩:=ho.2.2.1 _ _ hq.1 hq.2;exact ke a1 a3 hq.1 hq.2 hf
  ·cases h
 |ptr m g o n c=>
  simp only[step] at h;split at h
  ·rename_i hq;injection h with h
   subst h;obtain⟨a1,a3,a4⟩:=ho.2.2.1 _ hq.2;exact kO a1 a3 hq.2 hf
  ·cases h
 |agg n c=>
  simp only[step] at h;split at h
  ·rename_i hq;injection h with h
   subst h;exact⟨q.2,hq.2,hf⟩
  ·cases h
 |av n c=>
  simp only[step] at h;split at h
  ·rename_i hq;injection h with h
   subst h;exact⟨q.2,hq.2,hf⟩
  ·cases h
 |_=>simp[step] at h
def vK{c z:C}{q:Nat×Nat}(h:c.step q=some z)(ho:c.ok w Z):z.ok w Z:=by
 cases c with
 |row m sz A len cap e=>
  simp only[step] at h;split at h
  ·rename_i hq;injection h with h
   subst h;exact(ho.2.2.1 _ _ hq.1 hq.2).2.2.2
  ·cases h
 |ptr m g o n c=>
  simp only[step] at h;split at h
  ·rename_i hq;injection h with h
   subst h;exact(ho.2.2.1 _ hq.2).2.2
  ·cases h
 |agg n c=>
  simp only[step] at h;split at h
  ·rename_i hq;injection h with h
   subst h;exact(ho.1 _ hq.2).2
  ·cases h
 |av n c=>
  simp only[step] at h;split at h
  ·rename_i hq;injection h with h
   subst h;exact(ho.1 _ hq.2).2
  ·cases h
 |_=>simp[step] at h
def iy:∀(p:Path) {c d:C},c.sub p=some d->c.ok w Z->d.ok w Z
 |[],c,d,h,ho=>by simp only[sub] at h;injection h with h;subst h;exact ho
 |q::p,c,d,h,ho=>by
  simp only[sub] at h;cases hs:c.step q with
  |none=>rw[hs] at h;cases h
  |some z=>rw[hs] at h;exact iy p h (vK hs ho)
def gM:∀(p:Path) {c d:C},c.sub p=some d->c.ok w Z->∀{b k:Nat},d.fp b k->c.fp b k
 |[],c,d,h,_,b,k,hf=>by simp only[sub] at h;injection h with h;subst h;exact hf
 |q::p,c,d,h,ho,b,k,hf=>by
  simp only[sub] at h;cases hs:c.step q with
  |none=>rw[hs] at h;cases h
  |some z=>rw[hs] at h;exact Ow hs ho (gM p h (vK hs ho) hf)
structure iA (c c':C):Prop where
 val:c'.val=c.val
 cell:c.cell->c'.cell
 gj:c.gj->c'.gj
 cZ:c.cZ->c'.cZ
 fits:∀m,c.fits m->c'.fits m
def iA.bp(c:C)(q:Nat×Nat)(z z':C)(hs:c.step q=some z)(hv:z'.val=z.val):iA c (c.bp q z'):=by
 have list:∀(n:Nat) (f:Nat->C),f q.2=z->((List.range n).map λj=>(b8 f q.2 z' j).val)=((List.range n).map λj=>(f j).val):=by
  intro n f hf;apply cm;intro j _;unfold b8;split;·rename_i e;subst e;rw[hv,hf]
  ·rfl
 cases c with
 |row m sz A len cap e=>exact⟨rfl,λh=>h,λh=>h,λh=>h,λm h=>h⟩
 |ptr m g o n c=>exact⟨rfl,λh=>h,λh=>h,λh=>h,λm h=>h⟩
 |agg n c=>
  simp only[step] at hs;split at hs
  ·injection hs with hs
   exact⟨by simp only[C.bp,C.val];rw[list n c hs],λh=>h,λh=>h,λh=>h,λm h=>h⟩
  ·cases hs
 |av n c=>
  simp only[step] at hs;split at hs
  ·injection hs with hs
   exact⟨by simp only[C.bp,C.val];rw[list n c hs],λh=>h,λh=>h,λh=>h,λm h=>h⟩
  ·cases hs
 |_=>simp[step] at hs
def CA(hM:∀m b k,Z m b k->Z' m b k)(hE:Ext S w w')(hZ:∀m b k,Z m b k->¬S b k):∀(p:Path) (c d d':C),c.ok w Z->c.sub p=some d->d'.ok w' Z'->iA d d'->
  (∀b k,S b k->d.fp b k\/¬c.fp b k)->(∀b k,d'.fp b k->d.fp b k\/¬c.fp b k)->
  (putAt p c d').ok w' Z'/\(∀b k,(putAt p c d').fp b k->d'.fp b k\/(c.fp b k/\¬d.fp b k))/\iA c (putAt p c d')
 |[],c,d,d',hc,hs,hd,hl,hS,hF=>by
  simp only[sub] at hs;injection hs with hs
  subst hs;exact⟨hd,λb k h=>.inl h,hl⟩
 |q::p,c,d,d',hc,hs,hd,hl,hS,hF=>by
  simp only[sub] at hs;cases hst:c.step q with
  |none=>rw[hst] at hs;cases hs
  |some z=>
   rw[hst] at hs;have hs':z.sub p=some d:=hs;obtain⟨i1,i2,i3⟩:=CA hM hE hZ p z d d' (vK hst hc) hs' hd hl (λb k h=>(hS b k h).imp id (λhn hz=>hn (Ow hst hc hz))) (λb k h=>(hF b k h).imp id (λhn hz=>hn (Ow hst hc hz)));simp only[putAt,hst];generalize fL:putAt p z d'=z' at i1 i2 i3;have sg:=iA.bp c q z z' hst i3.val;have lu:∀{b k},d.fp b k->z.fp b k:=λh=>gM p hs' (vK hst hc) h
   have FA:∀(y:C),(∀b k,y.fp b k->c.fp b k)->(∀b k,y.fp b k->¬z.fp b k)->∀b k,y.fp b k->¬S b k:=λy hy hyz b k Ta Az=>by
    rcases hS b k Az with h|h;·exact hyz b k Ta (lu h)
    ·exact h (hy b k Ta)
   cases c with
   |row m sz A len cap e=>
    simp only[step] at hst;split at hst
    ·rename_i hq;injection hst with hst
     obtain⟨h1,h2,h3,h4,h5⟩:=hc;have fT:∀b k,z.fp b k->(m=.own->∀o,A≠some (b,o,none))/\∀i' j',i'<len->j'<sz->(q.1,q.2)≠(i',j')->¬(e i' j').fp b k:=λb k h=>h5 q.1 q.2 hq.1 hq.2 b k (by rw[hst];exact h)
     have hval:∀i j,(if i=q.1/\j=q.2 then z' else e i j).val=(e i j).val:=by
      intro i j;split;·rename_i h;obtain⟨rfl,rfl⟩:=h;rw[hst];exact i3.val
      ·rfl
     have lF:∀b k,z'.fp b k->(m=.own->∀o,A≠some (b,o,none))/\∀i' j',i'<len->j'<sz->(q.1,q.2)≠(i',j')->¬(e i' j').fp b k:=by
      intro b k h;rcases i2 b k h with h|⟨h,_⟩
      ·rcases hF b k h with h|h;·exact fT b k (lu h)
       ·exact⟨λhm o hA=>h ⟨hm,.inl ⟨o,hA⟩⟩,λi' j' hi hj _ hf=>h (ke (h3 i' j' hi hj).1 (h3 i' j' hi hj).2.2.1 hi hj hf)⟩
      ·exact fT b k h
     refine⟨⟨h1,λi j hi hj=>?_,λi j hi hj=>?_,λhm=>?_,λi j hi hj b k hf=>?_⟩,λb k hf=>?_,sg⟩
     ·obtain⟨g,o,hA,hcell,hz⟩:=h2 i j hi hj;refine⟨g,o,hA,?_,λhm=>hM _ _ _ (hz hm)⟩;rw[hval];refine hE.cell ?_ hcell;by_cases hm:m=.own
      ·intro Az;rcases hS _ _ Az with h|h;·exact(fT _ _ (lu h)).1 hm o hA
       ·exact h ⟨hm,.inl ⟨o,hA⟩⟩
      ·exact hZ _ _ _ (hz hm)
     ·obtain⟨a1,a2,a3,a4⟩:=h3 i j hi hj;by_cases hij:i=q.1/\j=q.2;·obtain⟨rfl,rfl⟩:=hij;simp only[zE,cN];rw[hst] at a1 a2 a3;exact⟨i3.cell a1,i3.cZ a2,i3.fits _ a3,i1⟩
      ·simp only[aE hij];refine⟨a1,a2,a3,gJ hM _ (fM hE hZ _ (FA _ (λb k hf=>ke a1 a3 hi hj hf) λb k hf jN=>?_) a4)⟩;exact(fT b k jN).2 i j hi hj (λe=>hij (by simpa using (jW _ _ _ _▸e.symm:i=q.1/\j=q.2))) hf
     ·rcases h4 hm with h|⟨g,o,arr,t,fz,hA,hh,hsz,hfr⟩;·exact .inl h
      ·have hg:g<w.heap.size:=(kz.1 hh).1;rcases hE.block g hg with e'|⟨a1,a2,t',mA,e1,e2,e3,e4⟩;·exact .inr ⟨g,o,arr,t,fz,hA,e'.trans hh,hsz,λk hk hk'=>(hE.frozen hg).trans (hfr k hk hk')⟩
       ·rw[hh] at e1;injection e1 with e1
        injection e1 with q1 q2 q3
        subst q1;exact .inr ⟨g,o,a2,t',mA,hA,e2,by omega,λk hk hk'=>(hE.frozen hg).trans (hfr k hk hk')⟩
     ·by_cases hij:i=q.1/\j=q.2;·obtain⟨rfl,rfl⟩:=hij;simp only[zE,cN] at hf;refine⟨(lF b k hf).1,λi' j' hi' hj' hne=>?_⟩;show ¬(if i'=q.1/\j'=q.2 then z' else e i' j').fp b k;rw[aE (λh=>hne (by rw[h.1,h.2]))];exact(lF b k hf).2 i' j' hi' hj' hne
      ·simp only[aE hij] at hf;refine⟨(h5 i j hi hj b k hf).1,λi' j' hi' hj' hne=>?_⟩;show ¬(if i'=q.1/\j'=q.2 then z' else e i' j').fp b k;by_cases hij':i'=q.1/\j'=q.2;·obtain⟨rfl,rfl⟩:=hij';simp only[zE,cN];intro hf';exact(lF b k hf').2 i j hi hj (λe=>hij (by simpa using (jW _ _ _ _▸e.symm:i=q.1/\j=q.2))) hf
       ·rw[aE hij'];exact(h5 i j hi hj b k hf).2 i' j' hi' hj' hne
     ·rcases hf with ⟨hm,h|⟨i,j,hi,hj,hf⟩⟩;·refine .inr ⟨⟨hm,.inl h⟩,λhd=>?_⟩;obtain⟨o,hA⟩:=h;exact(fT b k (lu hd)).1 hm o hA
      ·by_cases hij:i=q.1/\j=q.2
       ·obtain⟨rfl,rfl⟩:=hij;simp only[zE,cN] at hf;rcases i2 b k hf with h|⟨h,hn⟩;·exact .inl h
        ·exact .inr ⟨⟨hm,.inr ⟨_,_,hi,hj,by rw[hst];exact h⟩⟩,hn⟩
       ·simp only[aE hij] at hf;exact .inr ⟨⟨hm,.inr ⟨i,j,hi,hj,hf⟩⟩,λhd=>(fT b k (lu hd)).2 i j hi hj (λe=>hij (by simpa using (jW _ _ _ _▸e.symm:i=q.1/\j=q.2))) hf⟩
    ·cases hst
   |ptr m g o n c=>
    simp only[step] at hst;split at hst
    ·rename_i hq;injection hst with hst
     obtain⟨h1,h2,h3,h4⟩:=hc;have fT:∀b k,z.fp b k->(m=.own->¬(b=g/\o<=k/\k<o+n))/\∀j',j'<n->q.2≠j'->¬(c j').fp b k:=λb k h=>h4 q.2 hq.2 b k (by rw[hst];exact h)
     have hval:∀j,(b8 c q.2 z' j).val=(c j).val:=by
      intro j;unfold b8;split;·rename_i h;subst h;rw[hst];exact i3.val
      ·rfl
     have lF:∀b k,z'.fp b k->(m=.own->¬(b=g/\o<=k/\k<o+n))/\∀j',j'<n->q.2≠j'->¬(c j').fp b k:=by
      intro b k h;rcases i2 b k h with h|⟨h,_⟩
      ·rcases hF b k h with h|h;·exact fT b k (lu h)
       ·exact⟨λhm hA=>h ⟨hm,.inl hA⟩,λj' hj _ hf=>h (kO (h3 j' hj).1 (h3 j' hj).2.1 hj hf)⟩
      ·exact fT b k h
     refine⟨⟨λj hj=>?_,kV h2 hE.size,λj hj=>?_,λj hj b k hf=>?_⟩,λb k hf=>?_,sg⟩
     ·obtain⟨a1,a2,a3⟩:=h1 j hj;refine⟨?_,λhm=>hM _ _ _ (a2 hm),λhm=>(hE.frozen h2).trans (a3 hm)⟩;rw[hval];refine hE.cell ?_ a1;by_cases hm:m=.own
      ·intro Az;rcases hS _ _ Az with h|h;·exact(fT _ _ (lu h)).1 hm ⟨rfl,by omega,by omega⟩
       ·exact h ⟨hm,.inl ⟨rfl,by omega,by omega⟩⟩
      ·exact hZ _ _ _ (a2 hm)
     ·obtain⟨a1,a3,a4⟩:=h3 j hj;unfold b8;by_cases hij:j=q.2;·subst hij;simp only[cN];rw[hst] at a1 a3;exact⟨i3.cell a1,i3.fits _ a3,i1⟩
      ·simp only[aE hij];refine⟨a1,a3,gJ hM _ (fM hE hZ _ (FA _ (λb k hf=>kO a1 a3 hj hf) λb k hf jN=>?_) a4)⟩;exact(fT b k jN).2 j hj (λe=>hij e.symm) hf
     ·unfold b8 at hf⊢;by_cases hij:j=q.2;·subst hij;simp only[cN] at hf;refine⟨(lF b k hf).1,λj' hj' hne=>?_⟩;rw[aE (λh=>hne h.symm)];exact(lF b k hf).2 j' hj' hne
      ·simp only[aE hij] at hf;refine⟨(h4 j hj b k hf).1,λj' hj' hne=>?_⟩;by_cases hij':j'=q.2;·subst hij';simp only[cN];intro hf';exact(lF b k hf').2 j hj (λe=>hij e.symm) hf
       ·rw[aE hij'];exact(h4 j hj b k hf).2 j' hj' hne
     ·rcases hf with ⟨hm,h|⟨j,hj,hf⟩⟩;·refine .inr ⟨⟨hm,.inl h⟩,λhd=>?_⟩;exact(fT b k (lu hd)).1 hm h
      ·unfold b8 at hf;by_cases hij:j=q.2
       ·subst hij;simp only[cN] at hf;rcases i2 b k hf with h|⟨h,hn⟩;·exact .inl h
        ·exact .inr ⟨⟨hm,.inr ⟨_,hj,by rw[hst];exact h⟩⟩,hn⟩
       ·simp only[aE hij] at hf;exact .inr ⟨⟨hm,.inr ⟨j,hj,hf⟩⟩,λhd=>(fT b k (lu hd)).2 j hj (λe=>hij e.symm) hf⟩
    ·cases hst
   |agg n c=>
    simp only[step] at hst;split at hst
    ·rename_i hq;injection hst with hst
     obtain⟨h3,h4⟩:=hc;have fT:∀b k,z.fp b k->∀j',j'<n->q.2≠j'->¬(c j').fp b k:=λb k h=>h4 q.2 hq.2 b k (by rw[hst];exact h)
     have lF:∀b k,z'.fp b k->∀j',j'<n->q.2≠j'->¬(c j').fp b k:=by
      intro b k h;rcases i2 b k h with h|⟨h,_⟩
      ·rcases hF b k h with h|h;·exact fT b k (lu h)
       ·exact λj' hj _ hf=>h ⟨j',hj,hf⟩
      ·exact fT b k h
     refine⟨⟨λj hj=>?_,λj hj b k hf=>?_⟩,λb k hf=>?_,sg⟩
     ·obtain⟨a1,a4⟩:=h3 j hj;unfold b8;by_cases hij:j=q.2;·subst hij;simp only[cN];rw[hst] at a1;exact⟨i3.cell a1,i1⟩
      ·simp only[aE hij];refine⟨a1,gJ hM _ (fM hE hZ _ (FA _ (λb k hf=>⟨j,hj,hf⟩) λb k hf jN=>?_) a4)⟩;exact fT b k jN j hj (λe=>hij e.symm) hf
     ·unfold b8 at hf⊢;by_cases hij:j=q.2;·subst hij;simp only[cN] at hf;intro j' hj' hne;rw[aE (λh=>hne h.symm)];exact lF b k hf j' hj' hne
      ·simp only[aE hij] at hf;intro j' hj' hne;by_cases hij':j'=q.2;·subst hij';simp only[cN];intro hf';exact lF b k hf' j hj (λe=>hij e.symm) hf
       ·rw[aE hij'];exact h4 j hj b k hf j' hj' hne
     ·obtain⟨j,hj,hf⟩:=hf;unfold b8 at hf;by_cases hij:j=q.2
      ·subst hij;simp only[cN] at hf;rcases i2 b k hf with h|⟨h,hn⟩;·exact .inl h
       ·exact .inr ⟨⟨_,hj,by rw[hst];exact h⟩,hn⟩
      ·simp only[aE hij] at hf;exact .inr ⟨⟨j,hj,hf⟩,λhd=>fT b k (lu hd) j hj (λe=>hij e.symm) hf⟩
    ·cases hst
   |av n c=>
    simp only[step] at hst;split at hst
    ·rename_i hq;injection hst with hst
     obtain⟨h3,h4⟩:=hc;have fT:∀b k,z.fp b k->∀j',j'<n->q.2≠j'->¬(c j').fp b k:=λb k h=>h4 q.2 hq.2 b k (by rw[hst];exact h)
     have lF:∀b k,z'.fp b k->∀j',j'<n->q.2≠j'->¬(c j').fp b k:=by
      intro b k h;rcases i2 b k h with h|⟨h,_⟩
      ·rcases hF b k h with h|h;·exact fT b k (lu h)
       ·exact λj' hj _ hf=>h ⟨j',hj,hf⟩
      ·exact fT b k h
     refine⟨⟨λj hj=>?_,λj hj b k hf=>?_⟩,λb k hf=>?_,sg⟩
     ·obtain⟨a1,a4⟩:=h3 j hj;unfold b8;by_cases hij:j=q.2;·subst hij;simp only[cN];rw[hst] at a1;exact⟨i3.gj a1,i1⟩
      ·simp only[aE hij];refine⟨a1,gJ hM _ (fM hE hZ _ (FA _ (λb k hf=>⟨j,hj,hf⟩) λb k hf jN=>?_) a4)⟩;exact fT b k jN j hj (λe=>hij e.symm) hf
     ·unfold b8 at hf⊢;by_cases hij:j=q.2;·subst hij;simp only[cN] at hf;intro j' hj' hne;rw[aE (λh=>hne h.symm)];exact lF b k hf j' hj' hne
      ·simp only[aE hij] at hf;intro j' hj' hne;by_cases hij':j'=q.2;·subst hij';simp only[cN];intro hf';exact lF b k hf' j hj (λe=>hij e.symm) hf
       ·rw[aE hij'];exact h4 j hj b k hf j' hj' hne
     ·obtain⟨j,hj,hf⟩:=hf;unfold b8 at hf;by_cases hij:j=q.2
      ·subst hij;simp only[cN] at hf;rcases i2 b k hf with h|⟨h,hn⟩;·exact .inl h
       ·exact .inr ⟨⟨_,hj,by rw[hst];exact h⟩,hn⟩
      ·simp only[aE hij] at hf;exact .inr ⟨⟨j,hj,hf⟩,λhd=>fT b k (lu hd) j hj (λe=>hij e.symm) hf⟩
    ·cases hst
   |_=>simp[step] at hst
end C
end M
namespace M
open Go Go.RowKit
namespace X
def xP(r:Nat)(p:Path){α:Type}(f:α->X):∀l:List α,hO r p (l.map f)=l.map λa=>(f a).kill r p
 |[]=>rfl
 |a::l=>by simp only[bE,hO,xP r p f l]
def CB(ks:List Nat){α:Type}(f:α->X):∀l:List α,oS ks (l.map f)=l.map λa=>(f a).only ks
 |[]=>rfl
 |a::l=>by simp only[bE,oS,CB ks f l]
end X
namespace C
variable {w w':World}{Z Z':Md->Nat->Nat->Prop}{S:Nat->Nat->Prop}
def aB(t:Nat->Path->Bool):C->C
 |.ref v s q=>bif t s q then .dead v else .ref v s q
 |.az v s q i c=>bif t s q then .dead v else .az v s q i c
 |.cut v s q lo hi=>bif t s q then .dead v else .cut v s q lo hi
 |.ptr m g o n c=>.ptr m g o n λj=>(c j).aB t
 |.agg n c=>.agg n λj=>(c j).aB t
 |.av n c=>.av n λj=>(c j).aB t
 |.fn f n c=>.fn f n λj=>(c j).aB t
 |c=>c
def bO(r:Nat)(p:Path):Nat->Path->Bool:=λs q=>s==r && X.pfx p q
def others(ks:List Nat):Nat->Path->Bool:=λs _=> !ks.contains s
def oK(r:Nat)(p:Path):∀c:C,(c.aB (bO r p)).er=c.er.kill r p
 |.ref v s q=>by simp only[aB,er,X.kill,bO];cases s==r && X.pfx p q<;>rfl
 |.az v s q i c=>by simp only[aB,er,X.kill,bO];cases s==r && X.pfx p q<;>rfl
 |.cut v s q i c=>by simp only[aB,er,X.kill,bO];cases s==r && X.pfx p q<;>rfl
 |.ptr m g o n c=>by simp only[aB,er,X.kill,X.xP];congr 1;exact cm λj _=>oK r p (c j)
 |.agg n c=>by simp only[aB,er,X.kill,X.xP];congr 1;exact cm λj _=>oK r p (c j)
 |.av n c=>by simp only[aB,er,X.kill,X.xP];congr 1;exact cm λj _=>oK r p (c j)
 |.fn f n c=>by simp only[aB,er,X.kill,X.xP];congr 1;exact cm λj _=>oK r p (c j)
 |.dead _=>by simp only[aB,er,X.kill]
 |.int _ _=>by simp only[aB,er,X.kill]
 |.bool _=>by simp only[aB,er,X.kill]
 |.str _=>by simp only[aB,er,X.kill]
 |.row _ _ _ _ _ _=>by simp only[aB,er,X.kill]
def CC(ks:List Nat):∀c:C,(c.aB (others ks)).er=c.er.only ks
 |.ref v s q=>by simp only[aB,er,X.only,others];cases ks.contains s<;>rfl
 |.az v s q i c=>by simp only[aB,er,X.only,others];cases ks.contains s<;>rfl
 |.cut v s q i c=>by simp only[aB,er,X.only,others];cases ks.contains s<;>rfl
 |.ptr m g o n c=>by simp only[aB,er,X.only,X.CB];congr 1;exact cm λj _=>CC ks (c j)
 |.agg n c=>by simp only[aB,er,X.only,X.CB];congr 1;exact cm λj _=>CC ks (c j)
 |.av n c=>by simp only[aB,er,X.only,X.CB];congr 1;exact cm λj _=>CC ks (c j)
 |.fn f n c=>by simp only[aB,er,X.only,X.CB];congr 1;exact cm λj _=>CC ks (c j)
 |.dead _=>by simp only[aB,er,X.only]
 |.int _ _=>by simp only[aB,er,X.only]
 |.bool _=>by simp only[aB,er,X.only]
 |.str _=>by simp only[aB,er,X.only]
 |.row _ _ _ _ _ _=>by simp only[aB,er,X.only]
section
variable (t:Nat->Path->Bool)
def jw:∀c:C,(c.aB t).val=c.val
 |.ref v s q=>by simp only[aB];cases t s q<;>rfl
 |.az v s q i c=>by simp only[aB];cases t s q<;>rfl
 |.cut v s q i c=>by simp only[aB];cases t s q<;>rfl
 |.ptr m g o n c=>rfl
 |.agg n c=>by simp only[aB,val];congr 2;exact cm λj _=>jw (c j)
 |.av n c=>by simp only[aB,val];congr 2;exact cm λj _=>jw (c j)
 |.fn f n c=>by simp only[aB,val];congr 2;exact cm λj _=>jw (c j)
 |.dead _=>rfl
 |.int _ _=>rfl
 |.bool _=>rfl
 |.str _=>rfl
 |.row _ _ _ _ _ _=>rfl
def cR:∀(c:C) (b k:Nat),(c.aB t).fp b k↔c.fp b k
 |.ref v s q,b,k=>by simp only[aB];cases t s q<;>exact ku
 |.az v s q i c,b,k=>by simp only[aB];cases t s q<;>exact ku
 |.cut v s q i c,b,k=>by simp only[aB];cases t s q<;>exact ku
 |.ptr m g o n c,b,k=>JL λ_=>or_congr_right (Po λj=>JL λ_=>cR (c j) b k)
 |.agg n c,b,k=>Po λj=>JL λ_=>cR (c j) b k
 |.av n c,b,k=>Po λj=>JL λ_=>cR (c j) b k
 |.fn f n c,b,k=>ku
 |.dead _,_,_=>ku
 |.int _ _,_,_=>ku
 |.bool _,_,_=>ku
 |.str _,_,_=>ku
 |.row _ _ _ _ _ _,_,_=>ku
def HQ(c:C)(h:c.cell):(c.aB t).cell:=by
 cases c with
 |ref v s q=>simp only[aB];cases t s q<;>exact h
 |az v s q i c=>simp only[aB];cases t s q<;>exact h
 |cut v s q i c=>simp only[aB];cases t s q<;>exact h
 |agg=>exact h.elim
 |av=>exact h.elim
 |_=>exact h
def ajG(c:C)(h:c.gj):(c.aB t).gj:=by
 cases c with
 |ref v s q=>simp only[aB];cases t s q<;>exact h
 |az v s q i c=>simp only[aB];cases t s q<;>exact h
 |cut v s q i c=>simp only[aB];cases t s q<;>exact h
 |av=>exact h.elim
 |_=>exact h
def ajF(m:Md)(c:C)(h:c.fits m):(c.aB t).fits m:=by
 cases c with
 |ref v s q=>simp only[aB];cases t s q<;>trivial
 |az v s q i c=>simp only[aB];cases t s q<;>trivial
 |cut v s q i c=>simp only[aB];cases t s q<;>trivial
 |_=>exact h
def yz(c:C)(h:c.cZ):c.aB t=c:=by
 cases c with
 |ref v s q=>exact h.elim
 |az v s q i c=>exact h.elim
 |cut v s q i c=>exact h.elim
 |ptr=>exact h.elim
 |agg=>exact h.elim
 |av=>exact h.elim
 |fn=>exact h.elim
 |_=>rfl
def mL:∀c:C,c.ok w Z->(c.aB t).ok w Z
 |.ref v s q,h=>by simp only[aB];cases t s q<;>trivial
 |.az v s q i c,h=>by simp only[aB];cases t s q<;>trivial
 |.cut v s q i c,h=>by simp only[aB];cases t s q<;>trivial
 |.ptr m g o n c,h=>by
  obtain⟨h1,h2,h3,h4⟩:=h;refine⟨λj hj=>?_,h2,λj hj=>⟨HQ t _ (h3 j hj).1,ajF t _ _ (h3 j hj).2.1,mL (c j) (h3 j hj).2.2⟩,λj hj b k hf=>?_⟩;·rw[jw];exact h1 j hj
  ·rw[cR] at hf;exact⟨(h4 j hj b k hf).1,λj' hj' hne=>by rw[cR];exact(h4 j hj b k hf).2 j' hj' hne⟩
 |.agg n c,h=>⟨λj hj=>⟨HQ t _ (h.1 j hj).1,mL (c j) (h.1 j hj).2⟩,λj hj b k hf j' hj' hne=>by rw[cR] at hf⊢;exact h.2 j hj b k hf j' hj' hne⟩
 |.av n c,h=>⟨λj hj=>⟨ajG t _ (h.1 j hj).1,mL (c j) (h.1 j hj).2⟩,λj hj b k hf j' hj' hne=>by rw[cR] at hf⊢;exact h.2 j hj b k hf j' hj' hne⟩
 |.fn f n c,h=>λj hj=>⟨mL (c j) (h j hj).1,λb k hf=>by rw[cR] at hf;exact(h j hj).2 b k hf⟩
 |.dead _,h=>h
 |.int _ _,h=>h
 |.bool _,h=>h
 |.str _,h=>h
 |.row _ _ _ _ _ _,h=>h
def jv:∀(q:Path) (c y:C),c.ok w Z->c.sub q=some y->(c.aB t).sub q=some (y.aB t)
 |[],c,y,ho,h=>by simp only[sub] at h⊢;injection h with h;rw[h]
 |q::p,c,y,ho,h=>by
  simp only[sub] at h⊢;cases hs:c.step q with
  |none=>rw[hs] at h;cases h
  |some z=>
   rw[hs] at h;have hz:(z.aB t).sub p=some (y.aB t):=jv p z y (vK hs ho) h;suffices hst:(c.aB t).step q=some (z.aB t) by rw[hst];exact hz
   cases c with
   |row m sz A len cap e=>
    simp only[step] at hs;split at hs
    ·rename_i hq;injection hs with hs
     have:=yz t z (by rw[<-hs];exact(ho.2.2.1 _ _ hq.1 hq.2).2.1);simp only[aB,step,aA hq,hs,this]
    ·cases hs
   |ptr m g o n c=>
    simp only[step] at hs;split at hs
    ·rename_i hq;injection hs with hs
     simp only[aB,step,aA hq,hs]
    ·cases hs
   |agg n c=>
    simp only[step] at hs;split at hs
    ·rename_i hq;injection hs with hs
     simp only[aB,step,aA hq,hs]
    ·cases hs
   |av n c=>
    simp only[step] at hs;split at hs
    ·rename_i hq;injection hs with hs
     simp only[aB,step,aA hq,hs]
    ·cases hs
   |_=>simp[step] at hs
end
inductive gx:C->C->Prop where
 |row (m m':Md) (sz:Nat) (A:Option Ad) (len cap:Nat) (e e':Nat->Nat->C):gx (.row m sz A len cap e) (.row m' sz A len cap e')
 |ptr (m m':Md) (g o n:Nat) (c c':Nat->C):gx (.ptr m g o n c) (.ptr m' g o n c')
def gx.off(t:Nat->Path->Bool){y z:C}(h:gx y z):gx y (z.aB t):=by
 cases h with
 |row=>exact .row ..
 |ptr=>exact .ptr ..
def gx.trans{x y z:C}(h:gx x y)(h':gx y z):gx x z:=by cases h<;>cases h'<;>constructor
def free(t:Nat->Path->Bool):C->Prop
 |.ref _ s q=>t s q=false
 |.az _ s q _ _=>t s q=false
 |.cut _ s q _ _=>t s q=false
 |.ptr _ _ _ n c=>∀j,j<n->(c j).free t
 |.agg n c=>∀j,j<n->(c j).free t
 |.av n c=>∀j,j<n->(c j).free t
 |.fn _ n c=>∀j,j<n->(c j).free t
 |_=>True
def gI(t:Nat->Path->Bool):∀c:C,(c.aB t).free t
 |.ref v s q=>by simp only[aB];cases h:t s q<;>simp[free,h]
 |.az v s q i c=>by simp only[aB];cases h:t s q<;>simp[free,h]
 |.cut v s q i c=>by simp only[aB];cases h:t s q<;>simp[free,h]
 |.ptr m g o n c=>λj _=>gI t (c j)
 |.agg n c=>λj _=>gI t (c j)
 |.av n c=>λj _=>gI t (c j)
 |.fn f n c=>λj _=>gI t (c j)
 |.dead _=>trivial
 |.int _ _=>trivial
 |.bool _=>trivial
 |.str _=>trivial
 |.row _ _ _ _ _ _=>trivial
def rf(G:Nat->C):C->Prop
 |.ref v s p=>∃y z,(G s).sub p=some y/\gx z y/\y.val=v/\∃m sz A len cap e,z=.row m sz A len cap e
 |.az v s p i c=>∃y,(G s).sub p=some y/\((∃m sz g o len cap e,y=.row m sz (some (g,o,none)) len cap e/\v=.pointer (some ⟨g,o+i*sz+c,none⟩))\/∃m g o n cc,y=.ptr m g o n cc/\i=0/\v=.pointer (some ⟨g,o+c,none⟩))
 |.cut v s p lo hi=>∃m sz A len cap e A' cap',(G s).sub p=some (.row m sz A len cap e)/\v=.slice (Option.map (λq:Ad=>⟨q.1,q.2.1,q.2.2⟩) A') (hi - lo) cap'/\lo<=hi/\hi<=len/\hi - lo<=cap'/\(lo<hi->A'=A.map λq=>jD (lo*sz) q)/\lo+cap'=cap/\((A'=A/\cap'=0)\/A'=A.map λq=>jD (lo*sz) q)
 |.ptr _ _ _ n c=>∀j,j<n->(c j).rf G
 |.agg n c=>∀j,j<n->(c j).rf G
 |.av n c=>∀j,j<n->(c j).rf G
 |.fn _ n c=>∀j,j<n->(c j).rf G
 |_=>True
def lS{G G':Nat->C}(t:Nat->Path->Bool)(h:∀s q y,t s q=false->(G s).sub q=some y->(∃z,gx y z/\(G' s).sub q=some z)\/∀z,¬gx z y):∀c:C,c.free t->c.rf G->c.rf G'
 |.ref v s p,hf,hr=>by
  obtain⟨y,z,hs,hF,hv,m,sz,A,len,cap,e,rfl⟩:=hr;rcases h s p y hf hs with ⟨z',fL,hs'⟩|hno;·refine⟨z',_,hs',hF.trans fL,?_,m,sz,A,len,cap,e,rfl⟩;cases hF;cases fL;exact hv
  ·exact(hno _ hF).elim
 |.az v s p i c,hf,hr=>by
  obtain⟨y,hs,hy⟩:=hr;rcases h s p y hf hs with ⟨z',fL,hs'⟩|hno
  ·refine⟨z',hs',?_⟩;rcases hy with ⟨m,sz,g,o,len,cap,e,rfl,hv⟩|⟨m,g,o,n,cc,rfl,hv⟩;·cases fL;exact .inl ⟨_,_,_,_,_,_,_,rfl,hv⟩
   ·cases fL;exact .inr ⟨_,_,_,_,_,rfl,hv⟩
  ·rcases hy with ⟨m,sz,g,o,len,cap,e,rfl,hv⟩|⟨m,g,o,n,cc,rfl,hv⟩;·exact(hno _ (.row m m sz (some (g,o,none)) len cap e e)).elim
   ·exact(hno _ (.ptr m m g o n cc cc)).elim
 |.cut v s p lo hi,hf,hr=>by
  obtain⟨m,sz,A,len,cap,e,A',cap',hs,hv⟩:=hr;rcases h s p _ hf hs with ⟨z',fL,hs'⟩|hno;·cases fL;exact⟨_,_,_,_,_,_,A',cap',hs',hv⟩
  ·exact(hno _ (.row m m sz A len cap e e)).elim
 |.ptr m g o n c,hf,hr=>λj hj=>lS t h (c j) (hf j hj) (hr j hj)
 |.agg n c,hf,hr=>λj hj=>lS t h (c j) (hf j hj) (hr j hj)
 |.av n c,hf,hr=>λj hj=>lS t h (c j) (hf j hj) (hr j hj)
 |.fn f n c,hf,hr=>λj hj=>lS t h (c j) (hf j hj) (hr j hj)
 |.dead _,_,_=>trivial
 |.int _ _,_,_=>trivial
 |.bool _,_,_=>trivial
 |.str _,_,_=>trivial
 |.row _ _ _ _ _ _,_,_=>trivial
def nS{G:Nat->C}(t:Nat->Path->Bool):∀c:C,c.rf G->(c.aB t).rf G
 |.ref v s q,h=>by simp only[aB];cases t s q<;>first|exact h|trivial
 |.az v s q i c,h=>by simp only[aB];cases t s q<;>first|exact h|trivial
 |.cut v s q i c,h=>by simp only[aB];cases t s q<;>first|exact h|trivial
 |.ptr m g o n c,h=>λj hj=>nS t (c j) (h j hj)
 |.agg n c,h=>λj hj=>nS t (c j) (h j hj)
 |.av n c,h=>λj hj=>nS t (c j) (h j hj)
 |.fn f n c,h=>λj hj=>nS t (c j) (h j hj)
 |.dead _,_=>trivial
 |.int _ _,_=>trivial
 |.bool _,_=>trivial
 |.str _,_=>trivial
 |.row _ _ _ _ _ _,_=>trivial
def self(y z:C)(t:Path)(h:z.sub t=some y):(∃z',gx y z'/\z.sub t=some z')\/∀z,¬gx z y:=by
 cases y with
 |row m sz A len cap e=>exact .inl ⟨_,.row m m sz A len cap e e,h⟩
 |ptr m g o n c=>exact .inl ⟨_,.ptr m m g o n c c,h⟩
 |_=>exact .inr λz hz=>by cases hz
def Jd:∀(p q:Path) (c d' y:C),X.pfx p q=false->c.sub q=some y->(∃z,gx y z/\(putAt p c d').sub q=some z)\/∀z,¬gx z y
 |[],q,c,d',y,h,hs=>by simp[X.pfx] at h
 |r::p,[],c,d',y,h,hs=>by
  simp only[sub] at hs;injection hs with hs
  subst hs;simp only[putAt,sub];cases hst:c.step r with
  |none=>
   cases c with
   |row m sz A len cap e=>exact .inl ⟨_,.row m m sz A len cap e _,rfl⟩
   |ptr m g o n c=>exact .inl ⟨_,.ptr m m g o n c _,rfl⟩
   |_=>exact .inr λz hz=>by cases hz
  |some z=>
   cases c with
   |row m sz A len cap e=>exact .inl ⟨_,.row m m sz A len cap e _,rfl⟩
   |ptr m g o n c=>exact .inl ⟨_,.ptr m m g o n c _,rfl⟩
   |_=>exact .inr λz hz=>by cases hz
 |r::p,q::t,c,d',y,h,hs=>by
  simp only[sub] at hs⊢;cases cK:c.step q with
  |none=>rw[cK] at hs;cases hs
  |some z=>
   rw[cK] at hs;have hs':z.sub t=some y:=hs;simp only[putAt];cases lC:c.step r with
   |none=>simp only[cK];exact self y z t hs'
   |some z0=>
    simp only;by_cases FN:r.1=q.1/\r.2=q.2
    ·have ahY:r=q:=by cases r;cases q;simp only at FN;rw[FN.1,FN.2]
     subst ahY;rw[cK] at lC;injection lC with lC
     subst lC;have hp:X.pfx p t=false:=by simpa [X.pfx] using h
     have:(c.bp r (putAt p z d')).step r=some (putAt p z d'):=by
      cases c with
      |row m sz A len cap e=>
       simp only[step] at cK;split at cK;·rename_i hq;simp[bp,step,hq]
       ·cases cK
      |ptr m g o n c=>
       simp only[step] at cK;split at cK;·rename_i hq;simp[bp,step,hq,b8]
       ·cases cK
      |agg n c=>
       simp only[step] at cK;split at cK;·rename_i hq;simp[bp,step,hq,b8]
       ·cases cK
      |av n c=>
       simp only[step] at cK;split at cK;·rename_i hq;simp[bp,step,hq,b8]
       ·cases cK
      |_=>simp[step] at cK
     rw[this];exact Jd p t z d' y hp hs'
    ·by_cases h2:r.2=q.2
     ·have h1:r.1≠q.1:=λe=>FN ⟨e,h2⟩;cases c with
      |row m sz A len cap e=>
       simp only[step] at cK;split at cK
       ·rename_i hq;have:((C.row m sz A len cap e).bp r (putAt p z0 d')).step q=some z:=by simp only[bp,step,aA hq];rw[aE (λe=>h1 e.1.symm)];exact cK
        rw[this];exact self y z t hs'
       ·cases cK
      |ptr m g o n c=>
       simp only[step] at cK lC;split at cK
       ·split at lC;·rename_i hq hr;exact(h1 (hr.1.trans hq.1.symm)).elim
        ·cases lC
       ·cases cK
      |agg n c=>
       simp only[step] at cK lC;split at cK
       ·split at lC;·rename_i hq hr;exact(h1 (hr.1.trans hq.1.symm)).elim
        ·cases lC
       ·cases cK
      |av n c=>
       simp only[step] at cK lC;split at cK
       ·split at lC;·rename_i hq hr;exact(h1 (hr.1.trans hq.1.symm)).elim
        ·cases lC
       ·cases cK
      |_=>simp[step] at cK
     ·have:(c.bp r (putAt p z0 d')).step q=some z:=by
       cases c with
       |row m sz A len cap e=>
        simp only[step] at cK;split at cK;·rename_i hq;simp only[bp,step,aA hq];rw[aE (λe=>h2 e.2.symm)];exact cK
        ·cases cK
       |ptr m g o n c=>
        simp only[step] at cK;split at cK;·rename_i hq;simp only[bp,step,aA hq,b8];rw[aE (λe=>h2 e.symm)];exact cK
        ·cases cK
       |agg n c=>
        simp only[step] at cK;split at cK;·rename_i hq;simp only[bp,step,aA hq,b8];rw[aE (λe=>h2 e.symm)];exact cK
        ·cases cK
       |av n c=>
        simp only[step] at cK;split at cK;·rename_i hq;simp only[bp,step,aA hq,b8];rw[aE (λe=>h2 e.symm)];exact cK
        ·cases cK
       |_=>simp[step] at cK
      rw[this];exact self y z t hs'
end C
end M
namespace M
open Go Go.RowKit
def Sk(r:Nat)(p:Path)(t:Nat):∀s:ah,get (sE r p s) t=(get s t).kill r p
 |[]=>rfl
 |(k,v)::s=>by
  simp only[sE,get];cases k==t with
  |true=>rfl
  |false=>exact Sk r p t s
def wZ(k:Nat)(v:X)(s:ah)(t:Nat):get ((k,v)::s) t=if t=k then v else get s t:=by
 simp only[get];by_cases h:t=k;·subst h;simp
 ·have:(k==t)=false:=by simpa using λe=>h e.symm
  rw[this,aE h];rfl
structure Inv (w:World) (zl zb:Nat->Nat->Prop) (G:Nat->C) (s:ah):Prop where
 er:∀t,(G t).er=get s t
 ok:∀t,(G t).ok w (Zf zl zb)
 sep:∀t u,t≠u->∀b k,(G t).fp b k->¬(G u).fp b k
 fz:∀t b k,(G t).fp b k->¬zl b k/\¬zb b k
 rf:∀t,(G t).rf G
 cL:∀b k,zl b k\/zb b k->b<w.heap.size
def J4{zl zb:Nat->Nat->Prop}{n:Nat}(h:∀b k,zl b k\/zb b k->b<n):∀m b k,Zf zl zb m b k->b<n
 |.own,b,k,hz=>hz.elim
 |.sl,b,k,hz=>h b k (.inl hz)
 |.af,b,k,hz=>h b k hz
namespace Inv
variable {w w':World}{zl zb:Nat->Nat->Prop}{G:Nat->C}{s:ah}
def zP(h:Inv w zl zb G s)(t:Nat):∀m b k,Zf zl zb m b k->¬(G t).fp b k
 |.own,b,k,hz=>hz.elim
 |.sl,b,k,hz=>λhf=>(h.fz t b k hf).1 hz
 |.af,b,k,hz=>λhf=>by
  rcases hz with hz|hz;·exact(h.fz t b k hf).1 hz
  ·exact(h.fz t b k hf).2 hz
def off(h:Inv w zl zb G s)(f:Nat->Path->Bool){s':ah}(hs:∀t,((G t).aB f).er=get s' t):Inv w zl zb (λt=>(G t).aB f) s' where
 er:=hs
 ok:=λt=>C.mL f _ (h.ok t)
 sep:=λt u hne b k hf=>by rw[C.cR] at hf⊢;exact h.sep t u hne b k hf
 fz:=λt b k hf=>by rw[C.cR] at hf;exact h.fz t b k hf
 rf:=λt=>C.lS f (λs' q y hf hs=>by
   rcases C.self y _ q hs with ⟨z,hz,AP⟩|hno;·exact .inl ⟨_,hz.off f,C.jv f q _ _ (h.ok s') AP⟩
   ·exact .inr hno) _ (C.gI f _) (C.nS f _ (h.rf t))
 cL:=h.cL
def kill(h:Inv w zl zb G s)(r:Nat)(p:Path):Inv w zl zb (λt=>(G t).aB (C.bO r p)) (sE r p s):=
 h.off _ λt=>by rw[C.oK,Sk,h.er]
def world(h:Inv w zl zb G s){S:Nat->Nat->Prop}(hE:Ext S w w')(hS:∀b k,S b k->w.heap.size<=b):Inv w' zl zb G s where
 er:=h.er
 ok:=λt=>C.fM hE (λm b k hz hs=>by have:=J4 h.cL m b k hz;have:=hS b k hs;omega) _ (λb k hf hs=>by have:=C.fK _ (h.ok t) b k hf;have:=hS b k hs;omega) (h.ok t)
 sep:=h.sep
 fz:=h.fz
 rf:=h.rf
 cL:=λb k hz=>kV (h.cL b k hz) hE.size
def zq(h:Inv w zl zb G s){d:Nat}(hd:(get s d).iW=false):∀c:C,c.rf G->c.free (C.bO d [])
 |.ref v r p,hr=>by
  obtain⟨y,z,hs,hF,_⟩:=hr;simp only[C.free,C.bO,X.pfx,Pk];by_cases e:r=d;·subst e;exact(no h hd hs (by cases hF<;>rfl)).elim
  ·simpa using e
 |.az v r p i c,hr=>by
  obtain⟨y,hs,hy⟩:=hr;simp only[C.free,C.bO,X.pfx,Pk];by_cases e:r=d;·subst e;refine(no h hd hs ?_).elim;rcases hy with ⟨m,sz,g,o,len,cap,e,rfl,hv⟩|⟨m,g,o,n,cc,rfl,hv⟩<;>rfl
  ·simpa using e
 |.cut v r p lo hi,hr=>by
  obtain⟨m,sz,A,len,cap,e,A',cap',hs,_⟩:=hr;simp only[C.free,C.bO,X.pfx,Pk];by_cases e:r=d;·subst e;exact(no h hd hs rfl).elim
  ·simpa using e
 |.ptr m g o n c,hr=>λj hj=>zq h hd (c j) (hr j hj)
 |.agg n c,hr=>λj hj=>zq h hd (c j) (hr j hj)
 |.av n c,hr=>λj hj=>zq h hd (c j) (hr j hj)
 |.fn f n c,hr=>λj hj=>zq h hd (c j) (hr j hj)
 |.dead _,_=>trivial
 |.int _ _,_=>trivial
 |.bool _,_=>trivial
 |.str _,_=>trivial
 |.row _ _ _ _ _ _,_=>trivial
where
 no {r:Nat} {p:Path} {y:C} (h:Inv w zl zb G s) (hd:(get s r).iW=false) (hs:(G r).sub p=some y) (hy:y.er.iW=true):False:=by
  rw[<-h.er] at hd
  cases p with
  |nil=>
   simp only[C.sub] at hs
   injection hs with hs
   rw[hs,hy] at hd
   cases hd
  |cons q p=>
   simp only[C.sub] at hs
   cases hc:G r with
   |row=>rw[hc] at hd;simp[C.er,X.iW] at hd
   |ptr=>rw[hc] at hd;simp[C.er,X.iW] at hd
   |agg=>rw[hc] at hd;simp[C.er,X.iW] at hd
   |av=>rw[hc] at hd;simp[C.er,X.iW] at hd
   |_=>rw[hc] at hs;simp[C.step] at hs
end Inv
def fQ(G:Nat->C)(d:Nat)(c:C):Nat->C:=λt=>if t=d then c else G t
def dL(G:Nat->C)(d:Nat)(c:C):fQ G d c d=c:=by simp[fQ]
def dz(G:Nat->C){d t:Nat}(c:C)(h:t≠d):fQ G d c t=G t:=by simp[fQ,h]
namespace Inv
variable {w w':World}{zl zb:Nat->Nat->Prop}{G:Nat->C}{s:ah}
def Uz(h:Inv w zl zb G s)(d:Nat)(c:C)(hfree:∀t,t≠d->(G t).free (C.bO d []))(hok:c.ok w (Zf zl zb))(hsep:∀t,t≠d->∀b k,c.fp b k->¬(G t).fp b k)
  (hfz:∀b k,c.fp b k->¬zl b k/\¬zb b k)(hrf:c.rf G)(jq:c.free (C.bO d [])):Inv w zl zb (fQ G d c) ((d,c.er)::s) where
 er:=λt=>by
  rw[wZ];by_cases e:t=d;·subst e;rw[dL,aA rfl]
  ·rw[dz _ _ e,aE e];exact h.er t
 ok:=λt=>by
  by_cases e:t=d;·subst e;rw[dL];exact hok
  ·rw[dz _ _ e];exact h.ok t
 sep:=λt u hne b k hf=>by
  by_cases e:t=d;·subst e;rw[dL] at hf;rw[dz _ _ (λe=>hne e.symm)];exact hsep u (λe=>hne e.symm) b k hf
  ·rw[dz _ _ e] at hf;by_cases e':u=d;·subst e';rw[dL];exact λhc=>hsep t e b k hc hf
   ·rw[dz _ _ e'];exact h.sep t u hne b k hf
 fz:=λt b k hf=>by
  by_cases e:t=d;·subst e;rw[dL] at hf;exact hfz b k hf
  ·rw[dz _ _ e] at hf;exact h.fz t b k hf
 rf:=λt=>by
  have key:∀c':C,c'.free (C.bO d [])->c'.rf G->c'.rf (fQ G d c):=λc' hf hr=>C.lS (C.bO d []) (λs' q y hk hs=>by
   have hne:s'≠d:=by intro e;subst e;simp[C.bO,X.pfx] at hk
   rw[dz _ _ hne];exact C.self y _ q hs) c' hf hr
  by_cases e:t=d;·subst e;rw[dL];exact key c jq hrf
  ·rw[dz _ _ e];exact key _ (hfree t e) (h.rf t)
 cL:=h.cL
def put(h:Inv w zl zb G s)(d:Nat)(c:C)(hok:c.ok w (Zf zl zb))(hsep:∀t,t≠d->∀b k,c.fp b k->¬(G t).fp b k)
  (hfz:∀b k,c.fp b k->¬zl b k/\¬zb b k)(hrf:c.rf G):
  ∃G',Inv w zl zb G' (M.put d c.er s)/\(G' d).val=c.val/\(∀t,t≠d->(G' t).val=(G t).val)/\(∀b k,(G' d).fp b k->c.fp b k)/\∀t,t≠d->∀b k,(G' t).fp b k->(G t).fp b k:=by
 unfold M.put;cases hr:(get s d).iW with
 |false=>refine⟨fQ G d c,h.Uz d c (λt _=>h.zq hr _ (h.rf t)) hok hsep hfz hrf (h.zq hr _ hrf),by rw[dL],λt e=>by rw[dz _ _ e],λb k hf=>by rwa [dL] at hf,λt e b k hf=>by rwa [dz _ _ e] at hf⟩
 |true=>
  have h1:=h.kill d []
  have hc:(c.aB (C.bO d [])).rf λt=>(G t).aB (C.bO d []):=C.lS (C.bO d []) (λs' q y hf hs=>by
   rcases C.self y _ q hs with ⟨z,hz,AP⟩|hno;·exact .inl ⟨_,hz.off _,C.jv _ q _ _ (h.ok s') AP⟩
   ·exact .inr hno) _ (C.gI _ _) (C.nS _ _ hrf)
  have h2:=h1.Uz d (c.aB (C.bO d [])) (λt _=>C.gI _ _) (C.mL _ _ hok) (λt e b k hf=>by rw[C.cR] at hf⊢;exact hsep t e b k hf) (λb k hf=>by rw[C.cR] at hf;exact hfz b k hf) hc (C.gI _ _);rw[C.oK] at h2;refine⟨_,h2,by rw[dL,C.jw],λt e=>by rw[dz _ _ e,C.jw],λb k hf=>by rw[dL,C.cR] at hf;exact hf,λt e b k hf=>by rw[dz _ _ e,C.cR] at hf;exact hf⟩
def I7(h:Inv w zl zb G s)(r:Nat)(p q:Path)(d d' y:C){S:Nat->Nat->Prop}(hq:C.putAt q (G r) y=C.putAt p (G r) d')(hfree:∀t,(G t).free (C.bO r q))(hE:Ext S w w')(hsub:(G r).sub p=some d)
  (hS:∀b k,S b k->d.fp b k\/w.heap.size<=b)(hok:d'.ok w' (Zf zl zb))(hl:C.iA d d')(hrf:y.rf G)(hdf:y.free (C.bO r q))
  (cx:∀b k,d'.fp b k->d.fp b k\/((∀t,¬(G t).fp b k)/\¬zl b k/\¬zb b k)):
  (Inv w' zl zb (fQ G r (C.putAt p (G r) d')) ((r,X.putAt q (get s r) y.er)::s)/\(∀t,(fQ G r (C.putAt p (G r) d') t).val=(G t).val)/\
   ∀t b k,(fQ G r (C.putAt p (G r) d') t).fp b k->(t=r/\d'.fp b k)\/(G t).fp b k)/\∀c':C,c'.free (C.bO r q)->c'.rf G->c'.rf (fQ G r (C.putAt p (G r) d')):=by
 have bu:∀{b k},d.fp b k->(G r).fp b k:=λhf=>C.gM p hsub (h.ok r) hf
 have hZ:∀m b k,Zf zl zb m b k->¬S b k:=λm b k hz hs=>by
  rcases hS b k hs with hs|hs;·exact h.zP r m b k hz (bu hs)
  ·have:=J4 h.cL m b k hz;omega
 obtain⟨i1,i2,i3⟩:=C.CA (λ_ _ _ h=>h) hE hZ p (G r) d d' (h.ok r) hsub hok hl (λb k hs=>(hS b k hs).imp id λhb hf=>by have:=C.fK _ (h.ok r) b k hf;omega) (λb k hf=>(cx b k hf).imp id λhn=>hn.1 r);have LP:∀b k,(C.putAt p (G r) d').fp b k->d'.fp b k\/(G r).fp b k:=λb k hf=>(i2 b k hf).imp id λhh=>hh.1
 have hr':∀t,t≠r->∀b k,(C.putAt p (G r) d').fp b k->¬(G t).fp b k:=λt e b k hf=>by
  rcases LP b k hf with hf|hf
  ·rcases cx b k hf with hf|hf;·exact h.sep r t (λe'=>e e'.symm) b k (bu hf)
   ·exact hf.1 t
  ·exact h.sep r t (λe'=>e e'.symm) b k hf
 have key:∀c':C,c'.free (C.bO r q)->c'.rf G->c'.rf (fQ G r (C.putAt p (G r) d')):=λc' hf hr=>C.lS (C.bO r q) (λs' q' y' hk hs=>by
  by_cases e:s'=r;·subst e;rw[dL,<-hq];exact C.Jd q q' (G s') y y' (by simpa [C.bO] using hk) hs
  ·rw[dz _ _ e];exact C.self y' _ q' hs) c' hf hr
 refine⟨⟨⟨λt=>?_,λt=>?_,λt u hne b k hf=>?_,λt b k hf=>?_,λt=>?_,λb k hz=>kV (h.cL b k hz) hE.size⟩,λt=>?_,λt b k hf=>?_⟩,key⟩
 ·rw[wZ];by_cases e:t=r;·subst e;rw[dL,aA rfl,<-hq,C.Nv,h.er]
  ·rw[dz _ _ e,aE e];exact h.er t
 ·by_cases e:t=r;·subst e;rw[dL];exact i1
  ·rw[dz _ _ e];refine C.fM hE hZ _ (λb k hf hs=>?_) (h.ok t);rcases hS b k hs with hs|hs;·exact h.sep t r e b k hf (bu hs)
   ·have:=C.fK _ (h.ok t) b k hf;omega
 ·by_cases e:t=r;·subst e;rw[dL] at hf;rw[dz _ _ (λe=>hne e.symm)];exact hr' u (λe=>hne e.symm) b k hf
  ·rw[dz _ _ e] at hf;by_cases e':u=r;·subst e';rw[dL];exact λhc=>hr' t e b k hc hf
   ·rw[dz _ _ e'];exact h.sep t u hne b k hf
 ·by_cases e:t=r
  ·subst e;rw[dL] at hf;rcases LP b k hf with hf|hf
   ·rcases cx b k hf with hf|hf;·exact h.fz t b k (bu hf)
    ·exact hf.2
   ·exact h.fz t b k hf
  ·rw[dz _ _ e] at hf;exact h.fz t b k hf
 ·by_cases e:t=r
  ·subst e;rw[dL]
   have inner:∀(p':Path) (c':C),c'.free (C.bO t q)->c'.rf G->(C.putAt p' c' y).rf (fQ G t (C.putAt p (G t) d')):=by
    intro p';induction p' with
    |nil=>intro c' _ _;exact key y hdf hrf
    |cons x p' ih=>
     intro c' jq jr;simp only[C.putAt];cases hst:c'.step x with
     |none=>exact key c' jq jr
     |some z=>
      cases c' with
      |row m sz A len cap e=>trivial
      |ptr m g o n c=>
       simp only[C.step] at hst;split at hst
       ·rename_i hq;injection hst with hst
        intro j hj;simp only[C.b8];split;·exact ih z (by rw[<-hst];exact jq _ hq.2) (by rw[<-hst];exact jr _ hq.2)
        ·exact key _ (jq j hj) (jr j hj)
       ·cases hst
      |agg n c=>
       simp only[C.step] at hst;split at hst
       ·rename_i hq;injection hst with hst
        intro j hj;simp only[C.b8];split;·exact ih z (by rw[<-hst];exact jq _ hq.2) (by rw[<-hst];exact jr _ hq.2)
        ·exact key _ (jq j hj) (jr j hj)
       ·cases hst
      |av n c=>
       simp only[C.step] at hst;split at hst
       ·rename_i hq;injection hst with hst
        intro j hj;simp only[C.b8];split;·exact ih z (by rw[<-hst];exact jq _ hq.2) (by rw[<-hst];exact jr _ hq.2)
        ·exact key _ (jq j hj) (jr j hj)
       ·cases hst
      |_=>simp[C.step] at hst
   rw[<-hq] at*;exact inner q (G t) (hfree t) (h.rf t)
  ·rw[dz _ _ e];exact key _ (hfree t) (h.rf t)
 ·by_cases e:t=r;·subst e;rw[dL];exact i3.val
  ·rw[dz _ _ e]
 ·by_cases e:t=r;·subst e;rw[dL] at hf;exact(LP b k hf).imp (λhh=>⟨rfl,hh⟩) id
  ·rw[dz _ _ e] at hf;exact .inr hf
def U6(h:Inv w zl zb G s)(r:Nat)(p:Path)(d d':C){S:Nat->Nat->Prop}(hfree:∀t,(G t).free (C.bO r p))(hE:Ext S w w')(hsub:(G r).sub p=some d)
  (hS:∀b k,S b k->d.fp b k\/w.heap.size<=b)(hok:d'.ok w' (Zf zl zb))(hl:C.iA d d')(hrf:d'.rf G)(hdf:d'.free (C.bO r p))
  (cx:∀b k,d'.fp b k->d.fp b k\/((∀t,¬(G t).fp b k)/\¬zl b k/\¬zb b k)):
  (Inv w' zl zb (fQ G r (C.putAt p (G r) d')) ((r,X.putAt p (get s r) d'.er)::s)/\(∀t,(fQ G r (C.putAt p (G r) d') t).val=(G t).val)/\
   ∀t b k,(fQ G r (C.putAt p (G r) d') t).fp b k->(t=r/\d'.fp b k)\/(G t).fp b k)/\∀c':C,c'.free (C.bO r p)->c'.rf G->c'.rf (fQ G r (C.putAt p (G r) d')):=
 h.I7 r p p d d' d' rfl hfree hE hsub hS hok hl hrf hdf cx
def rF{c:C}(h:c.cell):c.val.oneCell'=true:=by
 cases c with
 |agg=>exact h.elim
 |av=>exact h.elim
 |dead=>exact h
 |ref=>exact h
 |az=>exact h
 |cut=>exact h
 |_=>rfl
def Hy(d:C):C.iA d (.dead d.val) where
 val:=rfl
 cell:=λh=>rF h
 gj:=λ_=>trivial
 cZ:=λ_=>trivial
 fits:=λ_ _=>trivial
def vL(h:Inv w zl zb G s)(r:Nat)(p:Path)(y:C)(hsub:(G r).sub p=some y):
  ∃(c:C) (G':Nat->C),c.er=y.er.kill r p/\c.val=y.val/\Inv w zl zb G' (iX r p .dead s)/\c.ok w (Zf zl zb)/\c.rf G'/\(c.cell↔y.cell)/\(y.cZ->c=y)/\(∀t b k,c.fp b k->¬(G' t).fp b k)/\(∀b k,c.fp b k->(G r).fp b k)/\
   (∀t,(G' t).val=(G t).val)/\(∀t b k,(G' t).fp b k->(G t).fp b k)/\∀b k,c.fp b k↔y.fp b k:=by
 have h1:=h.kill r p;have hs1:((G r).aB (C.bO r p)).sub p=some (y.aB (C.bO r p)):=C.jv _ p _ _ (h.ok r) hsub;have qb:=C.iy p hsub (h.ok r);obtain⟨⟨i1,i2,i3⟩,_⟩:=h1.U6 r p (y.aB (C.bO r p)) (.dead (y.aB (C.bO r p)).val) (S:=λ_ _=>False) (λt=>C.gI _ _) (Ext.refl _ _) hs1 (λ_ _ hf=>hf.elim) trivial (Hy _) trivial trivial (λ_ _ hf=>hf.elim);have ahU:y.rf G:=DH p (h.ok r) hsub (h.rf r);refine⟨y.aB (C.bO r p),_,C.oK r p y,C.jw _ y,i1,C.mL _ _ qb,?_,?_,λhs=>C.yz _ _ hs,?_,?_,λt=>(i2 t).trans (C.jw _ _),λt b k hf=>?_,λb k=>C.cR _ y b k⟩
 ·refine C.lS (C.bO r p) (λs' q z hk hs=>?_) _ (C.gI _ _) (C.nS _ _ ahU);by_cases e:s'=r
  ·subst e;rw[dL];rcases C.self z _ q hs with ⟨z',fL,hs'⟩|hno
   ·have hs2:=C.jv (C.bO s' p) q _ _ (h.ok s') hs';rcases C.Jd p q _ (.dead (y.aB (C.bO s' p)).val) _ (by simpa [C.bO] using hk) hs2 with ⟨z'',ah6,AP⟩|hno;·exact .inl ⟨z'',(fL.off _).trans ah6,AP⟩
    ·exact(hno _ ((fL.off _))).elim
   ·exact .inr hno
  ·rw[dz _ _ e];rcases C.self z _ q hs with ⟨z',fL,hs'⟩|hno;·exact .inl ⟨_,fL.off _,C.jv _ q _ _ (h.ok s') hs'⟩
   ·exact .inr hno
 ·cases y with
  |ref v s q=>simp only[C.aB];cases C.bO r p s q<;>exact ku
  |az v s q i c=>simp only[C.aB];cases C.bO r p s q<;>exact ku
  |cut v s q i c=>simp only[C.aB];cases C.bO r p s q<;>exact ku
  |_=>exact ku
 ·intro t b k hf hf';rw[C.cR] at hf;have L6:=C.gM p hsub (h.ok r) hf;have hG':Inv w zl zb (fQ (λt=>(G t).aB (C.bO r p)) r (C.putAt p ((G r).aB (C.bO r p)) (.dead (y.aB (C.bO r p)).val))) (iX r p .dead s):=i1;by_cases e:t=r
  ·subst e;rw[dL] at hf';obtain⟨_,j2,_⟩:=C.CA (λ_ _ _ h=>h) (Ext.refl (λ_ _=>False) w) (λm b k _ hs=>hs) p ((G t).aB (C.bO t p)) _ (.dead (y.aB (C.bO t p)).val) (h1.ok t) hs1 trivial (Hy _) (λ_ _ hs=>hs.elim) (λ_ _ hs=>hs.elim);rcases j2 b k hf' with hh|⟨_,hn⟩;·exact hh
   ·exact hn (by rw[C.cR];exact hf)
  ·rw[dz _ _ e,C.cR] at hf';exact h.sep r t (λe'=>e e'.symm) b k L6 hf'
 ·intro b k hf;rw[C.cR] at hf;exact C.gM p hsub (h.ok r) hf
 ·rcases i3 t b k hf with ⟨_,hh⟩|hh;·exact hh.elim
  ·rwa [C.cR] at hh
where
 DH:∀(p:Path) {c d:C},c.ok w (Zf zl zb)->c.sub p=some d->c.rf G->d.rf G
  |[],c,d,_,h,hr=>by simp only[C.sub] at h;injection h with h;subst h;exact hr
  |q::p,c,d,ho,h,hr=>by
   simp only[C.sub] at h
   cases hs:c.step q with
   |none=>rw[hs] at h;cases h
   |some z=>
    rw[hs] at h
    refine DH p (C.vK hs ho) h ?_
    cases c with
    |row m sz A len cap e=>
     simp only[C.step] at hs
     split at hs
     ·rename_i hq
      injection hs with hs
      have:=(ho.2.2.1 _ _ hq.1 hq.2).2.1
      rw[hs] at this
      cases z with
      |ref=>exact this.elim
      |az=>exact this.elim
      |cut=>exact this.elim
      |ptr=>exact this.elim
      |agg=>exact this.elim
      |av=>exact this.elim
      |fn=>exact this.elim
      |_=>trivial
     ·cases hs
    |ptr m g o n c=>
     simp only[C.step] at hs
     split at hs
     ·rename_i hq
      injection hs with hs
      rw[<-hs]
      exact hr _ hq.2
     ·cases hs
    |agg n c=>
     simp only[C.step] at hs
     split at hs
     ·rename_i hq
      injection hs with hs
      rw[<-hs]
      exact hr _ hq.2
     ·cases hs
    |av n c=>
     simp only[C.step] at hs
     split at hs
     ·rename_i hq
      injection hs with hs
      rw[<-hs]
      exact hr _ hq.2
     ·cases hs
    |_=>simp[C.step] at hs
end Inv
end M
namespace M
open Go Go.RowKit
def Ext.setCell(w:World)(g k:Nat)(v:Value):Ext (λb i=>b=g/\i=k) w (w.setCell ⟨g,k,none⟩ v):=by
 refine⟨rfl,rfl,rfl,by simp[World.setCell],λb hb=>?_⟩;simp only[World.setCell,Wz];by_cases e:g=b
 ·subst e;rw[aA rfl];cases hh:w.heap[g]? with
  |none=>exact .inl rfl
  |some o=>
   cases o with
   |cells arr t fz=>
    refine .inr ⟨arr,arr.setIfInBounds k v,t,fz,rfl,?_,by simp,λi hi=>?_⟩;·simp
    ·rw[PI];intro e;exact hi ⟨rfl,e.symm⟩
   |_=>exact .inl (by simp)
 ·rw[aE e];exact .inl rfl
def Q2(w:World)(g k:Nat)(v u:Value)(h:w.cell? ⟨g,k,none⟩=some u):(w.setCell ⟨g,k,none⟩ v).cell? ⟨g,k,none⟩=some v:=by
 simp only[World.cell?] at h⊢;simp only[World.setCell,Wz,aA];cases hh:w.heap[g]? with
 |none=>simp[hh] at h
 |some o=>
  cases o with
  |cells arr t fz=>
   simp[hh] at h⊢
   have hk:k<arr.size:=by
    rcases iL k arr.size with h'|h';·exact h'
    ·simp[l9 h'] at h
   simp[hk]
  |_=>simp[hh] at h
def Nr{sz i j i' j':Nat}(hj:j<sz)(hj':j'<sz)(h:i*sz+j=i'*sz+j'):i=i'/\j=j':=by
 have h1:i=i':=by
  have e1:(i*sz+j) / sz=i:=by rw[qT,Nat.mul_add_div (by omega),Nat.div_eq_of_lt hj];rfl
  have e2:(i'*sz+j') / sz=i':=by rw[qT,Nat.mul_add_div (by omega),Nat.div_eq_of_lt hj'];rfl
  rw[<-e1,<-e2,h]
 subst h1;exact⟨rfl,by omega⟩
def Nq:∀(p q:Path),X.pfx p q=true->∃t,q=p++t
 |[],q,_=>⟨q,rfl⟩
 |x::p,[],h=>by simp[X.pfx] at h
 |x::p,y::q,h=>by simp only[X.pfx,aC,eH] at h;obtain⟨⟨h1,h2⟩,h3⟩:=h;obtain⟨t,rfl⟩:=Nq p q h3;exact⟨t,by rw[dG];congr 1;cases x;cases y;simp only at h1 h2;rw[h1,h2]⟩
namespace C
variable {w:World}{Z:Md->Nat->Nat->Prop}
def CH:∀(p:Path) {c d o y:C} {x:Nat×Nat},c.sub p=some d->d.step x=some o->putAt (p++[x]) c y=putAt p c (d.bp x y)
 |[],c,d,o,y,x,h,hs=>by
  simp only[sub] at h;injection h with h
  subst h;simp[putAt,hs]
 |q::p,c,d,o,y,x,h,hs=>by
  simp only[sub] at h;cases hst:c.step q with
  |none=>rw[hst] at h;cases h
  |some z=>rw[hst] at h;simp only[dG,putAt,hst,CH p h hs]
def tu:∀(p:Path) {c d o:C} {x:Nat×Nat},c.sub p=some d->d.step x=some o->c.sub (p++[x])=some o
 |[],c,d,o,x,h,hs=>by
  simp only[sub] at h;injection h with h
  subst h;simp[sub,hs]
 |q::p,c,d,o,x,h,hs=>by
  simp only[sub] at h;cases hst:c.step q with
  |none=>rw[hst] at h;cases h
  |some z=>rw[hst] at h;simp only[dG,sub,hst,gw];exact tu p h hs
def Jc:∀(p q:Path) {c d:C},c.sub p=some d->c.sub (p++q)=d.sub q
 |[],q,c,d,h=>by simp only[sub] at h;injection h with h;subst h;rfl
 |x::p,q,c,d,h=>by
  simp only[sub] at h;cases hst:c.step x with
  |none=>rw[hst] at h;cases h
  |some z=>rw[hst] at h;simp only[dG,sub,hst,gw];exact Jc p q h
def alk{c z:C}{x:Nat×Nat}(h:c.step x=some z)(y:C):(c.bp x y).step x=some y:=by
 cases c with
 |row m sz A len cap e=>
  simp only[step] at h⊢;split at h;·rename_i hq;simp[bp,step,hq]
  ·cases h
 |ptr m g o n c=>
  simp only[step] at h⊢;split at h;·rename_i hq;simp[bp,step,hq,b8]
  ·cases h
 |agg n c=>
  simp only[step] at h⊢;split at h;·rename_i hq;simp[bp,step,hq,b8]
  ·cases h
 |av n c=>
  simp only[step] at h⊢;split at h;·rename_i hq;simp[bp,step,hq,b8]
  ·cases h
 |_=>simp[step] at h
def Je:∀(p:Path) {c d d':C},c.sub p=some d->(putAt p c d').sub p=some d'
 |[],c,d,d',h=>rfl
 |q::p,c,d,d',h=>by
  simp only[sub] at h;cases hst:c.step q with
  |none=>rw[hst] at h;cases h
  |some z=>rw[hst] at h;simp only[putAt,hst,sub,alk hst,gw];exact Je p h
def UP{sz g o len cap:Nat}{e:Nat->Nat->C}{i j:Nat}{y:C}(h:(C.row .own sz (some (g,o,none)) len cap e).ok w Z)(hi:i<len)(hj:j<sz)(hy:y.ok w Z)(hc:y.cell)(hs:y.cZ)
  (hZ:∀m k,¬Z m g k)(hd:∀b k,y.fp b k->¬(C.row .own sz (some (g,o,none)) len cap e).fp b k):
  ((C.row .own sz (some (g,o,none)) len cap e).bp (i,j) y).ok (w.setCell ⟨g,o+i*sz+j,none⟩ y.val) Z/\
   ∀b k,((C.row .own sz (some (g,o,none)) len cap e).bp (i,j) y).fp b k->(C.row .own sz (some (g,o,none)) len cap e).fp b k\/y.fp b k:=by
 have hE:=Ext.setCell w g (o+i*sz+j) y.val;have AA:∀m b k,Z m b k->¬(b=g/\k=o+i*sz+j):=λm b k hz hh=>by obtain⟨rfl,_⟩:=hh;exact hZ m k hz
 have kK:∀i' j',i'<len->j'<sz->∀b k,(e i' j').fp b k->b≠g:=λi' j' hi' hj' b k hf hb=>by subst hb;exact(h.2.2.2.2 i' j' hi' hj' b k hf).1 rfl o rfl
 have AZ:∀b k,y.fp b k->b≠g:=λb k hf hb=>by subst hb;exact hd b k hf ⟨rfl,.inl ⟨o,rfl⟩⟩
 obtain⟨h1,h2,h3,h4,h5⟩:=h;refine⟨⟨h1,λi' j' hi' hj'=>?_,λi' j' hi' hj'=>?_,λ_=>?_,λi' j' hi' hj' b k hf=>?_⟩,λb k hf=>?_⟩
 ·obtain⟨g',o',hA,hcell,hz⟩:=h2 i' j' hi' hj';injection hA with hA
  injection hA with e1 e2
  injection e2 with e2
  subst e1;subst e2;refine⟨g,o,rfl,?_,hz⟩;show _=some (if i'=i/\j'=j then y else e i' j').val;by_cases hij:i'=i/\j'=j;·obtain⟨rfl,rfl⟩:=hij;rw[aA ⟨rfl,rfl⟩];exact Q2 w g _ _ _ hcell
  ·rw[aE hij];refine hE.cell (λhh=>hij ?_) hcell;exact Nr hj' hj (by omega)
 ·show (if i'=i/\j'=j then y else e i' j').cell/\(if i'=i/\j'=j then y else e i' j').cZ/\(if i'=i/\j'=j then y else e i' j').fits .own/\(if i'=i/\j'=j then y else e i' j').ok _ Z;by_cases hij:i'=i/\j'=j;·rw[aA hij];refine⟨hc,hs,?_,fM hE AA _ (λb k hf hh=>AZ b k hf hh.1) hy⟩;cases y<;>first|trivial|exact .inl rfl
  ·rw[aE hij];obtain⟨a1,a2,a3,a4⟩:=h3 i' j' hi' hj';exact⟨a1,a2,a3,fM hE AA _ (λb k hf hh=>kK i' j' hi' hj' b k hf hh.1) a4⟩
 ·rcases h4 rfl with h|⟨g',o',arr,t,fz,hA,hh,hsz,hfr⟩;·exact .inl h
  ·injection hA with hA
   injection hA with e1 e2
   injection e2 with e2
   subst e1;subst e2;have hg:g<w.heap.size:=(kz.1 hh).1;rcases hE.block g hg with e'|⟨a1,a2,t',mA,e1,e2,e3,e4⟩;·exact .inr ⟨g,o,arr,t,fz,rfl,e'.trans hh,hsz,λk hk hk'=>(hE.frozen hg).trans (hfr k hk hk')⟩
   ·rw[hh] at e1;injection e1 with e1
    injection e1 with q1 q2 q3
    subst q1;exact .inr ⟨g,o,a2,t',mA,rfl,e2,by omega,λk hk hk'=>(hE.frozen hg).trans (hfr k hk hk')⟩
 ·have hf':(if i'=i/\j'=j then y else e i' j').fp b k:=hf;by_cases hij:i'=i/\j'=j
  ·rw[aA hij] at hf';refine⟨λ_ o' hA=>?_,λi2 j2 hi2 hj2 hne=>?_⟩
   ·injection hA with hA
    injection hA with e1 e2
    exact AZ b k hf' e1.symm
   ·show ¬(if i2=i/\j2=j then y else e i2 j2).fp b k;rw[aE (λhh=>hne (by rw[hij.1,hij.2,hh.1,hh.2]))];intro hk;exact hd b k hf' (ke (h3 i2 j2 hi2 hj2).1 (h3 i2 j2 hi2 hj2).2.2.1 hi2 hj2 hk)
  ·rw[aE hij] at hf';refine⟨(h5 i' j' hi' hj' b k hf').1,λi2 j2 hi2 hj2 hne=>?_⟩;show ¬(if i2=i/\j2=j then y else e i2 j2).fp b k;by_cases hij2:i2=i/\j2=j;·rw[aA hij2];intro hk;exact hd b k hk (ke (h3 i' j' hi' hj').1 (h3 i' j' hi' hj').2.2.1 hi' hj' hf')
   ·rw[aE hij2];exact(h5 i' j' hi' hj' b k hf').2 i2 j2 hi2 hj2 hne
 ·obtain⟨_,hf|⟨i',j',hi',hj',hf⟩⟩:=hf;·exact .inl ⟨rfl,.inl hf⟩
  ·have hf':(if i'=i/\j'=j then y else e i' j').fp b k:=hf;by_cases hij:i'=i/\j'=j;·rw[aA hij] at hf';exact .inr hf'
   ·rw[aE hij] at hf';exact .inl (ke (h3 i' j' hi' hj').1 (h3 i' j' hi' hj').2.2.1 hi' hj' hf')
def Uy{g o n:Nat}{c:Nat->C}{j:Nat}{y:C}(h:(C.ptr .own g o n c).ok w Z)(hj:j<n)(hy:y.ok w Z)(hc:y.cell)
  (hZ:∀m k,o<=k->k<o+n->¬Z m g k)(hd:∀b k,y.fp b k->¬(C.ptr .own g o n c).fp b k):
  ((C.ptr .own g o n c).bp (0,j) y).ok (w.setCell ⟨g,o+j,none⟩ y.val) Z/\
   ∀b k,((C.ptr .own g o n c).bp (0,j) y).fp b k->(C.ptr .own g o n c).fp b k\/y.fp b k:=by
 have hE:=Ext.setCell w g (o+j) y.val;have AA:∀m b k,Z m b k->¬(b=g/\k=o+j):=λm b k hz hh=>by obtain⟨rfl,rfl⟩:=hh;exact hZ m _ (by omega) (by omega) hz
 have kK:∀j',j'<n->∀b k,(c j').fp b k->¬(b=g/\k=o+j):=λj' hj' b k hf hb=>by exact(h.2.2.2 j' hj' b k hf).1 rfl ⟨hb.1,by omega,by omega⟩
 have AZ:∀b k,y.fp b k->¬(b=g/\o<=k/\k<o+n):=λb k hf hb=>hd b k hf ⟨rfl,.inl hb⟩;obtain⟨h1,h2,h3,h4⟩:=h;refine⟨⟨λj' hj'=>?_,kV h2 hE.size,λj' hj'=>?_,λj' hj' b k hf=>?_⟩,λb k hf=>?_⟩
 ·obtain⟨a1,a2,a3⟩:=h1 j' hj';refine⟨?_,a2,λhm=>(hE.frozen h2).trans (a3 hm)⟩;simp only[b8];by_cases hij:j'=j;·subst hij;rw[aA rfl];exact Q2 w g _ _ _ a1
  ·rw[aE hij];exact hE.cell (λhh=>hij (by omega)) a1
 ·simp only[b8];by_cases hij:j'=j;·rw[aA hij];refine⟨hc,?_,fM hE AA _ (λb k hf hh=>AZ b k hf ⟨hh.1,by omega,by omega⟩) hy⟩;cases y<;>first|trivial|exact .inl rfl
  ·rw[aE hij];obtain⟨a1,a3,a4⟩:=h3 j' hj';exact⟨a1,a3,fM hE AA _ (λb k hf hh=>kK j' hj' b k hf hh) a4⟩
 ·simp only[b8] at hf⊢;by_cases hij:j'=j;·rw[aA hij] at hf;refine⟨λ_ hA=>AZ b k hf hA,λj2 hj2 hne=>?_⟩;rw[aE (λhh=>hne (by rw[hij,hh]))];intro hk;exact hd b k hf (kO (h3 j2 hj2).1 (h3 j2 hj2).2.1 hj2 hk)
  ·rw[aE hij] at hf;refine⟨λ_=>(h4 j' hj' b k hf).1 rfl,λj2 hj2 hne=>?_⟩;by_cases hij2:j2=j;·rw[aA hij2];intro hk;exact hd b k hk (kO (h3 j' hj').1 (h3 j' hj').2.1 hj' hf)
   ·rw[aE hij2];exact(h4 j' hj' b k hf).2 j2 hj2 hne
 ·obtain⟨_,hf|⟨j',hj',hf⟩⟩:=hf;·exact .inl ⟨rfl,.inl hf⟩
  ·simp only[b8] at hf;by_cases hij:j'=j;·rw[aA hij] at hf;exact .inr hf
   ·rw[aE hij] at hf;exact .inl (kO (h3 j' hj').1 (h3 j' hj').2.1 hj' hf)
end C
inductive fC (d:C) (i c:Nat) (y:C):Nat->Nat->Prop where
 |row {sz g o len cap e} (h:d=.row .own sz (some (g,o,none)) len cap e) (hi:i<len) (hc:c<sz) (hs:y.cZ):fC d i c y g (o+i*sz+c)
 |ptr {g o n f} (h:d=.ptr .own g o n f) (hi:i=0) (hc:c<n):fC d i c y g (o+c)
def fC.off(f:Nat->Path->Bool){d y:C}{i c g k:Nat}(h:fC d i c y g k):fC (d.aB f) i c y g k:=by
 cases h with
 |row h hi hc hs=>subst h;exact .row rfl hi hc hs
 |ptr h hi hc=>subst h;exact .ptr rfl hi hc
def fC.bp{d y y0 z:C}{i c g k i' c' g' k':Nat}(h:fC d i c y g k)(h':fC d i' c' y0 g' k'):fC (d.bp (i,c) z) i' c' y0 g' k':=by
 cases h' with
 |row h' hi' j8 hs'=>subst h';exact .row rfl hi' j8 hs'
 |ptr h' hi' j8=>subst h';exact .ptr rfl hi' j8
namespace Inv
variable {w w':World}{zl zb:Nat->Nat->Prop}{G:Nat->C}{s:ah}
def store(h:Inv w zl zb G s)(r:Nat)(p:Path)(i c:Nat)(d y:C)(g k:Nat)(hsub:(G r).sub p=some d)(hsp:fC d i c y g k)(hy:y.ok w (Zf zl zb))(hcell:y.cell)(hrf:y.rf G)
  (hsep:∀t b k,y.fp b k->¬(G t).fp b k)(hfz:∀b k,y.fp b k->¬zl b k/\¬zb b k):
  ∃G',Inv (w.setCell ⟨g,k,none⟩ y.val) zl zb G' (setCell r p i c y.er s)/\(∀t,(G' t).val=(G t).val)/\(∀t b k,(G' t).fp b k->y.fp b k\/(G t).fp b k)/\d.fp g k/\(∃v,w.cell? ⟨g,k,none⟩=some v)/\w.frozen? ⟨g,k,none⟩=false/\
   (∀c':C,c'.rf G->(bif oR r p i c s then c'.aB (C.bO r (p++[(i,c)])) else c').rf G')/\
   ∃d',(G' r).sub p=some d'/\∀i' c' y' g' k',fC d i' c' y' g' k'->fC d' i' c' y' g' k':=by
 have w5:=C.iy p hsub (h.ok r)
 obtain⟨old,hold⟩:∃old,d.step (i,c)=some old:=by
  cases hsp with
  |row hd hi hc hs=>subst hd;exact⟨_,aA (And.intro hi hc)⟩
  |ptr hd hi hc=>subst hd;exact⟨_,aA (And.intro hi hc)⟩
 have LS:d.fp g k:=by
  cases hsp with
  |row hd hi hc hs=>subst hd;exact⟨rfl,.inl ⟨_,rfl⟩⟩
  |ptr hd hi hc=>subst hd;exact⟨rfl,.inl ⟨rfl,by omega,by omega⟩⟩
 have bu:∀{b k},d.fp b k->(G r).fp b k:=λhf=>C.gM p hsub (h.ok r) hf;have FB:∀m b k,d.fp b k->¬Zf zl zb m b k:=λm b k hf hz=>h.zP r m b k hz (bu hf);have AX:∀b k,y.fp b k->¬d.fp b k:=λb k hf hd=>hsep r b k hf (bu hd)
 have hnew:(d.bp (i,c) y).ok (w.setCell ⟨g,k,none⟩ y.val) (Zf zl zb)/\∀b k,(d.bp (i,c) y).fp b k->d.fp b k\/y.fp b k:=by
  cases hsp with
  |row hd hi hc hs=>subst hd;exact C.UP w5 hi hc hy hcell hs (λm k hz=>FB m _ k ⟨rfl,.inl ⟨_,rfl⟩⟩ hz) AX
  |ptr hd hi hc=>subst hd;subst hi;exact C.Uy w5 hc hy hcell (λm k h1 h2 hz=>FB m _ k ⟨rfl,.inl ⟨rfl,h1,h2⟩⟩ hz) AX
 have hread:(∃v,w.cell? ⟨g,k,none⟩=some v)/\w.frozen? ⟨g,k,none⟩=false:=by
  cases hsp with
  |row hd hi hc hs=>
   rename_i sz o len cap e;subst hd;obtain⟨h1,h2,h3,h4,h5⟩:=w5;obtain⟨g',o',hA,hcl,_⟩:=h2 i c hi hc;injection hA with hA
   injection hA with e1 e2
   injection e2 with e2
   subst e1;subst e2;refine⟨⟨_,hcl⟩,?_⟩;rcases h4 rfl with ⟨hn,_⟩|⟨g',o',arr,t,fz,hA,hh,hsz,hfr⟩;·cases hn
   ·injection hA with hA
    injection hA with e1 e2
    injection e2 with e2
    subst e1;subst e2;refine hfr _ (by omega) ?_;have:(i+1)*sz<=cap*sz:=pI _ (by omega);rw[fH] at this;omega
  |ptr hd hi hc=>subst hd;obtain⟨a1,_,a3⟩:=w5.1 c hc;exact⟨⟨_,a1⟩,a3 rfl⟩
 have hE:=Ext.setCell w g k y.val;have hS:∀b i',b=g/\i'=k->d.fp b i'\/w.heap.size<=b:=λb i' hh=>.inl (by rw[hh.1,hh.2];exact LS);have hq:=C.tu p hsub hold;have ahI:look s r (p++[(i,c)])=some old.er:=by simp only[look];rw[<-h.er,C.gL,hq];rfl
 have like:∀(d:C) (y:C),C.iA d (d.bp (i,c) y)\/(∃n f,d=.agg n f)\/(∃n f,d=.av n f):=by
  intro d y;cases d with
  |row=>exact .inl ⟨rfl,λh=>h,λh=>h,λh=>h,λ_ h=>h⟩
  |ptr=>exact .inl ⟨rfl,λh=>h,λh=>h,λh=>h,λ_ h=>h⟩
  |agg n f=>exact .inr (.inl ⟨n,f,rfl⟩)
  |av n f=>exact .inr (.inr ⟨n,f,rfl⟩)
  |_=>exact .inl ⟨rfl,λh=>h,λh=>h,λh=>h,λ_ h=>h⟩
 have sg:∀y,C.iA d (d.bp (i,c) y):=by
  intro y;rcases like d y with hl|⟨n,f,hd⟩|⟨n,f,hd⟩;·exact hl
  ·cases hsp with
   |row hd'=>rw[hd] at hd';cases hd'
   |ptr hd'=>rw[hd] at hd';cases hd'
  ·cases hsp with
   |row hd'=>rw[hd] at hd';cases hd'
   |ptr hd'=>rw[hd] at hd';cases hd'
 have xb:oR r p i c s=old.er.iW:=by unfold oR;rw[ahI]
 unfold setCell;rw[xb];cases hr:old.er.iW with
 |false=>
  have hno:∀c':C,c'.rf G->c'.free (C.bO r (p++[(i,c)])):=by
   intro c'
   have none:∀(q:Path) (z:C),X.pfx (p++[(i,c)]) q=true->(G r).sub q=some z->(∀m sz A len cap e,z≠.row m sz A len cap e)/\∀m g o n f,z≠.ptr m g o n f:=by
    intro q z hp hz;obtain⟨q',rfl⟩:=Nq _ _ hp;rw[C.Jc _ _ hq] at hz;cases q' with
    |nil=>
     simp only[C.sub] at hz;injection hz with hz
     subst hz;constructor;·intro m sz A len cap e e';rw[e'] at hr;simp[C.er,X.iW] at hr
     ·intro m g o n f e';rw[e'] at hr;simp[C.er,X.iW] at hr
    |cons x q'=>cases old<;>first|(simp[C.er,X.iW] at hr;done)|(simp[C.sub,C.step] at hz;done)
   induction c' with
   |ref v r' q=>
    intro hrf;obtain⟨y,z,hs,hF,hv,m,sz,A,len,cap,e,rfl⟩:=hrf;simp only[C.free,C.bO];cases hk:(r'==r && X.pfx (p++[(i,c)]) q) with
    |false=>rfl
    |true=>simp only[aC,eH] at hk;obtain⟨rfl,hk⟩:=hk;cases hF;exact((none q _ hk hs).1 _ _ _ _ _ _ rfl).elim
   |az v r' q i' c'=>
    intro hrf;obtain⟨y,hs,hy⟩:=hrf;simp only[C.free,C.bO];cases hk:(r'==r && X.pfx (p++[(i,c)]) q) with
    |false=>rfl
    |true=>
     simp only[aC,eH] at hk;obtain⟨rfl,hk⟩:=hk;rcases hy with ⟨m,sz,g,o,len,cap,e,rfl,hv⟩|⟨m,g,o,n,cc,rfl,hv⟩;·exact((none q _ hk hs).1 _ _ _ _ _ _ rfl).elim
     ·exact((none q _ hk hs).2 _ _ _ _ _ rfl).elim
   |cut v r' q lo hi=>
    intro hrf;obtain⟨m,sz,A,len,cap,e,A',cap',hs,_⟩:=hrf;simp only[C.free,C.bO];cases hk:(r'==r && X.pfx (p++[(i,c)]) q) with
    |false=>rfl
    |true=>simp only[aC,eH] at hk;obtain⟨rfl,hk⟩:=hk;exact((none q _ hk hs).1 _ _ _ _ _ _ rfl).elim
   |ptr m g o n f ih=>exact λhrf j hj=>ih j (hrf j hj)
   |agg n f ih=>exact λhrf j hj=>ih j (hrf j hj)
   |av n f ih=>exact λhrf j hj=>ih j (hrf j hj)
   |fn _ n f ih=>exact λhrf j hj=>ih j (hrf j hj)
   |_=>exact λ_=>trivial
  obtain⟨⟨i1,i2,i3⟩,i4⟩:=h.I7 r p (p++[(i,c)]) d (d.bp (i,c) y) y (C.CH p hsub hold) (λt=>hno _ (h.rf t)) hE hsub hS hnew.1 (sg y) hrf (hno _ hrf)
   (λb k hf=>(hnew.2 b k hf).imp id λhf=>⟨λt=>hsep t b k hf,hfz b k hf⟩)
  refine⟨_,i1,i2,λt b k hf=>?_,LS,hread.1,hread.2,λc' hr=>i4 c' (hno c' hr) hr,_,by rw[dL];exact C.Je p hsub,λi' c' y' g' k' hs=>fC.bp hsp hs⟩;rcases i3 t b k hf with ⟨ht,hf'⟩|hf';·subst ht;exact(hnew.2 b k hf').symm.imp id bu
  ·exact .inr hf'
 |true=>
  have h1:=h.kill r (p++[(i,c)]);let f:=C.bO r (p++[(i,c)]);have L3:((G r).aB f).sub p=some (d.aB f):=C.jv f p _ _ (h.ok r) hsub;have ahO:(d.aB f).step (i,c)=some (old.aB f):=by have:=C.jv f [(i,c)] d old w5 (by simp[C.sub,hold]);simpa [C.sub] using this
  have hval:∀b k,(y.aB f).fp b k↔y.fp b k:=λb k=>C.cR f y b k
  have hnew1:((d.aB f).bp (i,c) (y.aB f)).ok (w.setCell ⟨g,k,none⟩ y.val) (Zf zl zb)/\∀b k,((d.aB f).bp (i,c) (y.aB f)).fp b k->(d.aB f).fp b k\/(y.aB f).fp b k:=by
   have S9:∀b k,(y.aB f).fp b k->¬(d.aB f).fp b k:=λb k hf hd=>AX b k ((hval b k).1 hf) ((C.cR f d b k).1 hd);have SP:=C.mL f d w5;have hy1:=C.mL f y hy;have hc1:=C.HQ f y hcell;rw[<-C.jw f y];cases hsp with
   |row hd hi hc hs=>subst hd;have e1:C.aB f y=y:=C.yz f y hs;exact C.UP SP hi hc hy1 hc1 (by rw[e1];exact hs) (λm k hz=>FB m _ k ⟨rfl,.inl ⟨_,rfl⟩⟩ hz) S9
   |ptr hd hi hc=>subst hd;subst hi;exact C.Uy SP hc hy1 hc1 (λm k h1 h2 hz=>FB m _ k ⟨rfl,.inl ⟨rfl,h1,h2⟩⟩ hz) S9
  have ahG:C.iA (d.aB f) ((d.aB f).bp (i,c) (y.aB f)):=by
   rcases like (d.aB f) (y.aB f) with hl|⟨n,f',hd⟩|⟨n,f',hd⟩;·exact hl
   ·cases hsp with
    |row hd'=>rw[hd'] at hd;cases hd
    |ptr hd'=>rw[hd'] at hd;cases hd
   ·cases hsp with
    |row hd'=>rw[hd'] at hd;cases hd
    |ptr hd'=>rw[hd'] at hd;cases hd
  have ahV:(y.aB f).rf λt=>(G t).aB f:=C.lS f (λs' q z hk hs=>by
   rcases C.self z _ q hs with ⟨z',fL,hs'⟩|hno;·exact .inl ⟨_,fL.off f,C.jv f q _ _ (h.ok s') hs'⟩
   ·exact .inr hno) _ (C.gI f _) (C.nS f _ hrf)
  obtain⟨⟨i1,i2,i3⟩,i4⟩:=h1.I7 r p (p++[(i,c)]) (d.aB f) _ (y.aB f) (C.CH p L3 ahO) (λt=>C.gI _ _) hE L3 (λb k hh=>(hS b k hh).imp (λhh=>(C.cR f d b k).2 hh) id) hnew1.1 ahG ahV (C.gI _ _)
   (λb k hf=>(hnew1.2 b k hf).imp id λhf=>⟨λt hf'=>hsep t b k ((hval b k).1 hf) ((C.cR f _ b k).1 hf'),hfz b k ((hval b k).1 hf)⟩)
  rw[C.oK] at i1
  refine⟨_,i1,λt=>(i2 t).trans (C.jw f _),λt b k hf=>?_,LS,hread.1,hread.2,λc' hr=>i4 _ (C.gI f c') (C.lS f (λs' q z hk hs=>by
   rcases C.self z _ q hs with ⟨z',fL,hs'⟩|hno;·exact .inl ⟨_,fL.off f,C.jv f q _ _ (h.ok s') hs'⟩
   ·exact .inr hno) _ (C.gI f _) (C.nS f _ hr)),_,by rw[dL];exact C.Je p L3,λi' c' y' g' k' hs=>fC.bp (fC.off f hsp) (fC.off f hs)⟩
  rcases i3 t b k hf with ⟨ht,hf'⟩|hf'
  ·subst ht;rcases hnew1.2 b k hf' with hf'|hf';·exact .inr (bu ((C.cR f d b k).1 hf'))
   ·exact .inl ((hval b k).1 hf')
  ·exact .inr ((C.cR f _ b k).1 hf')
end Inv
end M
namespace M
open Go Go.RowKit
structure Ctx where
 w0:World
 F0:Nat->Nat->Prop
 pL:Nat->Nat->Prop
 zb:Nat->Nat->Prop
 nt:Nat
 args:List Value
abbrev base:Nat:=100000
structure Tr [B:Bs] (c:Ctx) (w:World) (zl:Nat->Nat->Prop) (G:Nat->C):Prop where
 ext:Ext c.F0 c.w0 w
 dom:∀t b k,(G t).fp b k->c.F0 b k\/c.w0.heap.size<=b
 pL:∀b k,c.pL b k->zl b k
 zl:∀b k,zl b k->c.pL b k\/c.F0 b k\/c.w0.heap.size<=b
 gl:Ev c.w0 c.pL c.zb
 Av:∀b k,b<B.W0.heap.size->¬c.F0 b k
structure St [Bs] (c:Ctx) (G:Nat->C) (zl:Nat->Nat->Prop) (s:ah) (a:Act) (w:World):Prop where
 inv:Inv w zl c.zb G s
 val:∀t,t<base->(G t).val=a.tmps.getD t undef
 size:a.tmps.size=c.nt
 small:c.nt<=base
 defers:a.defers=[]
 tr:Tr c w zl G
 args:∀i v,c.args[i]?=some v->(G (base+i)).val=v
namespace C
def jh(n:Nat)(p:Path):C->C
 |.row .own sz A len cap e=>.ref (C.row .own sz A len cap e).val n p
 |.ptr .own g o m c=>.az (C.ptr .own g o m c).val n p 0 0
 |x=>x
def gR(n:Nat)(p:Path):C->C
 |.agg m c=>.agg m λj=>(c j).jh n (p++[(0,j)])
 |x=>x.jh n p
def alias(n:Nat)(p:Path):C->C
 |.av m c=>.av m λj=>(c j).gR n (p++[(0,j)])
 |x=>x.gR n p
def J6(n:Nat)(p:Path)(c:C):(c.jh n p).er=M.jh n p c.er:=by
 cases c with
 |row m=>cases m<;>rfl
 |ptr m=>cases m<;>rfl
 |_=>rfl
def wu(n:Nat)(p:Path)(i:Nat):∀(l:List Nat) (k:Nat) (f:Nat->C),l=(List.range l.length).map (· +k)->M.tP n p i k (l.map λj=>(f j).er)=l.map λj=>((f j).jh n (p++[(i,j)])).er
 |[],k,f,h=>rfl
 |x::l,k,f,h=>by
  have hx:x=k:=by simp only[dc,Ed,bE,mU] at h;exact(JQ h).1
  have hl:l=(List.range l.length).map (· +(k+1)):=by simp only[dc,Ed,bE,mU,cS] at h;have:=(JQ h).2;rw[this];simp only[dH,wj];apply cm;intro j _;show j+1+k=j+(k+1);omega
  simp only[bE,M.tP];rw[wu n p i l (k+1) f hl,J6,hx]
def UC(m:Nat):List.range m=(List.range (List.range m).length).map (· +0):=by simp
def EA(n:Nat)(p:Path)(c:C):(c.gR n p).er=M.gR n p c.er:=by
 cases c with
 |agg m c=>simp only[gR,er,M.gR];rw[wu n p 0 (List.range m) 0 c (UC m)]
 |row m=>exact J6 n p _
 |ptr m=>exact J6 n p _
 |_=>rfl
def P0(n:Nat)(p:Path):∀(l:List Nat) (k:Nat) (f:Nat->C),l=(List.range l.length).map (· +k)->M.z6 n p k (l.map λj=>(f j).er)=l.map λj=>((f j).gR n (p++[(0,j)])).er
 |[],k,f,h=>rfl
 |x::l,k,f,h=>by
  have hx:x=k:=by simp only[dc,Ed,bE,mU] at h;exact(JQ h).1
  have hl:l=(List.range l.length).map (· +(k+1)):=by simp only[dc,Ed,bE,mU,cS] at h;have:=(JQ h).2;rw[this];simp only[dH,wj];apply cm;intro j _;show j+1+k=j+(k+1);omega
  simp only[bE,M.z6];rw[P0 n p l (k+1) f hl,EA,hx]
def P4(n:Nat)(p:Path)(c:C):(c.alias n p).er=M.alias n p c.er:=by
 cases c with
 |av m c=>simp only[alias,er,M.alias];rw[P0 n p (List.range m) 0 c (UC m)]
 |row m sz A len cap e=>exact EA n p (.row m sz A len cap e)
 |ptr m g o k c=>exact EA n p (.ptr m g o k c)
 |agg m c=>exact EA n p (.agg m c)
 |_=>rfl
def zZ(n:Nat)(p:Path)(c:C):(c.jh n p).val=c.val:=by
 cases c with
 |row m=>cases m<;>rfl
 |ptr m=>cases m<;>rfl
 |_=>rfl
def EB(n:Nat)(p:Path)(c:C):(c.gR n p).val=c.val:=by
 cases c with
 |agg m c=>simp only[gR,val];congr 2;exact cm λj _=>zZ _ _ _
 |row m=>exact zZ n p _
 |ptr m=>exact zZ n p _
 |_=>rfl
def P5(n:Nat)(p:Path)(c:C):(c.alias n p).val=c.val:=by
 cases c with
 |av m c=>simp only[alias,val];congr 2;exact cm λj _=>EB _ _ _
 |row m sz A len cap e=>exact EB n p (.row m sz A len cap e)
 |ptr m g o k c=>exact EB n p (.ptr m g o k c)
 |agg m c=>exact EB n p (.agg m c)
 |_=>rfl
variable {w:World}{Z:Md->Nat->Nat->Prop}{G:Nat->C}
def zW(n:Nat)(p:Path)(c:C)(hc:(∀m f,c≠.agg m f)/\∀m f,c≠.av m f)(b k:Nat):¬(c.jh n p).fp b k:=by
 cases c with
 |row m=>cases m<;>first|exact λh=>h|exact λh=>by cases h.1
 |ptr m=>cases m<;>first|exact λh=>h|exact λh=>by cases h.1
 |agg m f=>exact(hc.1 m f rfl).elim
 |av m f=>exact(hc.2 m f rfl).elim
 |_=>exact λh=>h
def KT{c:C}(h:c.cell):(∀m f,c≠.agg m f)/\∀m f,c≠.av m f:=by constructor<;>(intro m f e;subst e;exact h)
def zX(n:Nat)(p:Path)(c:C)(h:c.ok w Z):(c.jh n p).ok w Z:=by
 cases c with
 |row m=>cases m<;>first|trivial|exact h
 |ptr m=>cases m<;>first|trivial|exact h
 |_=>exact h
def J5(n:Nat)(p:Path)(c:C)(h:c.cell):(c.jh n p).cell:=by
 cases c with
 |row m=>cases m<;>first|rfl|exact h
 |ptr m=>cases m<;>first|rfl|exact h
 |_=>exact h
def zY(n:Nat)(p:Path)(c:C)(hs:(G n).sub p=some c)(h:c.rf G):(c.jh n p).rf G:=by
 cases c with
 |row m sz A len cap e=>cases m<;>first|exact⟨_,_,hs,.row .own .own sz A len cap e e,rfl,_,_,_,_,_,_,rfl⟩|trivial
 |ptr m g o k c=>cases m<;>first|exact⟨_,hs,.inr ⟨_,_,_,_,_,rfl,rfl,by simp[val]⟩⟩|exact h
 |_=>exact h
def T0{n:Nat}{f:Nat->C}(h:∀j,j<n->∀b k,¬(f j).fp b k):∀j,j<n->∀b k,(f j).fp b k->∀j',j'<n->j≠j'->¬(f j').fp b k:=λj hj b k hf=>(h j hj b k hf).elim
def Ez(n:Nat)(p:Path)(c:C)(hnt:∀m f,c≠.av m f)(hs:(G n).sub p=some c)(ho:c.ok w Z)(hr:c.rf G):(c.gR n p).ok w Z/\(c.gR n p).rf G/\∀b k,¬(c.gR n p).fp b k:=by
 cases c with
 |agg m f=>have cx:∀j,j<m->∀b k,¬((f j).jh n (p++[(0,j)])).fp b k:=λj hj=>zW _ _ _ (KT (ho.1 j hj).1);refine⟨⟨λj hj=>⟨J5 _ _ _ (ho.1 j hj).1,zX _ _ _ (ho.1 j hj).2⟩,T0 cx⟩,λj hj=>zY _ _ _ ?_ (hr j hj),λb k ⟨j,hj,hf⟩=>cx j hj b k hf⟩;exact tu p hs (by simp[step,hj])
 |av m f=>exact(hnt m f rfl).elim
 |row m sz A len cap e=>exact⟨zX n p _ ho,zY n p _ hs hr,zW n p _ ⟨λ_ _ e=>(by cases e),λ_ _ e=>(by cases e)⟩⟩
 |ptr m g o k c=>exact⟨zX n p _ ho,zY n p _ hs hr,zW n p _ ⟨λ_ _ e=>(by cases e),λ_ _ e=>(by cases e)⟩⟩
 |_=>exact⟨ho,hr,λb k hf=>hf⟩
def YW(n:Nat)(p:Path)(c:C)(h:c.gj):(c.gR n p).gj:=by
 cases c with
 |av=>exact h.elim
 |row m=>cases m<;>trivial
 |ptr m=>cases m<;>trivial
 |_=>trivial
def P3(n:Nat)(c:C)(hs:G n=c)(ho:c.ok w Z)(hr:c.rf G):(c.alias n []).ok w Z/\(c.alias n []).rf G/\∀b k,¬(c.alias n []).fp b k:=by
 have hs':(G n).sub []=some c:=by rw[hs];rfl
 cases c with
 |av m f=>
  have key:∀j,j<m->((f j).gR n ([]++[(0,j)])).ok w Z/\((f j).gR n ([]++[(0,j)])).rf G/\∀b k,¬((f j).gR n ([]++[(0,j)])).fp b k:=λj hj=>
   Ez n _ (f j) (λm' f' e=>by have:=(ho.1 j hj).1;rw[e] at this;exact this) (tu [] hs' (by simp[step,hj])) (ho.1 j hj).2 (hr j hj)
  refine⟨⟨λj hj=>⟨?_,(key j hj).1⟩,T0 λj hj=>(key j hj).2.2⟩,λj hj=>(key j hj).2.1,λb k ⟨j,hj,hf⟩=>(key j hj).2.2 b k hf⟩;exact YW _ _ _ (ho.1 j hj).1
 |row m sz A len cap e=>exact Ez n [] _ (λ_ _ e=>(by cases e)) hs' ho hr
 |ptr m g o k c=>exact Ez n [] _ (λ_ _ e=>(by cases e)) hs' ho hr
 |agg m c=>exact Ez n [] _ (λ_ _ e=>(by cases e)) hs' ho hr
 |_=>exact⟨ho,hr,λb k hf=>hf⟩
end C
end M
namespace M
open Go Go.RowKit
variable [Bs]
namespace C
def plain:C->Prop
 |.dead v=>v.oneCell'=true
 |.int _ _=>True
 |.bool _=>True
 |.str _=>True
 |.row _ _ _ _ _ _=>True
 |_=>False
def lQ{c:C}(h:c.plain):c.cell:=by cases c<;>first|exact h|exact h.elim
def CF{c:C}(h:c.plain):c.cZ:=by cases c<;>first|exact h|exact h.elim|trivial
def oU{c:C}(h:c.plain)(G:Nat->C):c.rf G:=by cases c<;>first|exact h.elim|trivial
def Nt{c:C}(h:c.plain)(t:Nat->Path->Bool):c.aB t=c:=yz t c (CF h)
def ajH(t:Nat->Path->Bool)(v:Value)(s:Nat)(q:Path)(x:Nat×Nat):(C.aB t (.ref v s q)).step x=none:=by simp only[aB];cases t s q<;>rfl
def ajD(t:Nat->Path->Bool)(v:Value)(s:Nat)(q:Path)(i c:Nat)(x:Nat×Nat):(C.aB t (.az v s q i c)).step x=none:=by simp only[aB];cases t s q<;>rfl
def ajE(t:Nat->Path->Bool)(v:Value)(s:Nat)(q:Path)(i c:Nat)(x:Nat×Nat):(C.aB t (.cut v s q i c)).step x=none:=by simp only[aB];cases t s q<;>rfl
def Vj{c z:C}{x:Nat×Nat}(h:c.step x=some z)(y:C):(c.bp x y).step x=some y:=by
 cases c with
 |row m sz A len cap e=>
  simp only[step] at h⊢;split at h;·rename_i hq;simp[bp,step,hq]
  ·cases h
 |ptr m g o n c=>
  simp only[step] at h⊢;split at h;·rename_i hq;simp[bp,step,hq,b8]
  ·cases h
 |agg n c=>
  simp only[step] at h⊢;split at h;·rename_i hq;simp[bp,step,hq,b8]
  ·cases h
 |av n c=>
  simp only[step] at h⊢;split at h;·rename_i hq;simp[bp,step,hq,b8]
  ·cases h
 |_=>simp[step] at h
def Vl:∀(p q:Path) (c d y:C),c.sub p=some d->(putAt p c (.dead d.val)).sub q=some y->∃y',c.sub q=some y'/\y'.val=y.val/\(y'.plain->y.plain)
 |[],[],c,d,y,h,hy=>by
  simp only[sub] at h;injection h with h
  subst h;simp only[putAt,sub] at hy;injection hy with hy
  subst hy;exact⟨_,rfl,rfl,λhp=>Inv.rF (lQ hp)⟩
 |[],q::t,c,d,y,h,hy=>by simp[putAt,sub,step] at hy
 |x::p,[],c,d,y,h,hy=>by
  simp only[sub] at h;cases hst:c.step x with
  |none=>rw[hst] at h;cases h
  |some z=>
   rw[hst] at h;simp only[putAt,hst,sub] at hy;injection hy with hy
   subst hy;have hv:=(Ui p z d h);exact⟨c,rfl,((iA.bp c x z _ hst hv).val).symm,λhp=>by cases c<;>first|exact hp.elim|trivial|(simp[step] at hst)⟩
 |x::p,q::t,c,d,y,h,hy=>by
  simp only[sub] at h;cases hst:c.step x with
  |none=>rw[hst] at h;cases h
  |some z=>
   rw[hst] at h;simp only[putAt,hst] at hy;simp only[sub] at hy⊢;by_cases AW:x=q;·subst AW;rw[hst];have hs:(c.bp x (putAt p z (.dead d.val))).step x=some (putAt p z (.dead d.val)):=Vj hst _;rw[hs] at hy;exact Vl p t z d y h hy
   ·have hs:(c.bp x (putAt p z (.dead d.val))).step q=c.step q:=by
     cases c with
     |row m sz A len cap e=>
      simp only[step,bp];split;·rw[aE];intro hh;exact AW (by cases x;cases q;simp only at hh;rw[hh.1,hh.2])
      ·rfl
     |ptr m g o n c=>
      simp only[step] at hst;split at hst
      ·rename_i hx;simp only[step,bp,b8];split;·rename_i hq;rw[aE];intro hh;exact AW (by cases x;cases q;simp only at hh hx hq;rw[hh,hx.1,hq.1])
       ·rfl
      ·cases hst
     |agg n c=>
      simp only[step] at hst;split at hst
      ·rename_i hx;simp only[step,bp,b8];split;·rename_i hq;rw[aE];intro hh;exact AW (by cases x;cases q;simp only at hh hx hq;rw[hh,hx.1,hq.1])
       ·rfl
      ·cases hst
     |av n c=>
      simp only[step] at hst;split at hst
      ·rename_i hx;simp only[step,bp,b8];split;·rename_i hq;rw[aE];intro hh;exact AW (by cases x;cases q;simp only at hh hx hq;rw[hh,hx.1,hq.1])
       ·rfl
      ·cases hst
     |_=>simp[step] at hst
    rw[hs] at hy;cases hq:c.step q with
    |none=>rw[hq] at hy;cases hy
    |some z'=>rw[hq] at hy;exact⟨y,hy,rfl,λhp=>hp⟩
where
 Ui:∀(p:Path) (z d:C),z.sub p=some d->(putAt p z (.dead d.val)).val=z.val
  |[],z,d,h=>by simp only[sub] at h;injection h with h;subst h;rfl
  |x::p,z,d,h=>by
   simp only[sub] at h
   cases hst:z.step x with
   |none=>rw[hst] at h;cases h
   |some z'=>
    rw[hst] at h
    simp only[putAt,hst]
    exact(iA.bp z x z' _ hst (Ui p z' d h)).val
end C
structure fI (w:World) (zl zb:Nat->Nat->Prop) (G:Nat->C) (c:C) (G':Nat->C) (s':ah):Prop where
 inv:Inv w zl zb G' s'
 ok:c.ok w (Zf zl zb)
 rf:c.rf G'
 sep:∀t b k,c.fp b k->¬(G' t).fp b k
 fz:∀b k,c.fp b k->¬zl b k/\¬zb b k
 val:∀t,(G' t).val=(G t).val
 dom:∀b k,c.fp b k->∃t,(G t).fp b k
 mono:∀t b k,(G' t).fp b k->(G t).fp b k
variable {w:World}{zl zb:Nat->Nat->Prop}{G:Nat->C}{s:ah}
def fI.self(h:Inv w zl zb G s){c:C}(ho:c.ok w (Zf zl zb))(hr:c.rf G)(hn:∀b k,¬c.fp b k):fI w zl zb G c G s:=
 ⟨h,ho,hr,λt b k hf=>(hn b k hf).elim,λb k hf=>(hn b k hf).elim,λ_=>rfl,λb k hf=>(hn b k hf).elim,λ_ _ _ hf=>hf⟩
def weak(G:Nat->C)(v:Value)(r:Nat)(p:Path):Prop:=∀y,(G r).sub p=some y->y.val=v/\y.plain
def DQ{v:Value}{r:Nat}{p:Path}(h:(C.ref v r p).rf G):weak G v r p:=by
 obtain⟨y,z,hs,hF,hv,m,sz,A,len,cap,e,rfl⟩:=h;intro y' hy';rw[hs] at hy';injection hy' with hy'
 subst hy';cases hF;exact⟨hv,trivial⟩
def TY(h:Inv w zl zb G s){v:Value}{r:Nat}{p:Path}(hw:weak G v r p)(hv:v.oneCell'=true):
  ∃c G',c.er=(move r p s).1/\c.val=v/\c.plain/\fI w zl zb G c G' (move r p s).2/\∀v' r' p',weak G v' r' p'->weak G' v' r' p':=by
 unfold move look;rw[<-h.er,C.gL];cases hs:(G r).sub p with
 |none=>exact⟨.dead v,G,rfl,rfl,hv,fI.self h trivial trivial (λ_ _ hf=>hf),λ_ _ _ hh=>hh⟩
 |some y=>
  obtain⟨oD,hyp⟩:=hw y hs;have h1:=h.kill r p;have hs1:((G r).aB (C.bO r p)).sub p=some (y.aB (C.bO r p)):=C.jv _ p _ _ (h.ok r) hs;rw[C.Nt hyp] at hs1;have qb:=C.iy p hs (h.ok r);obtain⟨⟨i1,i2,i3⟩,_⟩:=h1.U6 r p y (.dead y.val) (S:=λ_ _=>False) (λt=>C.gI _ _) (Ext.refl _ _) hs1 (λ_ _ hf=>hf.elim) trivial (Inv.Hy _) trivial trivial (λ_ _ hf=>hf.elim);refine⟨y,_,?_,oD,hyp,⟨i1,qb,C.oU hyp _,?_,λb k hf=>h.fz r b k (C.gM p hs (h.ok r) hf),λt=>(i2 t).trans (C.jw _ _),λb k hf=>⟨r,C.gM p hs (h.ok r) hf⟩,λt b k hf=>?_⟩,λv' r' p' hw' y' hy'=>?_⟩;·show y.er=y.er.kill r p;rw[<-C.oK,C.Nt hyp]
  ·intro t b k hf hf';have L6:=C.gM p hs (h.ok r) hf;by_cases e:t=r
   ·subst e;rw[dL] at hf';obtain⟨_,j2,_⟩:=C.CA (λ_ _ _ h=>h) (Ext.refl (λ_ _=>False) w) (λm b k _ hs=>hs) p ((G t).aB (C.bO t p)) y (.dead y.val) (h1.ok t) hs1 trivial (Inv.Hy _) (λ_ _ hs=>hs.elim) (λ_ _ hs=>hs.elim);rcases j2 b k hf' with hh|⟨_,hn⟩;·exact hh
    ·exact hn hf
   ·rw[dz _ _ e,C.cR] at hf';exact h.sep r t (λe'=>e e'.symm) b k L6 hf'
  ·rcases i3 t b k hf with ⟨_,hh⟩|hh;·exact hh.elim
   ·rwa [C.cR] at hh
  ·by_cases e:r'=r;·subst e;rw[dL] at hy';obtain⟨y1,a1,a2,a3⟩:=C.Vl p p' _ _ _ hs1 hy';obtain⟨y2,b1,b2,b3⟩:=Uh (C.bO r' p) p' _ (h.ok r') a1;obtain⟨c1,c2⟩:=hw' y2 b1;exact⟨by rw[<-a2,<-b2,c1],a3 (b3 c2)⟩
   ·rw[dz _ _ e] at hy';obtain⟨y2,b1,b2,b3⟩:=Uh (C.bO r p) p' _ (h.ok r') hy';obtain⟨c1,c2⟩:=hw' y2 b1;exact⟨by rw[<-b2,c1],b3 c2⟩
where
 Uh (t:Nat->Path->Bool):∀(q:Path) (c:C) {y:C},c.ok w (Zf zl zb)->(c.aB t).sub q=some y->∃y',c.sub q=some y'/\y'.val=y.val/\(y'.plain->y.plain):=by
  intro q c y ho hy
  cases hc:c.sub q with
  |some y'=>
   have:=C.jv t q c y' ho hc
   rw[hy] at this
   injection this with this
   subst this
   exact⟨y',rfl,(C.jw _ _).symm,λhp=>by rw[C.Nt hp];exact hp⟩
  |none=>
   exfalso
   induction q generalizing c with
   |nil=>simp[C.sub] at hc
   |cons x q ih=>
    simp only[C.sub] at hc hy
    have hstep:∀z,(c.aB t).step x=some z->∃z',c.step x=some z'/\z'.aB t=z:=by
     intro z hz
     cases c with
     |row m sz A len cap e=>
      simp only[C.aB,C.step] at hz⊢
      split at hz
      ·rename_i hq
       injection hz with hz
       rw[aA hq]
       exact⟨_,rfl,by rw[<-hz];exact C.yz t _ (ho.2.2.1 _ _ hq.1 hq.2).2.1⟩
      ·cases hz
     |ptr m g o n c=>
      simp only[C.aB,C.step] at hz⊢
      split at hz
      ·rename_i hq
       injection hz with hz
       rw[aA hq]
       exact⟨_,rfl,hz⟩
      ·cases hz
     |agg n c=>
      simp only[C.aB,C.step] at hz⊢
      split at hz
      ·rename_i hq
       injection hz with hz
       rw[aA hq]
       exact⟨_,rfl,hz⟩
      ·cases hz
     |av n c=>
      simp only[C.aB,C.step] at hz⊢
      split at hz
      ·rename_i hq
       injection hz with hz
       rw[aA hq]
       exact⟨_,rfl,hz⟩
      ·cases hz
     |ref v s q=>rw[C.ajH] at hz;cases hz
     |az v s q i c=>rw[C.ajD] at hz;cases hz
     |cut v s q i c=>rw[C.ajE] at hz;cases hz
     |_=>simp[C.aB,C.step] at hz
    cases hz:(c.aB t).step x with
    |none=>rw[hz] at hy;cases hy
    |some z=>
     rw[hz] at hy
     obtain⟨z',fL,e⟩:=hstep z hz
     rw[fL] at hc
     subst e
     exact ih z' (C.vK fL ho) hy hc
end M
namespace M
open Go Go.RowKit
variable [Bs]
variable {w:World}{zl zb:Nat->Nat->Prop}{G:Nat->C}{s:ah}
structure zT (w:World) (zl zb:Nat->Nat->Prop) (G:Nat->C) (c:C):Prop where
 cell:c.cell
 ok:c.ok w (Zf zl zb)
 cY:∀b k,¬c.fp b k
 weak:∀v r p,c=.ref v r p->weak G v r p
structure bM (w:World) (zl zb:Nat->Nat->Prop) (G:Nat->C) (l':List C) (G':Nat->C) (s':ah):Prop where
 inv:Inv w zl zb G' s'
 all:∀c∈l',c.ok w (Zf zl zb)/\(∀t b k,c.fp b k->¬(G' t).fp b k)/\(∀b k,c.fp b k->¬zl b k/\¬zb b k)/\∀b k,c.fp b k->∃t,(G t).fp b k
 apart:l'.Pairwise λa b=>∀x k,a.fp x k->¬b.fp x k
 val:∀t,(G' t).val=(G t).val
 mono:∀t b k,(G' t).fp b k->(G t).fp b k
def bM.cons{c:C}{G1 G':Nat->C}{s1 s':ah}{l':List C}(h:fI w zl zb G c G1 s1)(hl:bM w zl zb G1 l' G' s'):bM w zl zb G (c::l') G' s' where
 inv:=hl.inv
 all:=λx hx=>by
  rcases ck.1 hx with rfl|hx;·exact⟨h.ok,λt b k hf hf'=>h.sep t b k hf (hl.mono t b k hf'),h.fz,h.dom⟩
  ·obtain⟨a1,a2,a3,a4⟩:=hl.all x hx;exact⟨a1,a2,a3,λb k hf=>by obtain⟨t,ht⟩:=a4 b k hf;exact⟨t,h.mono t b k ht⟩⟩
 apart:=fG.2 ⟨λx hx b k hf hf'=>by obtain⟨t,ht⟩:=(hl.all x hx).2.2.2 b k hf';exact h.sep t b k hf ht,hl.apart⟩
 val:=λt=>(hl.val t).trans (h.val t)
 mono:=λt b k hf=>h.mono t b k (hl.mono t b k hf)
def bM.nil(h:Inv w zl zb G s):bM w zl zb G [] G s:=⟨h,λ_ hx=>(by cases hx),List.Pairwise.nil,λ_=>rfl,λ_ _ _ hf=>hf⟩
def val_one{c:C}(h:c.cell):c.val.oneCell'=true:=Inv.rF h
def DJ:∀(l:List C) (G:Nat->C) (s:ah),Inv w zl zb G s->(∀c∈l,zT w zl zb G c)->
  ∃l' G',l'.map C.er=(bY (l.map C.er) s).1/\l'.map C.val=l.map C.val/\(∀c∈l',c.plain)/\bM w zl zb G l' G' (bY (l.map C.er) s).2/\∀v' r' p',weak G v' r' p'->weak G' v' r' p'
 |[],G,s,h,hc=>⟨[],G,rfl,rfl,λ_ hx=>(by cases hx),bM.nil h,λ_ _ _ hh=>hh⟩
 |c::l,G,s,h,hc=>by
  have h0:=hc c (bH ..);have hl0:∀x∈l,zT w zl zb G x:=λx hx=>hc x (cl _ hx)
  have jx:∀d:C,d.plain->d.val=c.val->d.er=(bY (c.er::l.map C.er) s).1.headD .dead->(bY (c.er::l.map C.er) s).2=(bY (l.map C.er) s).2->(bY (c.er::l.map C.er) s).1.tail=(bY (l.map C.er) s).1->(bY (c.er::l.map C.er) s).1≠[]->d.ok w (Zf zl zb)->(∀b k,¬d.fp b k)->
    ∃l' G',l'.map C.er=(bY ((c::l).map C.er) s).1/\l'.map C.val=(c::l).map C.val/\(∀c∈l',c.plain)/\bM w zl zb G l' G' (bY ((c::l).map C.er) s).2/\∀v' r' p',weak G v' r' p'->weak G' v' r' p':=by
   intro d hp hv he h2 h3 h4 ho hn;obtain⟨l',G',e1,e2,e3,e4,e5⟩:=DJ l G s h hl0;refine⟨d::l',G',?_,?_,?_,?_,e5⟩
   ·simp only[bE];rw[he,e1,<-h3];cases hh:(bY (c.er::l.map C.er) s).1 with
    |nil=>exact(h4 hh).elim
    |cons a t=>rfl
   ·simp only[bE,hv,e2]
   ·intro x hx;rcases ck.1 hx with rfl|hx;·exact hp
    ·exact e3 x hx
   ·simp only[bE];rw[h2];exact bM.cons (fI.self h ho (C.oU hp G) hn) e4
  have dead:∀v,v=c.val->C.plain (.dead v):=λv hv=>by subst hv;exact val_one h0.cell
  cases c with
  |ref v r p=>
   obtain⟨c',G1,f1,f2,f3,f4,f5⟩:=TY h (h0.weak v r p rfl) h0.cell;obtain⟨l',G',e1,e2,e3,e4,e5⟩:=DJ l G1 (move r p s).2 f4.inv (λx hx=>by obtain⟨a1,a2,a3,a4⟩:=hl0 x hx;exact⟨a1,a2,a3,λv' r' p' e=>f5 _ _ _ (a4 v' r' p' e)⟩)
   refine⟨c'::l',G',?_,?_,?_,bM.cons f4 e4,λ_ _ _ hh=>e5 _ _ _ (f5 _ _ _ hh)⟩;·simp only[bE,C.er,bY];rw[f1,e1]
   ·simp only[bE,f2,e2];rfl
   ·intro x hx;rcases ck.1 hx with rfl|hx;·exact f3
    ·exact e3 x hx
  |az v r p i k=>exact jx (.dead v) (dead v rfl) rfl rfl rfl rfl (by simp[bY,C.er]) trivial (λ_ _ h=>h)
  |cut v r p i k=>exact jx (.dead v) (dead v rfl) rfl rfl rfl rfl (by simp[bY,C.er]) trivial (λ_ _ h=>h)
  |fn f n g=>exact jx (.dead _) (dead _ rfl) rfl rfl rfl rfl (by simp[bY,C.er]) trivial (λ_ _ h=>h)
  |ptr m g o n f=>exact jx (.dead _) (dead _ rfl) rfl rfl rfl rfl (by simp[bY,C.er]) trivial (λ_ _ h=>h)
  |agg n f=>exact h0.cell.elim
  |av n f=>exact h0.cell.elim
  |dead v=>exact jx (.dead v) (dead v rfl) rfl rfl rfl rfl (by simp[bY,C.er]) trivial (λ_ _ h=>h)
  |int k n=>exact jx (.int k n) trivial rfl rfl rfl rfl (by simp[bY,C.er]) trivial (λ_ _ h=>h)
  |bool b=>exact jx (.bool b) trivial rfl rfl rfl rfl (by simp[bY,C.er]) trivial (λ_ _ h=>h)
  |str t=>exact jx (.str t) trivial rfl rfl rfl rfl (by simp[bY,C.er]) h0.ok (λ_ _ h=>h)
  |row m sz A len cap e=>exact jx (.row m sz A len cap e) trivial rfl rfl rfl rfl (by simp[bY,C.er]) h0.ok h0.cY
def gQ(l:List C):C:=.agg l.length λj=>l.getD j (.dead undef)
def mM{α β:Type}(l:List α)(d:α)(f:α->β):((List.range l.length).map λj=>f (l.getD j d))=l.map f:=by
 apply gP;intro i;rw[C.dn,dm];by_cases h:i<l.length;·rw[aA h,cv h];simp[k6,cv h]
 ·rw[aE h,k7 (by omega)];rfl
def wq(l:List C):(gQ l).er=.agg (l.map C.er):=by simp only[gQ,C.er,mM]
def zV(l:List C):(gQ l).val=.agg (l.map C.val).toArray:=by simp only[gQ,C.val,mM]
def cT{α:Type}{l:List α}{j:Nat}(h:j<l.length)(d:α):l.getD j d∈l:=by rw[k6,cv h];exact bh h
def yC{l:List C}(h:l.Pairwise λa b=>∀x k,a.fp x k->¬b.fp x k)(d:C){i j:Nat}(hi:i<l.length)(hj:j<l.length)(hne:i≠j){b k:Nat}(hf:(l.getD i d).fp b k):¬(l.getD j d).fp b k:=by
 rw[k6,cv hi] at hf;rw[k6,cv hj];rcases Nat.lt_or_gt_of_ne hne with hlt|hlt;·exact vR.1 h i j hi hj hlt b k hf
 ·exact λhf'=>vR.1 h j i hj hi hlt b k hf' hf
def rq(l:List C)(b k:Nat):(gQ l).fp b k↔∃c∈l,c.fp b k:=by
 constructor;·rintro ⟨j,hj,hf⟩;exact⟨_,cT hj _,hf⟩
 ·rintro ⟨c,hc,hf⟩;obtain⟨j,hj,rfl⟩:=zN hc;refine⟨j,hj,?_⟩;show (l.getD j (C.dead undef)).fp b k;rw[k6,cv hj];exact hf
def C.flat(c:C):Prop:=c.plain\/∃l:List C,c=gQ l/\∀x∈l,x.plain
structure eL (w:World) (zl zb:Nat->Nat->Prop) (G:Nat->C) (c:C):Prop where
 ok:c.ok w (Zf zl zb)
 rf:c.rf G
 cY:∀b k,¬c.fp b k
def NG{v:Value}{r:Nat}{p:Path}(h:(C.ref v r p).rf G):v.oneCell'=true:=by obtain⟨y,z,hs,hF,hv,m,sz,A,len,cap,e,rfl⟩:=h;cases hF;rw[<-hv];rfl
def Rr{Z:Md->Nat->Nat->Prop}{sz:Nat}{A A':Option Ad}{len cap lo hi cap':Nat}{e:Nat->Nat->C}(h:(C.row .own sz A len cap e).ok w Z)(hlo:lo<=hi)(hhi:hi<=len)(hcap:hi - lo<=cap')
  (hc:lo+cap'=cap)(hA:(A'=A/\cap'=0)\/A'=A.map λq=>jD (lo*sz) q):
  (C.row .own sz A' (hi - lo) cap' λi j=>e (i+lo) j).ok w Z/\(∀b k,(C.row .own sz A' (hi - lo) cap' λi j=>e (i+lo) j).fp b k->(C.row .own sz A len cap e).fp b k)/\
   (C.row .own sz A' (hi - lo) cap' λi j=>e (i+lo) j).er=.row .own sz ((((List.range len).map λi=>(List.range sz).map λj=>(e i j).er).take hi).drop lo):=by
 obtain⟨h1,h2,h3,h4,h5⟩:=h
 have hb:∀b o,A'=some (b,o,none)->∃o',A=some (b,o',none):=λb o ho=>by
  rcases hA with ⟨hA,_⟩|hA;·exact⟨o,by rw[<-hA,ho]⟩
  ·cases A with
   |none=>rw[hA] at ho;cases ho
   |some q=>
    rcases h4 rfl with ⟨q1,_⟩|⟨g,o',_,_,_,q1,_⟩;·cases q1
    ·rw[hA,q1,cq,pN] at ho;injection ho with ho
     injection ho with ho _
     exact⟨o',by rw[q1,ho]⟩
 have hlt:hi - lo≠0->A'=A.map λq=>jD (lo*sz) q:=λhne=>hA.elim (λ⟨_,h0⟩=>(by omega)) id;refine⟨⟨hcap,λi j hi' hj=>?_,λi j hi' hj=>h3 (i+lo) j (by omega) hj,λ_=>?_,λi j hi' hj b k hf=>?_⟩,λb k hf=>?_,?_⟩;·obtain⟨g,o,q1,q2,q3⟩:=h2 (i+lo) j (by omega) hj;refine⟨g,o+lo*sz,by rw[hlt (by omega),q1,cq,pN],?_,λhm=>(hm rfl).elim⟩;rw[show o+lo*sz+i*sz+j=o+(i+lo)*sz+j by rw[fH];omega];exact q2
 ·rcases h4 rfl with ⟨q1,q2⟩|⟨g,o,arr,t,fz,q1,q2,q3,q4⟩;·refine .inl ⟨?_,by omega⟩;rcases hA with ⟨hA,_⟩|hA<;>rw[hA,q1];rfl
  ·refine .inr ?_;rcases hA with ⟨hA,h0⟩|hA;·exact⟨g,o,arr,t,fz,by rw[hA,q1],q2,by rw[h0];omega,λk hk1 hk2=>by rw[h0] at hk2;omega⟩
   ·have hm:lo*sz+cap'*sz=cap*sz:=by rw[<-fH,hc]
    exact⟨g,o+lo*sz,arr,t,fz,by rw[hA,q1,cq,pN],q2,by omega,λk hk1 hk2=>q4 k (by omega) (by omega)⟩
 ·obtain⟨a1,a2⟩:=h5 (i+lo) j (by omega) hj b k hf;refine⟨λ_ o ho=>?_,λi' j' hi2 hj2 hne=>a2 (i'+lo) j' (by omega) hj2 (λe=>hne ?_)⟩;·obtain⟨o',ho'⟩:=hb b o ho;exact a1 rfl o' ho'
  ·injection e with e1 e2
   rw[e2,show i=i' by omega]
 ·obtain⟨_,⟨o,ho⟩|⟨i,j,hi',hj,hf⟩⟩:=hf;·obtain⟨o',ho'⟩:=hb b o ho;exact⟨rfl,.inl ⟨o',ho'⟩⟩
  ·exact⟨rfl,.inr ⟨i+lo,j,by omega,hj,hf⟩⟩
 ·simp only[C.er,<-pH,<-lW,vT];rw[kW hhi];congr 1;apply gP;intro i;rw[C.dn,dm,pK];by_cases hh:i<hi - lo;·rw[aA hh,tK (by omega),qS];rfl
  ·rw[aE hh,k7 (by simp;omega)];rfl
def ajg(h:Inv w zl zb G s){v:Value}{r:Nat}{p:Path}{lo hi:Nat}(hr:(C.cut v r p lo hi).rf G):
  ∃c G',c.er=(Cr r p lo hi s).1/\c.val=v/\((C.cut v r p lo hi).cell->c.cell)/\fI w zl zb G c G' (Cr r p lo hi s).2:=by
 have hr':=hr;obtain⟨m,sz,A,len,cap,e,A',cap',hs,hv,hlo,hhi,hcap,kG,hc,hAA⟩:=hr;unfold Cr look;rw[<-h.er,C.gL,hs];cases m with
 |own=>obtain⟨c,G',c1,c2,c3,c4,c5,c6,c7,c8,c9,Kg,Kh,c12⟩:=h.vL r p _ hs;obtain rfl:=c7 trivial;obtain⟨i1,i2,i3⟩:=Rr c4 hlo hhi hcap hc hAA;refine⟨.row .own sz A' (hi - lo) cap' λi j=>e (i+lo) j,G',i3,?_,λ_=>trivial,⟨c3,i1,trivial,λt b k hf=>c8 t b k (i2 b k hf),λb k hf=>h.fz r b k (c9 b k (i2 b k hf)),Kg,λb k hf=>⟨r,c9 b k (i2 b k hf)⟩,Kh⟩⟩;rw[hv];rfl
 |sl=>exact⟨.cut v r p lo hi,G,rfl,rfl,λhh=>hh,fI.self h trivial hr' λ_ _ hh=>hh⟩
 |af=>exact⟨.cut v r p lo hi,G,rfl,rfl,λhh=>hh,fI.self h trivial hr' λ_ _ hh=>hh⟩
def ajf(h:Inv w zl zb G s){v:Value}{r:Nat}{p:Path}{i j:Nat}(hr:(C.az v r p i j).rf G):
  ∃c G',c.er=(HJ r p i j s).1/\c.val=v/\((C.az v r p i j).cell->c.cell)/\fI w zl zb G c G' (HJ r p i j s).2:=by
 have same:∃c G',c.er=X.az r p i j/\c.val=v/\((C.az v r p i j).cell->c.cell)/\fI w zl zb G c G' s:=⟨.az v r p i j,G,rfl,rfl,λhh=>hh,fI.self h trivial hr λ_ _ hh=>hh⟩;obtain⟨y,hs,hy⟩:=hr;unfold HJ look;rw[<-h.er,C.gL,hs];rcases hy with ⟨m,sz,g,o,len,cap,e,rfl,hv⟩|⟨m,g,o,n,cc,rfl,hi,hv⟩;·exact same
 ·cases m with
  |own=>
   show ∃c G',c.er=(bif i==0 && j==0 then _ else _:X×ah).1/\_/\_/\fI w zl zb G c G' (bif i==0 && j==0 then _ else _:X×ah).2;cases hij:(i==0 && j==0) with
   |false=>exact same
   |true=>simp only[aC,eH] at hij;obtain⟨rfl,rfl⟩:=hij;obtain⟨c,G',c1,c2,c3,c4,c5,c6,c7,c8,c9,Kg,Kh,c12⟩:=h.vL r p _ hs;exact⟨c,G',c1,by rw[c2,hv];rfl,λ_=>c6.2 trivial,⟨c3,c4,c5,c8,λb k hf=>h.fz r b k (c9 b k hf),Kg,λb k hf=>⟨r,c9 b k hf⟩,Kh⟩⟩
  |sl=>exact same
  |af=>exact same
def qN(tk:Tk)(h:Inv w zl zb G s){c0:C}(ho:eL w zl zb G c0):
  ∃c G',c.er=(take tk c0.er s).1/\c.val=c0.val/\(c0.cell->c.cell)/\fI w zl zb G c G' (take tk c0.er s).2:=by
 have same:(take tk c0.er s)=(c0.er,s)->∃c G',c.er=(take tk c0.er s).1/\c.val=c0.val/\(c0.cell->c.cell)/\fI w zl zb G c G' (take tk c0.er s).2:=λe=>by rw[e];exact⟨c0,G,rfl,rfl,λh=>h,fI.self h ho.ok ho.rf ho.cY⟩
 cases c0 with
 |ref v r p=>
  have uB:∃c G',c.er=(move r p s).1/\c.val=v/\((C.ref v r p).cell->c.cell)/\fI w zl zb G c G' (move r p s).2:=by obtain⟨c',G1,f1,f2,f3,f4,f5⟩:=TY h (DQ ho.rf) (NG ho.rf);exact⟨c',G1,f1,f2,λ_=>C.lQ f3,f4⟩
  cases tk with
  |mv=>exact uB
  |al=>exact same rfl
  |aQ=>cases p with
   |nil=>exact uB
   |cons q p=>exact same rfl
 |cut v r p lo hi=>
  have uB:=ajg h ho.rf;cases tk with
  |mv=>exact uB
  |al=>exact same rfl
  |aQ=>cases p with
   |nil=>exact uB
   |cons q p=>exact same rfl
 |az v r p i j=>
  cases tk with
  |mv=>exact ajf h ho.rf
  |al=>exact same rfl
  |aQ=>exact same rfl
 |agg n f=>
  cases tk with
  |mv=>
   have hcells:∀c∈(List.range n).map f,zT w zl zb G c:=λc hc=>by
    obtain⟨j,hj,rfl⟩:=bw.1 hc;have hj':j<n:=by simpa using hj
    exact⟨(ho.ok.1 j hj').1,(ho.ok.1 j hj').2,λb k hf=>ho.cY b k ⟨j,hj',hf⟩,λv r p e=>DQ (by rw[<-e];exact ho.rf j hj')⟩
   obtain⟨l',G',e1,e2,e3,e4,e5⟩:=DJ _ G s h hcells;have er:(C.agg n f).er=.agg (((List.range n).map f).map C.er):=by simp only[C.er,cS];rfl
   rw[er];show ∃c G',c.er=X.agg (bY _ s).1/\_/\_/\fI w zl zb G c G' (bY _ s).2;refine⟨gQ l',G',by rw[wq,e1],?_,λhc=>hc.elim,⟨e4.inv,⟨λj hj=>⟨C.lQ (e3 _ (cT hj _)),(e4.all _ (cT hj _)).1⟩,λj hj b k hf j' hj' hne=>yC e4.apart _ hj hj' hne hf⟩,λj hj=>C.oU (e3 _ (cT hj _)) _,?_,?_,e4.val,?_,e4.mono⟩⟩;·rw[zV,e2];simp only[C.val,cS];rfl
   ·intro t b k hf hf';obtain⟨c,hc,hf⟩:=(rq _ _ _).1 hf;exact(e4.all c hc).2.1 t b k hf hf'
   ·intro b k hf;obtain⟨c,hc,hf⟩:=(rq _ _ _).1 hf;exact(e4.all c hc).2.2.1 b k hf
   ·intro b k hf;obtain⟨c,hc,hf⟩:=(rq _ _ _).1 hf;exact(e4.all c hc).2.2.2 b k hf
  |al=>exact same rfl
  |aQ=>exact same rfl
 |_=>exact same (by cases tk<;>rfl)
def Ul{c:Ctx}{zl:Nat->Nat->Prop}{a:Act}(h:St c G zl s a w)(n:Nat):((G n).alias n []).er=ay s (.t n)/\((G n).alias n []).val=(G n).val/\eL w zl c.zb G ((G n).alias n []):=by obtain⟨a1,a2,a3⟩:=C.P3 n (G n) rfl (h.inv.ok n) (h.inv.rf n);refine⟨?_,C.P5 _ _ _,⟨a1,a2,a3⟩⟩;rw[C.P4,h.inv.er];rfl
end M
namespace M
open Go Go.RowKit
variable [Bs]
namespace C
variable {w:World}{Z:Md->Nat->Nat->Prop}
def qx:C->Prop
 |.row m _ _ _ _ _=>m=.own
 |.ptr m _ _ _ _=>m=.own
 |.agg _ _=>True
 |.av _ _=>True
 |_=>False
def ajJ{d0 y:C}{q:Nat×Nat}{v:Value}(h:d0.ok w Z)(hq:d0.step q=some (.dead v))(ho:d0.qx)(hp:y.plain)(hv:y.val=v)(hy:y.ok w Z)(hsep:∀b k,y.fp b k->¬d0.fp b k):
  (d0.bp q y).ok w Z/\∀b k,(d0.bp q y).fp b k->d0.fp b k\/y.fp b k:=by
 have hc:=lQ hp;have hs:=CF hp;have hnt:y.gj:=by cases y<;>first|trivial|exact hp.elim
 have agg:∀(n:Nat) (f:Nat->C) (pr:C->Prop),(∀j,j<n->pr (f j)/\(f j).ok w Z)->pr y->(∀j,j<n->∀b k,(f j).fp b k->∀j',j'<n->j≠j'->¬(f j').fp b k)->(∀b k,y.fp b k->¬∃j,j<n/\(f j).fp b k)->
   ((∀j,j<n->pr (b8 f q.2 y j)/\(b8 f q.2 y j).ok w Z)/\(∀j,j<n->∀b k,(b8 f q.2 y j).fp b k->∀j',j'<n->j≠j'->¬(b8 f q.2 y j').fp b k))/\∀b k,(∃j,j<n/\(b8 f q.2 y j).fp b k)->(∃j,j<n/\(f j).fp b k)\/y.fp b k:=by
  intro n f pr h1 hpy h2 h3;refine⟨⟨λj hj=>?_,λj hj b k hf j' hj' hne=>?_⟩,λb k ⟨j,hj,hf⟩=>?_⟩
  ·unfold b8;split;·exact⟨hpy,hy⟩
   ·exact h1 j hj
  ·unfold b8 at hf⊢;split at hf;·rename_i e;rw[aE (λe'=>hne (e.trans e'.symm))];exact λhf'=>h3 b k hf ⟨j',hj',hf'⟩
   ·split;·exact λhf'=>h3 b k hf' ⟨j,hj,hf⟩
    ·exact h2 j hj b k hf j' hj' hne
  ·unfold b8 at hf;split at hf;·exact .inr hf
   ·exact .inl ⟨j,hj,hf⟩
 have apP:∀(n:Nat) (f:Nat->C) (j:Nat),q.2<n->f q.2=.dead v->(b8 f q.2 y j).val=(f j).val:=by
  intro n f j _ hf;unfold b8;split;·rename_i e;rw[e,hf,hv];rfl
  ·rfl
 cases d0 with
 |row m sz A len cap e=>
  obtain rfl:m=.own:=ho;simp only[step] at hq;split at hq
  ·rename_i hlt;injection hq with hq
   obtain⟨h1,h2,h3,h4,h5⟩:=h;have kK:∀i j,i<len->j<sz->∀b k,(e i j).fp b k->(C.row .own sz A len cap e).fp b k:=λi j hi hj b k hf=>⟨rfl,.inr ⟨i,j,hi,hj,hf⟩⟩;refine⟨⟨h1,λi j hi hj=>?_,λi j hi hj=>?_,h4,λi j hi hj b k hf=>?_⟩,λb k hf=>?_⟩
   ·obtain⟨g,o,a1,a2,a3⟩:=h2 i j hi hj;refine⟨g,o,a1,?_,a3⟩;rw[a2];show _=some (if i=q.1/\j=q.2 then y else e i j).val;split;·rename_i hh;rw[hh.1,hh.2,hq,hv];rfl
    ·rfl
   ·show (if i=q.1/\j=q.2 then y else e i j).cell/\(if i=q.1/\j=q.2 then y else e i j).cZ/\(if i=q.1/\j=q.2 then y else e i j).fits .own/\(if i=q.1/\j=q.2 then y else e i j).ok w Z;split;·exact⟨hc,hs,by cases y<;>first|trivial|exact .inl rfl,hy⟩
    ·exact h3 i j hi hj
   ·have hf:(if i=q.1/\j=q.2 then y else e i j).fp b k:=hf;refine⟨λhm o hA=>?_,λi' j' hi' hj' hne hf'=>?_⟩
    ·split at hf;·exact hsep b k hf ⟨rfl,.inl ⟨o,hA⟩⟩
     ·exact(h5 i j hi hj b k hf).1 hm o hA
    ·have hf':(if i'=q.1/\j'=q.2 then y else e i' j').fp b k:=hf';split at hf
     ·rename_i e1;split at hf';·rename_i e2;exact hne (by rw[e1.1,e1.2,e2.1,e2.2])
      ·exact hsep b k hf (kK i' j' hi' hj' b k hf')
     ·split at hf';·exact hsep b k hf' (kK i j hi hj b k hf)
      ·exact(h5 i j hi hj b k hf).2 i' j' hi' hj' hne hf'
   ·obtain⟨hm,hA|⟨i,j,hi,hj,hf⟩⟩:=hf;·exact .inl ⟨rfl,.inl hA⟩
    ·have hf:(if i=q.1/\j=q.2 then y else e i j).fp b k:=hf;split at hf;·exact .inr hf
     ·exact .inl (kK i j hi hj b k hf)
  ·cases hq
 |ptr m g o n f=>
  obtain rfl:m=.own:=ho;simp only[step] at hq;split at hq
  ·rename_i hlt;injection hq with hq
   obtain⟨h1,h2,h3,h4⟩:=h;obtain⟨⟨a1,a2⟩,a3⟩:=agg n f (λc=>c.cell/\c.fits .own) (λj hj=>⟨⟨(h3 j hj).1,(h3 j hj).2.1⟩,(h3 j hj).2.2⟩) ⟨hc,by cases y<;>first|trivial|exact .inl rfl⟩ (λj hj b k hf j' hj' hne=>(h4 j hj b k hf).2 j' hj' hne) (λb k hf ⟨j,hj,hf'⟩=>hsep b k hf ⟨rfl,.inr ⟨j,hj,hf'⟩⟩);refine⟨⟨λj hj=>?_,h2,λj hj=>⟨(a1 j hj).1.1,(a1 j hj).1.2,(a1 j hj).2⟩,λj hj b k hf=>⟨λhm hh=>?_,λj' hj' hne=>a2 j hj b k hf j' hj' hne⟩⟩,λb k hf=>?_⟩;·rw[apP n f j hlt.2 hq];exact h1 j hj
   ·have hf:(b8 f q.2 y j).fp b k:=hf;unfold b8 at hf;split at hf;·exact hsep b k hf ⟨rfl,.inl hh⟩
    ·exact(h4 j hj b k hf).1 hm hh
   ·obtain⟨_,hh|hh⟩:=hf;·exact .inl ⟨rfl,.inl hh⟩
    ·exact(a3 b k hh).imp (λhh=>⟨rfl,.inr hh⟩) id
  ·cases hq
 |agg n f=>obtain⟨a1,a2⟩:=agg n f C.cell h.1 hc h.2 hsep;exact⟨a1,a2⟩
 |av n f=>obtain⟨a1,a2⟩:=agg n f C.gj h.1 hnt h.2 hsep;exact⟨a1,a2⟩
 |_=>exact ho.elim
end C
namespace Inv
variable {w:World}{zl zb:Nat->Nat->Prop}{G:Nat->C}{s:ah}
def Ah{r:Nat}{P:Path}{v:Value}(hd:(G r).sub P=some (.dead v)):∀c:C,c.rf G->c.free (C.bO r P)
 |.ref v' r' q,hr=>by obtain⟨y,z,hs,hF,_⟩:=hr;exact out hs (by cases hF<;>rfl)
 |.az v' r' q i c,hr=>by obtain⟨y,hs,hy⟩:=hr;exact out hs (by rcases hy with ⟨m,sz,g,o,len,cap,e,rfl,hv⟩|⟨m,g,o,n,cc,rfl,hi,hv⟩<;>rfl)
 |.cut v' r' q lo hi,hr=>by obtain⟨m,sz,A,len,cap,e,A',cap',hs,_⟩:=hr;exact out hs rfl
 |.ptr m g o n c,hr=>λj hj=>Ah hd (c j) (hr j hj)
 |.agg n c,hr=>λj hj=>Ah hd (c j) (hr j hj)
 |.av n c,hr=>λj hj=>Ah hd (c j) (hr j hj)
 |.fn f n c,hr=>λj hj=>Ah hd (c j) (hr j hj)
 |.dead _,_=>trivial
 |.int _ _,_=>trivial
 |.bool _,_=>trivial
 |.str _,_=>trivial
 |.row _ _ _ _ _ _,_=>trivial
where
 out {r':Nat} {q:Path} {y:C} (hs:(G r').sub q=some y) (hy:y.er.iW=true):C.bO r P r' q=false:=by
  unfold C.bO
  cases h1:(r'==r) with
  |false=>rfl
  |true=>
   cases h2:X.pfx P q with
   |false=>rfl
   |true=>
    exfalso
    have h1:r'=r:=by simpa using h1
    subst h1
    obtain⟨t,rfl⟩:=Nq P q h2
    rw[C.Jc P t hd] at hs
    cases t with
    |nil=>simp only[C.sub] at hs;injection hs with hs;subst hs;simp[C.er,X.iW] at hy
    |cons x t=>simp[C.sub,C.step] at hs
def ag2(h:Inv w zl zb G s){r:Nat}{p0:Path}{q:Nat×Nat}{d0 y:C}{v:Value}(h0:(G r).sub p0=some d0)(hq:d0.step q=some (.dead v))(ho:d0.qx)(hp:y.plain)(hv:y.val=v)(hok:y.ok w (Zf zl zb))
  (hsep:∀t b k,y.fp b k->¬(G t).fp b k)(hfz:∀b k,y.fp b k->¬zl b k/\¬zb b k):
  ∃G',G'=fQ G r (C.putAt p0 (G r) (d0.bp q y))/\Inv w zl zb G' ((r,X.putAt (p0++[q]) (get s r) y.er)::s)/\(∀t,(G' t).val=(G t).val)/\∀t b k,(G' t).fp b k->(G t).fp b k\/y.fp b k:=by
 have hd0:=C.iy p0 h0 (h.ok r);have hin:∀b k,d0.fp b k->(G r).fp b k:=λb k hf=>C.gM p0 h0 (h.ok r) hf;obtain⟨a1,a2⟩:=C.ajJ hd0 hq ho hp hv hok (λb k hf hf'=>hsep r b k hf (hin b k hf'));have FE:(G r).sub (p0++[q])=some (.dead v):=C.tu p0 h0 hq;obtain⟨⟨i1,i2,i3⟩,_⟩:=h.I7 r p0 (p0++[q]) d0 (d0.bp q y) y (S:=λ_ _=>False) (C.CH p0 h0 hq) (λt=>Ah FE (G t) (h.rf t)) (Ext.refl _ _) h0 (λ_ _ hf=>hf.elim) a1 (C.iA.bp d0 q (.dead v) y hq (by rw[hv];rfl)) (C.oU hp G) (by cases y<;>first|trivial|exact hp.elim) (λb k hf=>(a2 b k hf).imp id λhf=>⟨λt=>hsep t b k hf,hfz b k hf⟩)
 refine⟨_,rfl,i1,i2,λt b k hf=>?_⟩;rcases i3 t b k hf with ⟨e,jM⟩|jM;·rw[e];exact(a2 b k jM).imp (hin b k) id
 ·exact .inl jM
end Inv
end M
namespace M
open Go Go.RowKit
variable [Bs]
namespace C
def VJ:∀(P:Path) {c d y:C},c.sub P=some d->y.val=d.val->(putAt P c y).val=c.val
 |[],c,d,y,h,hv=>by simp only[sub] at h;injection h with h;subst h;exact hv
 |x::P,c,d,y,h,hv=>by
  simp only[sub] at h;cases hst:c.step x with
  |none=>rw[hst] at h;cases h
  |some z=>rw[hst] at h;simp only[putAt,hst];exact(iA.bp c x z _ hst (VJ P h hv)).val
def alm{c z:C}{x x':Nat×Nat}(hst:c.step x=some z)(hne:x'≠x)(y:C):(c.bp x y).step x'=c.step x':=by
 have hu:∀f:Nat->C,x'.1=0->x.1=0->b8 f x.2 y x'.2=f x'.2:=λf h1 h2=>by unfold b8;rw[aE];intro e;apply hne;cases x;cases x';simp_all
 cases c with
 |row m sz A len cap e=>
  simp only[bp,step];split;·congr 1;rw[aE];rintro ⟨e1,e2⟩;exact hne (Prod.ext e1 e2)
  ·rfl
 |ptr m g o n f=>
  simp only[step] at hst;split at hst
  ·rename_i h0;simp only[bp,step];split;·rename_i hh;rw[hu f hh.1 h0.1]
   ·rfl
  ·cases hst
 |agg n f=>
  simp only[step] at hst;split at hst
  ·rename_i h0;simp only[bp,step];split;·rename_i hh;rw[hu f hh.1 h0.1]
   ·rfl
  ·cases hst
 |av n f=>
  simp only[step] at hst;split at hst
  ·rename_i h0;simp only[bp,step];split;·rename_i hh;rw[hu f hh.1 h0.1]
   ·rfl
  ·cases hst
 |_=>rfl
def Vm:∀(P q:Path) {c d y z:C},c.sub P=some d->y.val=d.val->X.pfx P q=false->(putAt P c y).sub q=some z->∃z0,c.sub q=some z0/\z.val=z0.val/\(z0.plain->z.plain)
 |[],q,c,d,y,z,_,_,h,_=>by simp[X.pfx] at h
 |x::P,q,c,d,y,z,hd,hv,hp,hs=>by
  simp only[sub] at hd;cases hst:c.step x with
  |none=>rw[hst] at hd;cases hd
  |some c1=>
   rw[hst] at hd;have hd':c1.sub P=some d:=hd;have hval:=VJ P hd' hv;cases q with
   |nil=>
    simp only[sub,putAt,hst] at hs;injection hs with hs
    subst hs;refine⟨c,rfl,(iA.bp c x c1 _ hst hval).val,λhpl=>?_⟩;cases c<;>first|exact hpl|trivial
   |cons x' q=>
    simp only[sub,putAt,hst] at hs;by_cases hne:x'=x
    ·subst hne;rw[Vj hst] at hs;have hp':X.pfx P q=false:=by simpa [X.pfx] using hp
     obtain⟨z0,a1,a2⟩:=Vm P q hd' hv hp' hs;exact⟨z0,by simp only[sub,hst];exact a1,a2⟩
    ·rw[alm hst hne] at hs;exact⟨z,hs,rfl,λh=>h⟩
end C
variable {w:World}{zl zb:Nat->Nat->Prop}
def ag3{G:Nat->C}{s:ah}(h:Inv w zl zb G s){r:Nat}{p:Path}(hg:Fu s r p=true):∃p0 q d0 v,p=p0++[q]/\(G r).sub p0=some d0/\d0.step q=some (.dead v)/\d0.qx:=by
 unfold Fu at hg;split at hg
 ·rename_i hl;split at hg
  ·rename_i q hq
   have hp:p=p.dropLast++[q]:=by
    have hne:p≠[]:=by intro e;subst e;simp at hq
    rw[List.getLast?_eq_some_getLast hne] at hq;injection hq with hq
    rw[<-hq];exact(List.dropLast_concat_getLast hne).symm
   have own:∀x,look s r p.dropLast=some x->∃d0,(G r).sub p.dropLast=some d0/\d0.er=x:=λx hx=>by
    unfold look at hx;rw[<-h.er,C.gL] at hx;cases hs:(G r).sub p.dropLast with
    |none=>rw[hs] at hx;cases hx
    |some d0=>rw[hs] at hx;exact⟨d0,rfl,by simpa using hx⟩
   have fin:∀d0,(G r).sub p.dropLast=some d0->d0.qx->∃p0 q d0 v,p=p0++[q]/\(G r).sub p0=some d0/\d0.step q=some (.dead v)/\d0.qx:=λd0 h0 ho=>by
    unfold look at hl;rw[<-h.er,C.gL,hp,C.Jc p.dropLast [q] h0] at hl;have hl':((d0.step q).bind λz=>some z).map C.er=some .dead:=by simpa [C.sub] using hl
    cases hst:d0.step q with
    |none=>rw[hst] at hl';cases hl'
    |some z=>
     rw[hst] at hl';have:z.er=.dead:=by simpa using hl'
     cases z with
     |dead v=>exact⟨p.dropLast,q,d0,v,hp,h0,hst,ho⟩
     |_=>simp[C.er] at this
   split at hg
   ·rename_i hx;obtain⟨d0,a1,a2⟩:=own _ hx
    have:d0.qx:=by
     cases d0 with
     |row m sz A len cap e=>simp only[C.er,X.row.injEq] at a2;exact a2.1
     |_=>simp[C.er] at a2
    exact fin _ a1 this
   ·rename_i hx;obtain⟨d0,a1,a2⟩:=own _ hx
    have:d0.qx:=by
     cases d0 with
     |ptr m g o n c=>simp only[C.er,X.ptr.injEq] at a2;exact a2.1
     |_=>simp[C.er] at a2
    exact fin _ a1 this
   ·rename_i hx;obtain⟨d0,a1,a2⟩:=own _ hx;have:d0.qx:=by cases d0<;>first|trivial|(simp[C.er] at a2)
    exact fin _ a1 this
   ·rename_i hx;obtain⟨d0,a1,a2⟩:=own _ hx;have:d0.qx:=by cases d0<;>first|trivial|(simp[C.er] at a2)
    exact fin _ a1 this
   ·cases hg
  ·cases hg
 ·cases hg
def Uo{r:Nat}{p:Path}:∀{l:List X},vl r p l=true->∀r' p',X.ref r' p'∈l->¬(r'=r/\X.pfx p p'=true)
 |[],_,_,_,hm=>by cases hm
 |x::l,h,r',p',hm=>by
  rcases ck.1 hm with rfl|hm
  ·simp only[vl,aC,zG,Bool.and_eq_false_iff,beq_eq_false_iff_ne] at h;rintro ⟨rfl,h2⟩;rcases h.1 with h1|h1;·exact h1 rfl
   ·rw[h1] at h2;cases h2
  ·refine Uo (l:=l) ?_ r' p' hm;cases x<;>first|exact h|(simp only[vl,aC] at h;exact h.2)
def EF:∀(cs ys:List C) {G:Nat->C} {s s':ah},Inv w zl zb G s->ys.length=cs.length->(∀v r p,C.ref v r p∈cs->weak G v r p)->
  (∀(i:Nat) c y,cs[i]?=some c->ys[i]?=some y->y.plain/\y.val=c.val/\y.ok w (Zf zl zb))->(∀y∈ys,(∀t b k,y.fp b k->¬(G t).fp b k)/\∀b k,y.fp b k->¬zl b k/\¬zb b k)->
  (ys.Pairwise λa b=>∀x k,a.fp x k->¬b.fp x k)->mY (cs.map C.er) (ys.map C.er) s=some s'->
  ∃G',Inv w zl zb G' s'/\(∀t,(G' t).val=(G t).val)/\∀t b k,(G' t).fp b k->(G t).fp b k\/∃y∈ys,y.fp b k
 |[],ys,G,s,s',h,_,_,_,_,_,hb=>by simp only[mT,mY,dX] at hb;subst hb;exact⟨G,h,λ_=>rfl,λt b k hf=>.inl hf⟩
 |c::cs,[],_,_,_,_,hl,_,_,_,_,_=>by simp at hl
 |c::cs,y::ys,G,s,s',h,hl,hw,hy,hsep,gZ,hb=>by
  have hl':ys.length=cs.length:=by simpa using hl
  obtain⟨hp,hv,hok⟩:=hy 0 c y rfl rfl;have xd:=fG.1 gZ;have skip:mY (cs.map C.er) (ys.map C.er) s=some s'->∃G',Inv w zl zb G' s'/\(∀t,(G' t).val=(G t).val)/\∀t b k,(G' t).fp b k->(G t).fp b k\/∃y'∈y::ys,y'.fp b k:=λhb=>by obtain⟨G',g1,g2,g3⟩:=EF cs ys h hl' (λv r p hm=>hw v r p (cl _ hm)) (λi c y h1 h2=>hy (i+1) c y (by simpa using h1) (by simpa using h2)) (λy hm=>hsep y (cl _ hm)) xd.2 hb;exact⟨G',g1,g2,λt b k hf=>(g3 t b k hf).imp id λ⟨y,hm,hf⟩=>⟨y,cl _ hm,hf⟩⟩
  cases c with
  |ref v r p=>
   simp only[bE,C.er,mY] at hb;cases hg:(Fu s r p && vl r p (cs.map C.er)) with
   |false=>rw[hg] at hb;cases hb
   |true=>
    rw[hg,lY] at hb;simp only[aC] at hg;obtain⟨p0,q,d0,v0,hpq,h0,hq,ho⟩:=ag3 h hg.1;have FE:(G r).sub p=some (.dead v0):=by rw[hpq];exact C.tu p0 h0 hq
    have hv0:v0=v:=(hw v r p (bH ..) _ FE).1;have oD:y.val=v0:=by rw[hv,hv0];rfl
    obtain⟨G1,e1,i1,i2,i3⟩:=h.ag2 h0 hq ho hp oD hok (hsep y (bH ..)).1 (hsep y (bH ..)).2;rw[<-hpq] at i1;have he:C.putAt p0 (G r) (d0.bp q y)=C.putAt p (G r) y:=by rw[hpq,C.CH p0 h0 hq]
    rw[he] at e1
    obtain⟨G',g1,g2,g3⟩:=EF cs ys i1 hl' (λv' r' p' hm=>by
     have hold:=hw v' r' p' (cl _ hm);have hno:=Uo hg.2 r' p' (by have:=fR (f:=C.er) hm;exact this);intro z hz;rw[e1] at hz;by_cases er:r'=r
     ·subst er;rw[dL] at hz
      have hpf:X.pfx p p'=false:=by
       cases hh:X.pfx p p' with
       |false=>rfl
       |true=>exact(hno ⟨rfl,hh⟩).elim
      obtain⟨z0,a1,a2,a3⟩:=C.Vm p p' FE (by rw[oD];rfl) hpf hz;obtain⟨b1,b2⟩:=hold z0 a1;exact⟨a2.trans b1,a3 b2⟩
     ·rw[dz _ _ er] at hz;exact hold z hz) (λi c y h1 h2=>hy (i+1) c y (by simpa using h1) (by simpa using h2)) (λy' hm=>⟨λt b k hf hf'=>by
      rcases i3 t b k hf' with hh|hh;·exact(hsep y' (cl _ hm)).1 t b k hf hh
      ·exact xd.1 y' hm b k hh hf,(hsep y' (cl _ hm)).2⟩) xd.2 hb
    refine⟨G',g1,λt=>(g2 t).trans (i2 t),λt b k hf=>?_⟩;rcases g3 t b k hf with hh|⟨y',hm,hh⟩
    ·rcases i3 t b k hh with hh|hh;·exact .inl hh
     ·exact .inr ⟨y,bH ..,hh⟩
    ·exact .inr ⟨y',cl _ hm,hh⟩
  |_=>exact skip (by simpa only[bE,C.er,mY] using hb)
end M
namespace M
open Go Go.RowKit
variable [Bs]
def ajK{v:Value}(h:v.oneCell'=true):v.cells= #[v]:=by cases v<;>first|rfl|(simp[Value.oneCell'] at h)
namespace St
variable {c:Ctx}{G G1:Nat->C}{zl:Nat->Nat->Prop}{s s1:ah}{a:Act}{w w':World}
def move(h:St c G zl s a w)(hi:Inv w' zl c.zb G1 s1)(hv:∀t,(G1 t).val=(G t).val){S:Nat->Nat->Prop}(hE:Ext S w w')(hS:∀b k,S b k->c.F0 b k\/c.w0.heap.size<=b)
  (hd:∀t b k,(G1 t).fp b k->(∃u,(G u).fp b k)\/w.heap.size<=b):St c G1 zl s1 a w' where
 inv:=hi
 val:=λt ht=>(hv t).trans (h.val t ht)
 size:=h.size
 small:=h.small
 defers:=h.defers
 tr:=⟨h.tr.ext.trans hE (λb k hs hb=>(hS b k hs).elim id (λhs=>by omega)),λt b k hf=>by
  rcases hd t b k hf with ⟨u,hu⟩|hb;·exact h.tr.dom u b k hu
  ·exact .inr (e8 h.tr.ext.size hb),h.tr.pL,h.tr.zl,h.tr.gl,h.tr.Av⟩
 args:=λi v hi=>(hv _).trans (h.args i v hi)
def put(h:St c G zl s a w){x:C}{n:Nat}(hn:n<c.nt)(hok:x.ok w (Zf zl c.zb))(hsep:∀t,t≠n->∀b k,x.fp b k->¬(G t).fp b k)(hfz:∀b k,x.fp b k->¬zl b k/\¬c.zb b k)(hrf:x.rf G)
  (hdom:∀b k,x.fp b k->c.F0 b k\/c.w0.heap.size<=b):∃G',St c G' zl (M.put n x.er s) (a.put (some n) x.val) w:=by
 obtain⟨G',i1,i2,i3,i4,i5⟩:=h.inv.put n x hok hsep hfz hrf;refine⟨G',⟨i1,λt ht=>?_,by simp[Act.put,h.size],h.small,by simpa [Act.put] using h.defers,⟨h.tr.ext,λt b k hf=>?_,h.tr.pL,h.tr.zl,h.tr.gl,h.tr.Av⟩,λi v hi=>?_⟩⟩
 ·by_cases e:t=n;·subst e;rw[i2];simp only[Act.put,vY];rw[Wf (by rw[h.size];exact hn)];rfl
  ·rw[i3 t e,h.val t ht];simp only[Act.put,vY];rw[PI (λe'=>e e'.symm)]
 ·by_cases e:t=n;·subst e;exact hdom b k (i4 b k hf)
  ·exact h.tr.dom t b k (i5 t e b k hf)
 ·rw[i3 _ (by have:=h.small;omega)];exact h.args i v hi
def OI(h:St c G zl s a w){x:C}(hT:fI w zl c.zb G x G1 s1){n:Nat}(hn:n<c.nt):∃G',St c G' zl (M.put n x.er s1) (a.put (some n) x.val) w:=by have h1:St c G1 zl s1 a w:=h.move hT.inv hT.val (Ext.refl (λ_ _=>False) w) (λ_ _ hs=>hs.elim) (λt b k hf=>.inl ⟨t,hT.mono t b k hf⟩);exact h1.put hn hT.ok (λt _ b k hf=>hT.sep t b k hf) hT.fz hT.rf (λb k hf=>by obtain⟨t,ht⟩:=hT.dom b k hf;exact h.tr.dom t b k ht)
def CD(h:St c G zl s a w){x:C}(ho:eL w zl c.zb G x){n:Nat}(hn:n<c.nt):∃G',St c G' zl (M.put n x.er s) (a.put (some n) x.val) w:=
 h.OI (fI.self h.inv ho.ok ho.rf ho.cY) hn
def flat(h:St c G zl s a w){x:C}(hp:x.plain)(LZ:∀m sz A len cap e,x≠.row m sz A len cap e)(hok:x.ok w (Zf zl c.zb)){n:Nat}(hn:n<c.nt):∃G',St c G' zl (M.put n x.er s) (a.put (some n) x.val) w:=
 h.CD ⟨hok,C.oU hp G,λb k hf=>by cases x<;>first|exact hf.elim|exact hp.elim|exact(LZ _ _ _ _ _ _ rfl).elim⟩ hn
end St
def Good(P:Program)(c:Ctx)(o:Oper)(a:Act)(w:World)(K:ah->Prop):Prop:=
 ∃v w',((execOp a.eval o).run P w=.ok (.value v) w'\/((execOp a.eval o).run P w=.ok .skip w'/\v=undef))/\∃G' aM s',K s'/\St c G' aM s' (a.put o.dst v) w'
def dQ(P:Program)(c:Ctx)(o:Oper)(a:Act)(w:World)(K:ah->Prop):Prop:=
 ∃v,(∀w',Ext (λ_ _=>False) w w'->(execOp a.eval o).run P w'=.ok (.value v) w')/\∃G' aM s',K s'/\St c G' aM s' (a.put o.dst v) w
def dQ.good{P:Program}{c:Ctx}{o:Oper}{a:Act}{w:World}{K:ah->Prop}(h:dQ P c o a w K):Good P c o a w K:=by obtain⟨v,hr,h⟩:=h;exact⟨v,w,.inl (hr w (Ext.refl _ _)),h⟩
def Rel(q:Bool)(w w':World):Prop:=q=true->Ext (λ_ _=>False) w w'
def Rel.refl(q:Bool)(w:World):Rel q w w:=λ_=>Ext.refl _ _
def jY(P:Program)(c:Ctx)(o:Oper)(a:Act)(w:World)(K:ah->Prop):Prop:=
 ∃v w',(execOp a.eval o).run P w=.ok (.value v) w'/\Ext (λ_ _=>False) w w'/\∃G' aM s',K s'/\St c G' aM s' (a.put o.dst v) w'
def jY.good{P:Program}{c:Ctx}{o:Oper}{a:Act}{w:World}{K:ah->Prop}(h:jY P c o a w K):Good P c o a w K:=by obtain⟨v,w',hr,_,h⟩:=h;exact⟨v,w',.inl hr,h⟩
def dQ.quiet{P:Program}{c:Ctx}{o:Oper}{a:Act}{w:World}{K:ah->Prop}(h:dQ P c o a w K):jY P c o a w K:=by obtain⟨v,hr,h⟩:=h;exact⟨v,w,hr w (Ext.refl _ _),Ext.refl _ _,h⟩
def EX:Value->X->Bool
 |.int k n,.int k' n'=>decide (k=k') && decide (n=n')
 |.bool b,.bool b'=>b==b'
 |.string s,.str s'=>decide (s=s') && decide (s.size<=9223372036854775807)
 |.slice none 0 0,.row .own _ []=>true
 |_,_=>false
def aR:Operand->AV->Bool
 |.tmp n,.t n'=>n==n' && decide (n<base)
 |.const v,.k .dead=>true
 |.const v,.k x=>EX v x
 |.func f,.k (.fn f' [])=>f==f'
 |_,_=>false
section
variable {c:Ctx}{G:Nat->C}{zl:Nat->Nat->Prop}{s:ah}{a:Act}{w:World}
def Rh{v:Value}{x:X}(h:EX v x=true):∃d:C,d.er=x/\d.val=v/\eL w zl c.zb G d/\d.plain:=by
 unfold EX at h;split at h;·simp only[aC,bD] at h;obtain⟨rfl,rfl⟩:=h;exact⟨.int _ _,rfl,rfl,⟨trivial,trivial,λ_ _ h=>h⟩,trivial⟩
 ·simp only[eH] at h;subst h;exact⟨.bool _,rfl,rfl,⟨trivial,trivial,λ_ _ h=>h⟩,trivial⟩
 ·simp only[aC,bD] at h;obtain⟨rfl,h⟩:=h;exact⟨.str _,rfl,rfl,⟨h,trivial,λ_ _ h=>h⟩,trivial⟩
 ·rename_i sz;refine⟨.row .own sz none 0 0 λ_ _=>.dead undef,rfl,rfl,⟨⟨eP _,λi j hi=>(by omega),λi j hi=>(by omega),λ_=>.inl ⟨rfl,rfl⟩,λi j hi=>(by omega)⟩,trivial,?_⟩,trivial⟩;rintro b k ⟨_,⟨o,ho⟩|⟨i,j,hi,_⟩⟩;·cases ho
  ·omega
 ·cases h
def cr(h:St c G zl s a w){o:Operand}{x:AV}(hc:aR o x=true):∃d:C,d.er=ay s x/\d.val=a.eval o/\eL w zl c.zb G d:=by
 unfold aR at hc;split at hc;·simp only[aC,eH,bD] at hc;obtain⟨rfl,hb⟩:=hc;rename_i n;obtain⟨a1,a2,a3⟩:=Ul h n;exact⟨_,a1,a2.trans (h.val n hb),a3⟩
 ·rename_i v;exact⟨.dead v,rfl,rfl,⟨trivial,trivial,λ_ _ h=>h⟩⟩
 ·obtain⟨d,h1,h2,h3,_⟩:=Rh (w:=w) (zl:=zl) (c:=c) (G:=G) hc;exact⟨d,h1,h2,h3⟩
 ·simp only[eH] at hc;subst hc;exact⟨.fn _ 0 λ_=>.dead undef,rfl,rfl,⟨λj hj=>(by omega),λj hj=>(by omega),λ_ _ h=>h⟩⟩
 ·cases hc
def nk{d:C}{k:IntKind}{n:Int}(h:d.er=.int k n):d=.int k n:=by cases d<;>simp[C.er] at h⊢ <;>first|exact h|skip
def rO{d:C}{b:Bool}(h:d.er=.bool b):d=.bool b:=by cases d<;>simp[C.er] at h⊢;exact h
def E8{d:C}{t:ByteArray}(h:d.er=.str t):d=.str t:=by cases d<;>simp[C.er] at h⊢;exact h
def Uk{P:Program}(h:St c G zl s a w){o:Oper}{K:ah->Prop}{d:Nat}{x:AV}{x':Operand}(ho:o.op=.move x'\/o.op=.assign x')(hd:o.dst=some d)(hn:d<c.nt)(hx:aR x' x=true)(hK:aV P (.mv d x) s K):dQ P c o a w K:=by
 obtain⟨y,e1,e2,e3⟩:=cr h hx;obtain⟨G',h'⟩:=h.CD e3 hn;refine⟨a.eval x',λw' _=>?_,G',zl,_,hK,?_⟩;·rcases ho with ho|ho<;>simp[execOp,ho]
 ·rw[hd,<-e2,<-e1];exact h'
def ajP{P:Program}(h:St c G zl s a w){o:Oper}{K:ah->Prop}{d:Nat}{tk:Tk}{x:AV}{x':Operand}(ho:o.op=.assign x')(hd:o.dst=some d)(hn:d<c.nt)(hx:aR x' x=true)(hK:aV P (.aU d tk x) s K):jY P c o a w K:=by obtain⟨y,e1,e2,e3⟩:=cr h hx;obtain⟨y',G1,f1,f2,_,f4⟩:=qN tk h.inv e3;obtain⟨G',h'⟩:=h.OI f4 hn;refine⟨a.eval x',w,by simp[execOp,ho],Ext.refl _ _,G',zl,_,hK,?_⟩;rw[hd,<-e2,<-f2,<-e1,<-f1];exact h'
def ake{P:Program}(h:St c G zl s a w){o:Oper}{K:ah->Prop}{d:Nat}{x y z:AV}{x' y' z':Operand}(ho:o.op=.pick x' y' z')(hd:o.dst=some d)(hn:d<c.nt)(hx:aR x' x=true)(hy:aR y' y=true)(hz:aR z' z=true)
  (hK:aV P (.pick d x y z) s K):dQ P c o a w K:=by
 obtain⟨p,p1,p2,p3⟩:=cr h hx;obtain⟨q,q1,q2,q3⟩:=cr h hy;obtain⟨r,r1,r2,r3⟩:=cr h hz;simp only[aV] at hK;split at hK
 ·rename_i t ht;rw[<-p1] at ht;have hp:=rO ht;subst hp
  have hsel:∃u:C,u.er=CE t (ay s y) (ay s z)/\u.val=(if t then a.eval y' else a.eval z')/\eL w zl c.zb G u:=by
   rw[<-q1,<-r1,<-q2,<-r2];unfold CE;split;·rename_i b1 b2 h1 h2;have hq:=rO h1;have hr:=rO h2;subst hq;subst hr;refine⟨.bool (bif t then b1 else b2),rfl,?_,⟨trivial,trivial,λ_ _ h=>h⟩⟩;cases t<;>rfl
   ·cases t;·exact⟨r,rfl,rfl,r3⟩
    ·exact⟨q,rfl,rfl,q3⟩
  obtain⟨u,u1,u2,u3⟩:=hsel;obtain⟨G',h'⟩:=h.CD u3 hn;refine⟨if t then a.eval y' else a.eval z',λw' _=>?_,G',zl,_,hK,?_⟩
  ·have:a.eval x'=.bool t:=by rw[<-p2];rfl
   simp[execOp,ho,this,asBool]
  ·rw[hd,<-u2,<-u1];exact h'
 ·exact hK.elim
end
end M
namespace M
open Go Go.RowKit
variable [Bs]
section
variable {P:Program}{c:Ctx}{G:Nat->C}{zl:Nat->Nat->Prop}{s:ah}{a:Act}{w:World}{o:Oper}{K:ah->Prop}
def Kf(x y:ByteArray):(x.toList==y.toList)=decide (x=y):=by
 rw[JM];simp only[eH,bD,Go.ByteArray.toList_eq];constructor;·intro h;cases x;cases y;congr 1;exact Array.toList_inj.1 h
 ·intro h;rw[h]
def dY(h:St c G zl s a w){d:Nat}(hd:o.dst=some d)(hn:d<c.nt){x:C}(hp:x.plain)(LZ:∀m sz A len cap e,x≠.row m sz A len cap e)(hok:x.ok w (Zf zl c.zb))
  (hrun:∀w',Ext (λ_ _=>False) w w'->(execOp a.eval o).run P w'=.ok (.value x.val) w')(hK:K (put d x.er s)):dQ P c o a w K:=by obtain⟨G',h'⟩:=h.flat hp LZ hok hn;exact⟨_,hrun,G',zl,_,hK,by rw[hd];exact h'⟩
def jJ(h:St c G zl s a w){d:Nat}(hd:o.dst=some d)(hn:d<c.nt){x:C}(hx:eL w zl c.zb G x)
  (hrun:∀w',Ext (λ_ _=>False) w w'->(execOp a.eval o).run P w'=.ok (.value x.val) w')(hK:K (put d x.er s)):dQ P c o a w K:=by obtain⟨G',h'⟩:=h.CD hx hn;exact⟨_,hrun,G',zl,_,hK,by rw[hd];exact h'⟩
def akl(h:St c G zl s a w){d:Nat}{op:UnOp}{ty:TypeId}{x:AV}{x':Operand}(ho:o.op=.unOp op ty x')(hd:o.dst=some d)(hn:d<c.nt)(hx:aR x' x=true)
  (hK:aV P (.un d op x) s K):dQ P c o a w K:=by
 obtain⟨y,e1,e2,e3⟩:=cr h hx;obtain⟨k1,k2⟩:=hK;rw[<-e1] at k1 k2;cases y with
 |int k n=>cases op<;>simp only[zo,C.er] at k1;refine dY h hd hn (x:=.int k (k.wrap (0 - n))) trivial (λ_ _ _ _ _ _ e=>(by cases e)) trivial (λw' _=>?_) k2;simp[execOp,ho,<-e2,C.val,Op.unary,Op.intArith]
 |bool b=>cases op<;>simp only[zo,C.er] at k1;refine dY h hd hn (x:=.bool (!b)) trivial (λ_ _ _ _ _ _ e=>(by cases e)) trivial (λw' _=>?_) k2;simp[execOp,ho,<-e2,C.val,Op.unary]
 |_=>cases op<;>exact k1.elim
def ajR(h:St c G zl s a w){d:Nat}{op:BinOp}{ty ty':TypeId}{x y:AV}{x' y':Operand}(ho:o.op=.binOp op ty x' y' ty')(hd:o.dst=some d)(hn:d<c.nt)(hx:aR x' x=true)(hy:aR y' y=true)
  (hK:aV P (.bin d op x y) s K):dQ P c o a w K:=by
 obtain⟨p,p1,p2,p3⟩:=cr h hx;obtain⟨q,q1,q2,q3⟩:=cr h hy;obtain⟨k1,k2⟩:=hK;rw[<-p1,<-q1] at k1 k2;cases p with
 |int k m=>
  cases q with
  |int k' n=>
   have hrun:∀v:C,(∀w,(binOp op ty (.int k m) (.int k' n)).run P w=.ok v.val w)->∀w',Ext (λ_ _=>False) w w'->(execOp a.eval o).run P w'=.ok (.value v.val) w':=by
    intro v hv w' _;have hg:eqGuard op ty x' y' (.int k m) (.int k' n)=pure ():=by unfold eqGuard;cases op<;>rfl
    simp[execOp,ho,<-p2,<-q2,C.val,hg,hv]
   cases op<;>simp only[wG,C.er] at k1;case add=>subst k1;exact dY h hd hn (x:=.int k _) trivial (λ_ _ _ _ _ _ e=>(by cases e)) trivial (hrun _ (λw=>by simp[binOp,Op.intArith,C.val])) k2
   case sub=>subst k1;exact dY h hd hn (x:=.int k _) trivial (λ_ _ _ _ _ _ e=>(by cases e)) trivial (hrun _ (λw=>by simp[binOp,Op.intArith,C.val])) k2
   case mul=>subst k1;exact dY h hd hn (x:=.int k _) trivial (λ_ _ _ _ _ _ e=>(by cases e)) trivial (hrun _ (λw=>by simp[binOp,Op.intArith,C.val])) k2
   case quo=>obtain⟨rfl,k1⟩:=k1;exact dY h hd hn (x:=.int k _) trivial (λ_ _ _ _ _ _ e=>(by cases e)) trivial (hrun _ (λw=>by simp[binOp,Op.intDiv,C.val,k1])) k2
   case rem=>obtain⟨rfl,k1⟩:=k1;exact dY h hd hn (x:=.int k _) trivial (λ_ _ _ _ _ _ e=>(by cases e)) trivial (hrun _ (λw=>by simp[binOp,Op.intDiv,C.val,k1])) k2
   case shl=>exact dY h hd hn (x:=.int k _) trivial (λ_ _ _ _ _ _ e=>(by cases e)) trivial (hrun _ (λw=>by simp[binOp,Op.shift,C.val,show ¬n<0 by omega])) k2
   case shr=>exact dY h hd hn (x:=.int k _) trivial (λ_ _ _ _ _ _ e=>(by cases e)) trivial (hrun _ (λw=>by simp[binOp,Op.shift,C.val,show ¬n<0 by omega])) k2
   case and=>subst k1;exact dY h hd hn (x:=.int k _) trivial (λ_ _ _ _ _ _ e=>(by cases e)) trivial (hrun _ (λw=>by simp[binOp,Op.intBits,C.val])) k2
   case or=>subst k1;exact dY h hd hn (x:=.int k _) trivial (λ_ _ _ _ _ _ e=>(by cases e)) trivial (hrun _ (λw=>by simp[binOp,Op.intBits,C.val])) k2
   case xor=>subst k1;exact dY h hd hn (x:=.int k _) trivial (λ_ _ _ _ _ _ e=>(by cases e)) trivial (hrun _ (λw=>by simp[binOp,Op.intBits,C.val])) k2
   case eql=>subst k1;exact dY h hd hn (x:=.bool _) trivial (λ_ _ _ _ _ _ e=>(by cases e)) trivial (hrun _ (λw=>by simp only[binOp,Op.intCmp,C.val,aE (Classical.not_not.2 rfl)];rfl)) k2
   case neq=>subst k1;exact dY h hd hn (x:=.bool _) trivial (λ_ _ _ _ _ _ e=>(by cases e)) trivial (hrun _ (λw=>by simp only[binOp,Op.intCmp,C.val,aE (Classical.not_not.2 rfl)];rfl)) k2
   case lss=>subst k1;exact dY h hd hn (x:=.bool _) trivial (λ_ _ _ _ _ _ e=>(by cases e)) trivial (hrun _ (λw=>by simp[binOp,Op.intCmp,C.val])) k2
   case leq=>subst k1;exact dY h hd hn (x:=.bool _) trivial (λ_ _ _ _ _ _ e=>(by cases e)) trivial (hrun _ (λw=>by simp[binOp,Op.intCmp,C.val])) k2
   case gtr=>subst k1;exact dY h hd hn (x:=.bool _) trivial (λ_ _ _ _ _ _ e=>(by cases e)) trivial (hrun _ (λw=>by simp[binOp,Op.intCmp,C.val])) k2
   case geq=>subst k1;exact dY h hd hn (x:=.bool _) trivial (λ_ _ _ _ _ _ e=>(by cases e)) trivial (hrun _ (λw=>by simp[binOp,Op.intCmp,C.val])) k2
  |_=>exact k1.elim
 |str m=>
  cases q with
  |str n=>
   have hrun:∀v:C,(∀w,(binOp op ty (.string m) (.string n)).run P w=.ok v.val w)->∀w',Ext (λ_ _=>False) w w'->(execOp a.eval o).run P w'=.ok (.value v.val) w':=by
    intro v hv w' _;have hg:eqGuard op ty x' y' (.string m) (.string n)=pure ():=by unfold eqGuard;cases op<;>rfl
    simp[execOp,ho,<-p2,<-q2,C.val,hg,hv]
   cases op<;>simp only[wG,C.er] at k1
   case add=>
    have hsz:(m++n).size=m.size+n.size:=by simp
    exact dY h hd hn (x:=.str _) trivial (λ_ _ _ _ _ _ e=>(by cases e)) (by show (m++n).size<=_;omega) (hrun _ (λw=>by
     have:¬((m.size+n.size:Nat):Int)>IntKind.i64.max:=by show ¬(((m.size+n.size:Nat):Int)>9223372036854775807);omega
     simp only[binOp,Op.stringOp,aE this,C.val,Sem.run_pure])) k2
   case eql=>exact dY h hd hn (x:=.bool _) trivial (λ_ _ _ _ _ _ e=>(by cases e)) trivial (hrun _ (λw=>by simp only[binOp,Op.stringOp,C.val,Kf,Sem.run_pure])) k2
   case neq=>exact dY h hd hn (x:=.bool _) trivial (λ_ _ _ _ _ _ e=>(by cases e)) trivial (hrun _ (λw=>by simp only[binOp,Op.stringOp,C.val,Kf,Sem.run_pure])) k2
  |_=>exact k1.elim
 |_=>exact k1.elim
def run_eql_bool{ty:TypeId}(ht:P.underlying ty=some .bool)(x y:Bool):(binOp .eql ty (.bool x) (.bool y)).run P w=.ok (.bool (x==y)) w:=by show ((do pure (Value.bool (<-Op.equal ty (.bool x) (.bool y))):Sem Value).run P w)=_;rw[Sem.run_bind];unfold Op.equal;show ((Op.equalIn (9999+1) ty (.bool x) (.bool y)).run P w).andThen _=_;rw[run_equalIn_bool' w 9999 ty x y ht];rfl
def run_neq_bool{ty:TypeId}(ht:P.underlying ty=some .bool)(x y:Bool):(binOp .neq ty (.bool x) (.bool y)).run P w=.ok (.bool (!(x==y))) w:=by show ((do pure (Value.bool (!(<-Op.equal ty (.bool x) (.bool y)))):Sem Value).run P w)=_;rw[Sem.run_bind];unfold Op.equal;show ((Op.equalIn (9999+1) ty (.bool x) (.bool y)).run P w).andThen _=_;rw[run_equalIn_bool' w 9999 ty x y ht];rfl
def Sw(op:BinOp)(ty:TypeId)(p q:Operand)(x y:Bool):eqGuard op ty p q (.bool x) (.bool y)=pure ():=by unfold eqGuard;cases op<;>rfl
def ajQ(h:St c G zl s a w){d:Nat}{neg:Bool}{ty ty':TypeId}{x y:AV}{x' y':Operand}(ho:o.op=.binOp (bif neg then .neq else .eql) ty x' y' ty')(ht:P.underlying ty=some .bool)(hd:o.dst=some d)(hn:d<c.nt)(hx:aR x' x=true)(hy:aR y' y=true)
  (hK:aV P (.beq d neg x y) s K):dQ P c o a w K:=by
 obtain⟨p,p1,p2,p3⟩:=cr h hx;obtain⟨q,q1,q2,q3⟩:=cr h hy;simp only[aV] at hK;split at hK
 ·rename_i b1 b2 h1 h2;rw[<-p1] at h1;rw[<-q1] at h2;have e1:=rO h1;have e2:=rO h2;subst e1;subst e2;refine dY h hd hn (x:=.bool (xor neg (b1==b2))) trivial (λ_ _ _ _ _ _ e=>(by cases e)) trivial (λw' _=>?_) hK;cases neg;·simp only[execOp,ho,<-p2,<-q2,C.val,Sw,Sem.run_bind,Sem.run_pure,Result.andThen_ok,qU,run_eql_bool ht,Bool.false_bne]
  ·simp only[execOp,ho,<-p2,<-q2,C.val,Sw,Sem.run_bind,Sem.run_pure,Result.andThen_ok,lY,run_neq_bool ht,Bool.true_bne]
 ·exact hK.elim
def aj0(h:St c G zl s a w){d:Nat}{k:IntKind}{sr dt:TypeId}{sd:TypeDesc}{x:AV}{x':Operand}(ho:o.op=.convert sr dt x')(hs:P.underlying sr=some sd)(hu:P.underlying dt=some (.int k))(hd:o.dst=some d)(hn:d<c.nt)(hx:aR x' x=true)
  (hK:aV P (.conv d k x) s K):dQ P c o a w K:=by
 obtain⟨y,e1,e2,e3⟩:=cr h hx;simp only[aV] at hK;split at hK;·rename_i k' n hy;rw[<-e1] at hy;have:=nk hy;subst this;refine dY h hd hn (x:=.int k _) trivial (λ_ _ _ _ _ _ e=>(by cases e)) trivial (λw' _=>?_) hK;simp[execOp,ho,<-e2,C.val,convert,run_underlying hs,run_underlying hu,Conv.intToInt]
 ·exact hK.elim
def ajY(h:St c G zl s a w){d:Nat}{x:AV}{x':Operand}(ho:o.op=.nilCheck x')(hd:o.dst=some d)(hn:d<c.nt)(hx:aR x' x=true)
  (hK:aV P (.dB d x) s K):dQ P c o a w K:=by
 obtain⟨y,e1,e2,e3⟩:=cr h hx;simp only[aV] at hK;rw[<-e1] at hK;cases y with
 |az v r p i k=>obtain⟨y,hs,hy⟩:=e3.rf;refine jJ h hd hn e3 (λw' _=>?_) hK;rcases hy with ⟨m,sz,g,o',len,cap,e,rfl,hv⟩|⟨m,g,o',n,cc,rfl,_,hv⟩<;>(simp only[C.val] at e2;subst hv;simp[execOp,ho,<-e2,C.val])
 |ptr m g o' n f=>refine jJ h hd hn e3 (λw' _=>?_) hK;simp only[C.val] at e2;simp[execOp,ho,<-e2,C.val]
 |fn f n g=>refine jJ h hd hn e3 (λw' _=>?_) hK;simp only[C.val] at e2;simp[execOp,ho,<-e2,C.val]
 |_=>exact hK.elim
end
end M
namespace M
open Go Go.RowKit
variable [Bs]
def ri(g k j:Nat):(⟨g,k,none⟩:Addr).add j=⟨g,k+j,none⟩:=by
 unfold Addr.add;split;·rename_i h;subst h;rfl
 ·rfl
def oV(n c:Nat):(List.range n).drop c=(List.range (n - c)).map (· +c):=by
 apply gP;intro i;rw[pK,dm];by_cases h:c+i<n;·rw[tK h,tK (by omega)];simp[qS]
 ·rw[k7 (by simp;omega),k7 (by simp;omega)];rfl
section
variable {P:Program}{c:Ctx}{G:Nat->C}{zl:Nat->Nat->Prop}{s:ah}{a:Act}{w:World}{o:Oper}{K:ah->Prop}
structure YB (w:World) (zl zb:Nat->Nat->Prop) (G:Nat->C) (v:Value) (l:List C):Prop where
 addr:∃g k,v=.pointer (some ⟨g,k,none⟩)/\∀j (hj:j<l.length),w.cell? ⟨g,k+j,none⟩=some l[j].val
 CD:∀x∈l,eL w zl zb G x/\x.cell
def TF{zb:Nat->Nat->Prop}(h:Inv w zl zb G s){y:C}(hy:eL w zl zb G y){cs:List X}(hc:gB s y.er=some cs):∃l:List C,l.map C.er=cs/\YB w zl zb G y.val l:=by
 cases y with
 |ptr m g o n f=>
  simp only[C.er,gB] at hc;injection hc with hc
  obtain⟨h1,h2,h3,h4⟩:=hy.ok;refine⟨(List.range n).map f,by rw[<-hc,cS];rfl,⟨⟨g,o,rfl,λj hj=>?_⟩,λx hx=>?_⟩⟩;·simp only[dH,wj] at hj;simp only[PE,PF];exact(h1 j hj).1
  ·obtain⟨j,hj,rfl⟩:=bw.1 hx;have hj':j<n:=by simpa using hj
   obtain⟨a1,a2,a3⟩:=h3 j hj';exact⟨⟨a3,hy.rf j hj',λb k hf=>hy.cY b k (C.kO a1 a2 hj' hf)⟩,a1⟩
 |az v r p i k0=>
  obtain⟨z,hz,hp⟩:=hy.rf;have sw:=C.iy p hz (h.ok r);have Te:=Inv.vL.DH p (h.ok r) hz (h.rf r);simp only[C.er,gB,look] at hc;rw[<-h.er,C.gL,hz] at hc;simp only[cq] at hc;rcases hp with ⟨m,sz,g,o,len,cap,e,rfl,rfl⟩|⟨m,g,o,n,f,rfl,rfl,rfl⟩
  ·simp only[C.er,C.dn] at hc;by_cases hi:i<len
   ·rw[aA hi] at hc;simp only[cq,dX] at hc;refine⟨((List.range (sz - k0)).map (· +k0)).map λj=>(e i j).jh r (p++[(i,j)]),?_,⟨⟨g,o+i*sz+k0,rfl,λj hj=>?_⟩,λx hx=>?_⟩⟩;·rw[<-hc,<-lW,oV];rw[C.wu r p i ((List.range (sz - k0)).map (· +k0)) k0 (λj=>e i j) (by simp)];simp only[cS];rfl
    ·simp only[dH,wj] at hj;simp only[PE,PF,C.zZ];obtain⟨g',o',hA,hcell,_⟩:=sw.2.1 i (j+k0) hi (by omega);injection hA with hA
     injection hA with e1 e2
     injection e2 with e2
     subst e1;subst e2;rw[show o+i*sz+k0+j=o+i*sz+(j+k0) by omega];exact hcell
    ·obtain⟨j,hj,rfl⟩:=bw.1 hx;obtain⟨j',hj',rfl⟩:=bw.1 hj;have hj2:j'+k0<sz:=by simp at hj';omega
     obtain⟨a1,a2,a3,a4⟩:=sw.2.2.1 i (j'+k0) hi hj2;refine⟨⟨C.zX _ _ _ a4,C.zY _ _ _ (C.tu p hz (by simp only[C.step,aA (And.intro hi hj2)])) ?_,C.zW _ _ _ (C.KT a1)⟩,C.J5 _ _ _ a1⟩;have:=Inv.vL.DH (w:=w) (zl:=zl) (zb:=zb) (G:=G) [(i,j'+k0)] sw (d:=e i (j'+k0)) (by simp only[C.sub,C.step,aA (And.intro hi hj2)];rfl) Te;exact this
   ·rw[aE hi] at hc;cases hc
  ·simp only[C.er,dX] at hc;refine⟨((List.range (n - k0)).map (· +k0)).map λj=>(f j).jh r (p++[(0,j)]),?_,⟨⟨g,o+k0,rfl,λj hj=>?_⟩,λx hx=>?_⟩⟩;·rw[<-hc,<-lW,oV];rw[C.wu r p 0 ((List.range (n - k0)).map (· +k0)) k0 f (by simp)];simp only[cS];rfl
   ·simp only[dH,wj] at hj;simp only[PE,PF,C.zZ];rw[show o+k0+j=o+(j+k0) by omega];exact(sw.1 (j+k0) (by omega)).1
   ·obtain⟨j,hj,rfl⟩:=bw.1 hx;obtain⟨j',hj',rfl⟩:=bw.1 hj;have hj2:j'+k0<n:=by simp at hj';omega
    obtain⟨a1,a2,a3⟩:=sw.2.2.1 (j'+k0) hj2;exact⟨⟨C.zX _ _ _ a3,C.zY _ _ _ (C.tu p hz (aA (And.intro rfl hj2))) (Te _ hj2),C.zW _ _ _ (C.KT a1)⟩,C.J5 _ _ _ a1⟩
 |_=>simp[C.er,gB] at hc
def YR{zb:Nat->Nat->Prop}{l:List C}(h:∀x∈l,eL w zl zb G x/\x.cell):eL w zl zb G (gQ l) where
 ok:=⟨λj hj=>⟨(h _ (cT hj _)).2,(h _ (cT hj _)).1.ok⟩,λj hj b k hf=>((h _ (cT hj _)).1.cY b k hf).elim⟩
 rf:=λj hj=>(h _ (cT hj _)).1.rf
 cY:=λb k hf=>by obtain⟨x,hx,hf⟩:=(rq _ _ _).1 hf;exact(h x hx).1.cY b k hf
def Uj(h:St c G zl s a w){d sz:Nat}{agg:Bool}{ty:TypeId}{x:AV}{x':Operand}(ho:o.op=.load ty x')(hsz:∃i,P.info? ty=some i/\i.size=sz)(nu:∃dd,P.underlying ty=some dd/\(match dd with|.struct _=>true|.array _ _=>true|_=>false)=agg)
  (h1:agg=true\/sz=1)(hd:o.dst=some d)(hn:d<c.nt)(hx:aR x' x=true)
  (hK:aV P (.load d sz agg x) s K):dQ P c o a w K:=by
 obtain⟨y,e1,e2,e3⟩:=cr h hx;obtain⟨cs,k1,k2,k3⟩:=hK;rw[<-e1] at k1;obtain⟨l,l1,⟨g,k,hv,hcell⟩,l3⟩:=TF h.inv e3 k1;have hlen:l.length=cs.length:=by rw[<-l1];simp
 obtain⟨i,hi,kJ⟩:=hsz;obtain⟨dd,AE,hda⟩:=nu;have uD:∀w:World,(isAgg ty).run P w=.ok agg w:=by intro w;subst hda;simp only[isAgg,Sem.run_bind,run_underlying AE,Result.andThen_ok];cases dd<;>rfl
 have hsize:∀w:World,(Go.sizeOf ty).run P w=.ok sz w:=by intro w;simp[Go.sizeOf,typeInfo,hi,kJ]
 have SN:∀w',Ext (λ_ _=>False) w w'->∀j (hj:j<l.length),w'.cell? ⟨g,k+j,none⟩=some l[j].val:=λw' hE j hj=>hE.cell (λhs=>hs) (hcell j hj);have mC:∀w:World,(execOp a.eval o).run P w=((loadVar ty ⟨g,k,none⟩).run P w).andThen λv w'=>.ok (.value v) w':=by intro w;simp[execOp,ho,<-e2,hv,Instr.loadAt,Instr.sureAddr]
 cases agg with
 |true=>
  have hl:∀w',Ext (λ_ _=>False) w w'->(loadCells ⟨g,k,none⟩ sz).run P w'=.ok ((List.range sz).map λj=>((l.take sz).getD j (.dead undef)).val).toArray w':=λw' hE=>run_loadCells w' _ sz _ (λj hj=>by rw[ri,SN w' hE j (by omega)];congr 1;rw[k6,PB hj,cv (by omega)];rfl)
  have hval:(gQ (l.take sz)).val=.agg ((List.range sz).map λj=>((l.take sz).getD j (.dead undef)).val).toArray:=by simp only[gQ,C.val,Ep];rw[kW (by omega)]
  refine jJ h hd hn (x:=gQ (l.take sz)) (YR λx hx=>l3 x (Pa hx)) ?_ ?_;·intro w' hE;rw[mC,hval];simp only[loadVar,Sem.run_bind,uD,Result.andThen_ok,cN,hsize,hl w' hE,Sem.run_pure]
  ·rw[wq,pH,l1];exact k3
 |false=>
  have hs1:sz=1:=h1.resolve_left (by simp);subst hs1;cases l with
  |nil=>simp at hlen;omega
  |cons y0 l=>
   refine jJ h hd hn (x:=y0) (l3 y0 (bH ..)).1 ?_ ?_;·intro w' hE;have hc0:=SN w' hE 0 (by simp);simp only[oa,JV] at hc0;rw[mC];simp only[loadVar,Sem.run_bind,uD,Result.andThen_ok,fS,di,run_load,hc0]
   ·rw[<-l1] at k3;exact k3
def aj2(h:St c G zl s a w){d off fi:Nat}{ty:TypeId}{fs:Array Field}{f:Field}{x:AV}{x':Operand}(ho:o.op=.fieldAddr ty x' fi)(hu:P.underlying ty=some (.struct fs))(hf:fs[fi]?=some f)(hfo:f.offset=off)(hfs:∃i,P.info? f.type=some i/\i.size≠0)
  (hd:o.dst=some d)(hn:d<c.nt)(hx:aR x' x=true)(hK:aV P (.pS d x off) s K):dQ P c o a w K:=by
 obtain⟨y,e1,e2,e3⟩:=cr h hx;obtain⟨i,hi,hi0⟩:=hfs;have hrun:∀g k,a.eval x'=.pointer (some ⟨g,k,none⟩)->∀w',Ext (λ_ _=>False) w w'->(execOp a.eval o).run P w'=.ok (.value (.pointer (some ⟨g,k+off,none⟩))) w':=by intro g k hv w' _;simp[execOp,ho,hv,Instr.fieldAt,Instr.sureAddr,run_underlying hu,hf,fieldPlace,Go.sizeOf,typeInfo,hi,hi0,ri,hfo]
 simp only[aV] at hK;rw[<-e1] at hK;cases y with
 |az v r p i' k0=>
  obtain⟨z,hz,hp⟩:=e3.rf
  have hcase:∃g k,v=.pointer (some ⟨g,k,none⟩)/\(C.az (.pointer (some ⟨g,k+off,none⟩)) r p i' (k0+off)).rf G:=by
   rcases hp with ⟨m,sz,g,o',len,cap,e,rfl,rfl⟩|⟨m,g,o',n,f',rfl,rfl,rfl⟩;·exact⟨_,_,rfl,_,hz,.inl ⟨_,_,_,_,_,_,_,rfl,by rw[tF]⟩⟩
   ·exact⟨_,_,rfl,_,hz,.inr ⟨_,_,_,_,_,rfl,rfl,by rw[tF]⟩⟩
  obtain⟨g,k,rfl,hrf⟩:=hcase;refine jJ h hd hn (x:=.az (.pointer (some ⟨g,k+off,none⟩)) r p i' (k0+off)) ⟨trivial,hrf,λ_ _ hh=>hh⟩ ?_ hK;exact hrun g k e2.symm
 |ptr m g o' n f'=>
  obtain⟨h1,h2,h3,h4⟩:=e3.ok;refine jJ h hd hn (x:=.ptr m g (o'+off) (n - off) λj=>f' (j+off)) ⟨⟨λj hj=>?_,h2,λj hj=>h3 (j+off) (by omega),λj hj b k hf=>?_⟩,λj hj=>e3.rf (j+off) (by omega),λb k hf=>?_⟩ ?_ ?_;·rw[show o'+off+j=o'+(j+off) by omega];exact h1 (j+off) (by omega)
  ·obtain⟨a1,a2⟩:=h4 (j+off) (by omega) b k hf;exact⟨λhm hb=>a1 hm (by omega),λj' hj' hne=>a2 (j'+off) (by omega) (by omega)⟩
  ·obtain⟨hm,hf|⟨j,hj,hf⟩⟩:=hf;·exact e3.cY b k ⟨hm,.inl (by omega)⟩
   ·exact e3.cY b k ⟨hm,.inr ⟨j+off,by omega,hf⟩⟩
  ·exact hrun g o' e2.symm
  ·have:(C.ptr m g (o'+off) (n - off) λj=>f' (j+off)).er=.ptr m (((List.range n).map λj=>(f' j).er).drop off):=by simp only[C.er];rw[<-lW,oV,cS];rfl
   rw[this];exact hK
 |_=>exact hK.elim
end
end M
namespace M
open Go Go.RowKit
variable [Bs]
def Fj(P:Program)(t:TypeId)(k:Nat):Bool:=match P.underlying t with
 |some (.int _)=>k==0
 |some .bool=>k==1
 |some .string=>k==2
 |_=>false
def Fi(P:Program):Nat->List Nat->List Field->Bool
 |_,[],[]=>true
 |n,k::ks,f::l=>decide (f.offset=n) && decide (f.name≠ "_") && Fj P f.type k && Fi P (n+1) ks l
 |_,_,_=>false
def Lo(P:Program)(t:TypeId)(ks:List Nat):Bool:=(match P.underlying t with
 |some (.struct fs)=>Fi P 0 ks fs.toList
 |_=>false) && !P.stoodInHeld t && !P.eqGuardType P.depth t
section
variable {P:Program}{c:Ctx}{G:Nat->C}{zl:Nat->Nat->Prop}{s:ah}{a:Act}{w:World}{o:Oper}{K:ah->Prop}
def Uq{t:TypeId}{k:Nat}{vs:Array Value}{n:Nat}{v:Value}(ht:Fj P t k=true)(hv:vs[n]?=some v)(w:World):(part t vs n).run P w=.ok v w:=by unfold Fj at ht;split at ht<;>first|(rename_i h;simp[part,isAgg,run_underlying h,hv])|cases ht
def acD{w:World}{xs ys:Array Value}(d:Nat):∀(l:List Field) (ks:List Nat) (ps qs:List C) (n:Nat) (t:Bool),Fi P n ks l=true->(∀j,(ps[j]?).map C.val=xs[n+j]?)->(∀j,(qs[j]?).map C.val=ys[n+j]?)->
  j6 ks (ps.map C.er) (qs.map C.er)=some t->(Op.eqFields (d+1) xs ys l).run P w=.ok t w:=by
 intro l;induction l with
 |nil=>
  intro ks ps qs n t hf _ _ he;cases ks with
  |nil=>cases ps<;>cases qs<;>simp[j6] at he;subst he;simp[Op.eqFields]
  |cons k ks=>cases hf
 |cons f l ih=>
  intro ks ps qs n t hf hx hy he;cases ks with
  |nil=>cases hf
  |cons k ks=>
  cases ps with
  |nil=>simp[j6] at he
  |cons p ps=>
  cases qs with
  |nil=>simp[j6] at he
  |cons q qs=>
  simp only[Fi,aC,bD] at hf;obtain⟨⟨⟨hoff,hname⟩,hk⟩,uC⟩:=hf;have hx0:=hx 0;have hy0:=hy 0;simp only[zL,cq,oa] at hx0 hy0;have GK:=λt=>ih ks ps qs (n+1) t uC (λj=>by have:=hx (j+1);simpa [tF,qS 1 j] using this) (λj=>by have:=hy (j+1);simpa [tF,qS 1 j] using this)
  have step:∀b:Bool,(∀w:World,(Op.equalIn (d+1) f.type p.val q.val).run P w=.ok b w)->(j6 ks (ps.map C.er) (qs.map C.er)).map (λt=>b && t)=some t->(Op.eqFields (d+1) xs ys (f::l)).run P w=.ok t w:=by
   intro b hb h1;cases h2:j6 ks (ps.map C.er) (qs.map C.er) with
   |none=>rw[h2] at h1;cases h1
   |some t'=>
    rw[h2] at h1;simp only[cq,dX] at h1;subst h1;simp only[Op.eqFields,aA hname,Sem.run_bind,hoff,Uq hk hx0.symm,Uq hk hy0.symm,Result.andThen_ok,hb];cases b with
    |true=>simpa using GK t' h2
    |false=>simp
  unfold Fj at hk;simp only[bE] at he;split at hk
  ·rename_i h;obtain rfl:k=0:=by simpa using hk
   cases p<;>cases q<;>simp only[C.er,j6] at he<;>try (cases he;done)
   split at he;·rename_i hkk;subst hkk;exact step _ (λw=>run_equalIn_int w d f.type _ _ _ _ h) he
   ·cases he
  ·rename_i h;obtain rfl:k=1:=by simpa using hk
   cases p<;>cases q<;>simp only[C.er,j6] at he<;>try (cases he;done)
   exact step _ (λw=>run_equalIn_bool' w d f.type _ _ h) he
  ·rename_i h;obtain rfl:k=2:=by simpa using hk
   cases p<;>cases q<;>simp only[C.er,j6] at he<;>try (cases he;done)
   refine step _ (λw=>?_) he;rw[show (C.str _).val=Value.string _ from rfl,show (C.str _).val=Value.string _ from rfl,run_equalIn_string w d f.type _ _ h,Kf]
  ·cases hk
def ajM(h:St c G zl s a w){d:Nat}{neg:Bool}{ks:List Nat}{ty ty':TypeId}{x y:AV}{x' y':Operand}(ho:o.op=.binOp (bif neg then .neq else .eql) ty x' y' ty')(ht:Lo P ty ks=true)(hd:o.dst=some d)(hn:d<c.nt)(hx:aR x' x=true)(hy:aR y' y=true)
  (hK:aV P (.mX d neg ks x y) s K):dQ P c o a w K:=by
 obtain⟨p,p1,p2,p3⟩:=cr h hx;obtain⟨q,q1,q2,q3⟩:=cr h hy;simp only[aV] at hK;rw[<-p1,<-q1] at hK;simp only[Lo,aC,zG] at ht;obtain⟨⟨ht,hst⟩,hgu⟩:=ht;split at ht
 ·rename_i fs hfs;have hfo:P.fieldsOf ty=fs:=by simp only[Program.fieldsOf,hfs]
  cases p with
  |agg n f=>
   cases q with
   |agg m g=>
    simp only[C.er] at hK;obtain⟨t,he,hK⟩:=hK;have hcell:∀(n:Nat) (f:Nat->C) (j:Nat),((((List.range n).map f)[j]?).map C.val)=((((List.range n).map λj=>(f j).val).toArray)[0+j]?):=λn f j=>by rw[mU,zM,C.dn];rw[C.dn (λj=>(f j).val)];split<;>rfl
    have hrun:∀w':World,(Op.equalIn 10000 ty (C.agg n f).val (C.agg m g).val).run P w'=.ok t w':=λw'=>by simp only[C.val];rw[run_equalIn_struct w' 9999 ty _ _ (by rw[hfo];exact hfs) hst,hfo];exact acD 9998 fs.toList ks ((List.range n).map f) ((List.range m).map g) 0 t ht (hcell n f) (hcell m g) (by rw[cS,cS];exact he)
    refine dY h hd hn (x:=.bool (xor neg t)) trivial (λ_ _ _ _ _ _ e=>(by cases e)) trivial (λw' _=>?_) hK;have e1:∀w':World,(eqGuard (bif neg then .neq else .eql) ty x' y' (C.agg n f).val (C.agg m g).val).run P w'=.ok () w':=λw'=>run_eqGuard_agg w' _ ty x' y' _ _ hgu;cases neg;·simp only[execOp,ho,<-p2,<-q2,Sem.run_bind,qU];simp only[qU] at e1;rw[e1];simp only[Result.andThen_ok];rw[show (C.agg n f).val=.agg _ from rfl,show (C.agg m g).val=.agg _ from rfl] at hrun⊢;rw[run_eql_struct,hrun];simp;rfl
    ·simp only[execOp,ho,<-p2,<-q2,Sem.run_bind,lY];simp only[lY] at e1;rw[e1];simp only[Result.andThen_ok];rw[show (C.agg n f).val=.agg _ from rfl,show (C.agg m g).val=.agg _ from rfl] at hrun⊢;rw[run_neq_struct,hrun];simp;rfl
   |_=>exact hK.elim
  |_=>exact hK.elim
 ·cases ht
end
end M
namespace M
open Go Go.RowKit
variable [Bs]
section
variable {P:Program}{c:Ctx}{G:Nat->C}{zl:Nat->Nat->Prop}{s:ah}{a:Act}{w:World}{o:Oper}{K:ah->Prop}
structure YD (w:World) (zl zb:Nat->Nat->Prop) (v:Value) (z:Nat) (A:Option Ad) (len cap:Nat) (e:Nat->Nat->C):Prop where
 val:v=.slice (A.map λq=>⟨q.1,q.2.1,q.2.2⟩) len cap
 cap:len<=cap
 cell:∀i j,i<len->j<z->∃g o,A=some (g,o,none)/\w.cell? ⟨g,o+i*z+j,none⟩=some (e i j).val
 kid:∀i j,i<len->j<z->(e i j).cell/\(e i j).cZ/\(e i j).ok w (Zf zl zb)
def dO(z len:Nat)(e:Nat->Nat->C):List (List X):=(List.range len).map λi=>(List.range z).map λj=>(e i j).er
def NI{zb:Nat->Nat->Prop}(h:Inv w zl zb G s){y:C}(hy:eL w zl zb G y){z:Nat}{xs:List (List X)}(hc:rowAt s y.er=some (z,xs)):∃A len cap e,xs=dO z len e/\YD w zl zb y.val z A len cap e:=by
 cases y with
 |row m sz A len cap e=>simp only[C.er,rowAt,dX,jW] at hc;obtain⟨rfl,rfl⟩:=hc;obtain⟨h1,h2,h3,h4,h5⟩:=hy.ok;exact⟨A,len,cap,e,rfl,rfl,h1,λi j hi hj=>by obtain⟨g,o,hA,hcl,_⟩:=h2 i j hi hj;exact⟨g,o,hA,hcl⟩,λi j hi hj=>by obtain⟨a1,a2,a3,a4⟩:=h3 i j hi hj;exact⟨a1,a2,a4⟩⟩
 |ref v r p=>
  obtain⟨y',z',hs,hF,hv,m,sz,A,len,cap,e,rfl⟩:=hy.rf;cases hF with
  |row m m' sz A len cap e e'=>simp only[C.er,rowAt,look] at hc;rw[<-h.er,C.gL,hs] at hc;simp only[cq,C.er,dX,jW] at hc;obtain⟨rfl,rfl⟩:=hc;obtain⟨h1,h2,h3,h4,h5⟩:=C.iy p hs (h.ok r);exact⟨A,len,cap,e',rfl,hv.symm,h1,λi j hi hj=>by obtain⟨g,o,hA,hcl,_⟩:=h2 i j hi hj;exact⟨g,o,hA,hcl⟩,λi j hi hj=>by obtain⟨a1,a2,a3,a4⟩:=h3 i j hi hj;exact⟨a1,a2,a4⟩⟩
 |cut v r p lo hi=>
  obtain⟨m,sz,A,len,cap,e,A',cap',hs,hv,hlo,hhi,hcap,kG,-,-⟩:=hy.rf;simp only[C.er,rowAt,look] at hc;rw[<-h.er,C.gL,hs] at hc;simp only[cq,C.er,dX,jW] at hc;obtain⟨rfl,rfl⟩:=hc;obtain⟨h1,h2,h3,h4,h5⟩:=C.iy p hs (h.ok r);have hX:(((List.range len).map λi=>(List.range sz).map λj=>(e i j).er).take hi).drop lo=dO sz (hi - lo) λi j=>e (i+lo) j:=by unfold dO;rw[<-pH,<-lW,vT,kW hhi,oV,cS];rfl
  refine⟨A',hi - lo,cap',λi j=>e (i+lo) j,hX,⟨hv,hcap,λi j hi' hj=>?_,λi j hi' hj=>?_⟩⟩;·obtain⟨g,o,hA,hcl,_⟩:=h2 (i+lo) j (by omega) hj;refine⟨g,o+lo*sz,by rw[kG (by omega),hA,cq,pN],?_⟩;rw[show o+lo*sz+i*sz+j=o+(i+lo)*sz+j by rw[fH];omega];exact hcl
  ·obtain⟨a1,a2,a3,a4⟩:=h3 (i+lo) j (by omega) hj;exact⟨a1,a2,a4⟩
 |_=>simp[C.er,rowAt] at hc
def akL(z len:Nat)(e:Nat->Nat->C):(dO z len e).length=len:=by simp[dO]
def aj5(h:St c G zl s a w){d:Nat}{ty el:TypeId}{x:AV}{x':Operand}(ho:o.op=.call {callee:=.builtin .len,args:= #[x'],argTypes:= #[ty]})(hu:P.underlying ty=some (.slice el))(hd:o.dst=some d)(hn:d<c.nt)(hx:aR x' x=true)
  (hK:aV P (.len d x) s K):dQ P c o a w K:=by obtain⟨y,e1,e2,e3⟩:=cr h hx;obtain⟨z,xs,k1,k2⟩:=hK;rw[<-e1] at k1;obtain⟨A,len,cap,e,rfl,hv⟩:=NI h.inv e3 k1;rw[akL] at k2;refine dY h hd hn (x:=.int .i64 len) trivial (λ_ _ _ _ _ _ e=>(by cases e)) trivial (λw' _=>?_) k2;simp[execOp,ho,resolve,invoke,builtin,<-e2,hv.val,Builtin.len_,run_underlying hu,goInt,C.val]
def akh(h:St c G zl s a w){d:Nat}{ty:TypeId}{x:AV}{x':Operand}(ho:o.op=.call {callee:=.builtin .len,args:= #[x'],argTypes:= #[ty]})(hu:P.underlying ty=some .string)(hd:o.dst=some d)(hn:d<c.nt)(hx:aR x' x=true)
  (hK:aV P (.tn d x) s K):dQ P c o a w K:=by
 obtain⟨y,e1,e2,e3⟩:=cr h hx;simp only[aV] at hK;split at hK;·rename_i t ht;rw[<-e1] at ht;have:=E8 ht;subst this;refine dY h hd hn (x:=.int .i64 t.size) trivial (λ_ _ _ _ _ _ e=>(by cases e)) trivial (λw' _=>?_) hK;simp[execOp,ho,resolve,invoke,builtin,<-e2,Builtin.len_,run_underlying hu,goInt,C.val]
 ·exact hK.elim
def akg(h:St c G zl s a w){d:Nat}{ty:TypeId}{x y:AV}{x' y':Operand}(ho:o.op=.index ty x' y')(hu:P.underlying ty=some .string)(hd:o.dst=some d)(hn:d<c.nt)(hx:aR x' x=true)(hy:aR y' y=true)
  (hK:aV P (.dD d x y) s K):dQ P c o a w K:=by
 obtain⟨p,p1,p2,p3⟩:=cr h hx;obtain⟨q,q1,q2,q3⟩:=cr h hy;simp only[aV] at hK;split at hK;·rename_i t k n h1 h2;rw[<-p1] at h1;rw[<-q1] at h2;have:=E8 h1;subst this;have:=nk h2;subst this;obtain⟨k1,b,k2,k3⟩:=hK;refine dY h hd hn (x:=.int .u8 b.toNat) trivial (λ_ _ _ _ _ _ e=>(by cases e)) trivial (λw' _=>?_) k3;have hb:t[n.toNat]?=some b:=k2;simp[execOp,ho,<-p2,<-q2,C.val,Instr.index,asIntOf,run_underlying hu,aA k1,hb]
 ·exact hK.elim
def aj4(h:St c G zl s a w){d sz:Nat}{ty el:TypeId}{x y:AV}{x' y':Operand}(ho:o.op=.indexAddr ty x' y')(hu:P.underlying ty=some (.slice el))(hsz:∃i,P.info? el=some i/\i.size=sz)(h0:0<sz)(hd:o.dst=some d)(hn:d<c.nt)(hx:aR x' x=true)(hy:aR y' y=true)
  (hK:aV P (.fy d sz x y) s K):dQ P c o a w K:=by
 obtain⟨p,p1,p2,p3⟩:=cr h hx;obtain⟨q,q1,q2,q3⟩:=cr h hy;obtain⟨ii,hi,kJ⟩:=hsz;simp only[aV] at hK;rw[<-p1] at hK;split at hK
 ·rename_i k n h2;rw[<-q1] at h2;have:=nk h2;subst this;obtain⟨k1,hK⟩:=hK;have hrun:∀g o' len cap,a.eval x'=.slice (some ⟨g,o',none⟩) len cap->n.toNat<len->∀w',Ext (λ_ _=>False) w w'->(execOp a.eval o).run P w'=.ok (.value (.pointer (some ⟨g,o'+n.toNat*sz,none⟩))) w':=by intro g o' len cap hv hlt w' _;have hb:0<=n/\n<len:=⟨k1,by omega⟩;simp[execOp,ho,hv,<-q2,C.val,Instr.indexAt,asIntOf,run_underlying hu,hb,Go.sizeOf,typeInfo,hi,kJ,ri]
  cases p with
  |row m z A len cap e=>
   simp only[C.er] at hK;obtain⟨rfl,e',k2,k3⟩:=hK;rw[C.dn] at k2;split at k2
   ·rename_i hlt;injection k2 with k2
    obtain⟨h1,h2,h3,h4,h5⟩:=p3.ok;obtain⟨g,o',hA,_,_⟩:=h2 n.toNat 0 hlt h0;refine jJ h hd hn (x:=.ptr m g (o'+n.toNat*z) z λj=>e n.toNat j) ⟨⟨λj hj=>?_,?_,λj hj=>?_,λj hj b k hf=>?_⟩,λj hj=>?_,λb k hf=>?_⟩ ?_ ?_
    ·obtain⟨g1,o1,pW,hcl,hz⟩:=h2 n.toNat j hlt hj;rw[hA] at pW;injection pW with pW
     injection pW with e1 e2
     injection e2 with e2
     subst e1;subst e2;refine⟨hcl,hz,λhm=>?_⟩;exact(p3.cY g 0 ⟨hm,.inl ⟨_,hA⟩⟩).elim
    ·obtain⟨g1,o1,pW,hcl,hz⟩:=h2 n.toNat 0 hlt h0;rw[hA] at pW;injection pW with pW
     injection pW with e1 e2
     subst e1;rcases iL g w.heap.size with hg|hg;·exact hg
     ·simp[World.cell?,l9 hg] at hcl
    ·obtain⟨a1,a2,a3,a4⟩:=h3 n.toNat j hlt hj;exact⟨a1,a3,a4⟩
    ·obtain⟨a1,a2,a3,a4⟩:=h3 n.toNat j hlt hj;exact(p3.cY b k (C.ke a1 a3 hlt hj hf)).elim
    ·obtain⟨a1,a2,a3,a4⟩:=h3 n.toNat j hlt hj;show (e n.toNat j).rf G;cases hh:e n.toNat j with
     |ref=>rw[hh] at a2;exact a2.elim
     |az=>rw[hh] at a2;exact a2.elim
     |cut=>rw[hh] at a2;exact a2.elim
     |ptr=>rw[hh] at a2;exact a2.elim
     |agg=>rw[hh] at a2;exact a2.elim
     |av=>rw[hh] at a2;exact a2.elim
     |fn=>rw[hh] at a2;exact a2.elim
     |_=>trivial
    ·exact p3.cY g 0 ⟨hf.1,.inl ⟨_,hA⟩⟩
    ·exact hrun g o' len cap (by rw[<-p2,C.val,hA];rfl) hlt
    ·rw[<-k2] at k3;exact k3
   ·cases k2
  |ref v r pp=>
   obtain⟨y',z',hs,hF,hv,m,z1,A,len,cap,e,rfl⟩:=p3.rf;cases hF with
   |row m m' sz' A len cap e e'=>
    simp only[C.er,look] at hK;rw[<-h.inv.er,C.gL,hs] at hK;simp only[cq,C.er] at hK;obtain⟨k1,k2,k3⟩:=hK;have To:n.toNat<len:=by simpa using k2
    subst k1;obtain⟨h1,h2,h3,h4,h5⟩:=C.iy pp hs (h.inv.ok r);obtain⟨g,o',hA,_,_⟩:=h2 n.toNat 0 To h0;subst hA;refine jJ h hd hn (x:=.az (.pointer (some ⟨g,o'+n.toNat*_,none⟩)) r pp n.toNat 0) ⟨trivial,⟨_,hs,.inl ⟨_,_,_,_,_,_,_,rfl,rfl⟩⟩,λ_ _ hh=>hh⟩ ?_ k3;exact hrun g o' len cap (by rw[<-p2];exact hv.symm) To
  |cut v r pp lo hi=>obtain⟨m,z1,A,len,cap,e,A',cap',hs,hv,hlo,hhi,hcap,kG,-,-⟩:=p3.rf;simp only[C.er,look] at hK;rw[<-h.inv.er,C.gL,hs] at hK;simp only[cq,C.er] at hK;obtain⟨k1,k2,k3⟩:=hK;subst k1;obtain⟨h1,h2,h3,h4,h5⟩:=C.iy pp hs (h.inv.ok r);obtain⟨g,o',hA,_,_⟩:=h2 (lo+n.toNat) 0 (by omega) h0;subst hA;refine jJ h hd hn (x:=.az (.pointer (some ⟨g,o'+(lo+n.toNat)*_,none⟩)) r pp (lo+n.toNat) 0) ⟨trivial,⟨_,hs,.inl ⟨_,_,_,_,_,_,_,rfl,rfl⟩⟩,λ_ _ hh=>hh⟩ ?_ k3;have:=hrun g (o'+lo*z1) (hi - lo) cap' (by rw[<-p2,C.val,hv,kG (by omega),cq,pN];rfl) (by omega);intro w' hE;rw[this w' hE,C.val,fH,tF]
  |_=>simp only[C.er] at hK
 ·exact hK.elim
def aj1(h:St c G zl s a w){d i:Nat}{x:AV}{x':Operand}(ho:o.op=.extract x' i)(hd:o.dst=some d)(hn:d<c.nt)(hx:aR x' x=true)
  (hK:aV P (.ext d x i) s K):dQ P c o a w K:=by
 obtain⟨y,e1,e2,e3⟩:=cr h hx;simp only[aV] at hK;rw[<-e1] at hK;cases y with
 |av n f=>
  simp only[C.er] at hK;obtain⟨hi,hK⟩:=hK;have hi:i<n:=by simpa using hi
  ·have hX:((List.range n).map λj=>(f j).er).getD i .dead=(f i).er:=by rw[k6,C.dn,aA hi];rfl
   rw[hX] at hK;refine jJ h hd hn (x:=f i) ⟨(e3.ok.1 i hi).2,e3.rf i hi,λb k hf=>e3.cY b k ⟨i,hi,hf⟩⟩ (λw' _=>?_) hK;have hv:((List.range n).map λj=>(f j).val).toArray[i]?=some (f i).val:=by rw[zM,C.dn,aA hi]
   simp only[execOp,ho,<-e2,C.val,Instr.extract,hv,Sem.run_bind,Sem.run_pure,Result.andThen_ok]
 |_=>exact hK.elim
end
end M
namespace M
open Go Go.RowKit
variable [Bs]
section
variable {P:Program}{c:Ctx}{G:Nat->C}{zl:Nat->Nat->Prop}{s:ah}{a:Act}{w:World}{o:Oper}{K:ah->Prop}
def YS{n:Nat}{f:Nat->C}{j:Nat}(hj:j<n):((List.range n).map λj=>(f j).val).toArray[j]?=some (f j).val:=by rw[zM,C.dn,aA hj]
def YT{zb:Nat->Nat->Prop}{n:Nat}{f:Nat->C}(hy:eL w zl zb G (.agg n f)){off sz:Nat}(h:off+sz<=n):eL w zl zb G (.agg sz λj=>f (j+off)) where
 ok:=⟨λj hj=>hy.ok.1 (j+off) (by omega),λj hj b k hf j' hj' hne=>hy.ok.2 (j+off) (by omega) b k hf (j'+off) (by omega) (by omega)⟩
 rf:=λj hj=>hy.rf (j+off) (by omega)
 cY:=λb k ⟨j,hj,hf⟩=>hy.cY b k ⟨j+off,by omega,hf⟩
def PZ{zb:Nat->Nat->Prop}{n:Nat}{f:Nat->C}(hy:eL w zl zb G (.agg n f)){j:Nat}(h:j<n):eL w zl zb G (f j) where
 ok:=(hy.ok.1 j h).2
 rf:=hy.rf j h
 cY:=λb k hf=>hy.cY b k ⟨j,h,hf⟩
def YU(n:Nat)(f:Nat->C){off sz:Nat}(h:off+sz<=n):(C.agg sz λj=>f (j+off)).er=.agg ((((List.range n).map λj=>(f j).er).drop off).take sz):=by simp only[C.er,<-lW,oV,<-pH,vT];rw[kW (by omega),cS];rfl
def YV(n:Nat)(f:Nat->C){off sz:Nat}(h:off+sz<=n):(C.agg sz λj=>f (j+off)).val=.agg (((List.range n).map λj=>(f j).val).toArray.extract off (off+sz)):=by
 simp only[C.val];congr 1;apply JN;intro i;rw[zM,C.dn,Array.getElem?_extract];by_cases hi:i<sz
 ·have h1:i<min (off+sz) ((List.range n).map λj=>(f j).val).toArray.size - off:=by simp;omega
  rw[aA hi,aA h1,zM,C.dn,aA (by omega),qS]
 ·have h1:¬i<min (off+sz) ((List.range n).map λj=>(f j).val).toArray.size - off:=by simp;omega
  rw[aE hi,aE h1]
def ahu(n:Nat)(f:Nat->C){off:Nat}(h:off<n):(((List.range n).map λj=>(f j).er).drop off).headD .dead=(f off).er:=by rw[List.headD_eq_head?_getD,List.head?_drop,C.dn,aA h];rfl
def U1{n:Nat}{f:Nat->C}{off sz:Nat}{agg:Bool}{ty:TypeId}(h:off+sz<=n)(h1:agg=true\/sz=1)(hsz:∃i,P.info? ty=some i/\i.size=sz)(nu:∃dd,P.underlying ty=some dd/\(match dd with|.struct _=>true|.array _ _=>true|_=>false)=agg):
  (part ty ((List.range n).map λj=>(f j).val).toArray off).run P w=.ok (bif agg then (C.agg sz λj=>f (j+off)) else f off).val w:=by
 obtain⟨i,hi,kJ⟩:=hsz;obtain⟨dd,AE,hda⟩:=nu;have uD:(isAgg ty).run P w=.ok agg w:=by subst hda;simp only[isAgg,Sem.run_bind,run_underlying AE,Result.andThen_ok];cases dd<;>rfl
 have hsize:(Go.sizeOf ty).run P w=.ok sz w:=by simp[Go.sizeOf,typeInfo,hi,kJ]
 unfold part;simp only[Sem.run_bind,uD,Result.andThen_ok];cases agg with
 |true=>simp only[cN,Sem.run_bind,hsize,Result.andThen_ok,Sem.run_pure,lY,YV n f h]
 |false=>have hs1:sz=1:=h1.resolve_left (by simp);simp only[fS,di,YS (f:=f) (show off<n by omega),Sem.run_pure,qU]
def Ss(h:St c G zl s a w){n:Nat}{f:Nat->C}{off sz:Nat}{agg:Bool}(hy:eL w zl c.zb G (.agg n f))(hb:off+sz<=n)(h1:agg=true\/sz=1){d:Nat}(hd:o.dst=some d)(hn:d<c.nt)
  (hrun:∀w',Ext (λ_ _=>False) w w'->(execOp a.eval o).run P w'=.ok (.value (bif agg then (C.agg sz λj=>f (j+off)) else f off).val) w')
  (hK:K (put d (bif agg then .agg ((((List.range n).map λj=>(f j).er).drop off).take sz) else (((List.range n).map λj=>(f j).er).drop off).headD .dead) s)):dQ P c o a w K:=by
 cases agg with
 |true=>exact jJ h hd hn (YT hy hb) hrun (by rw[YU n f hb];exact hK)
 |false=>have hs1:sz=1:=h1.resolve_left (by simp);exact jJ h hd hn (PZ hy (by omega)) hrun (by rw[<-ahu n f (by omega)];exact hK)
def aj3(h:St c G zl s a w){d off sz fi:Nat}{agg:Bool}{ty:TypeId}{fs:Array Field}{f:Field}{x:AV}{x':Operand}(ho:o.op=.field ty x' fi)(hu:P.underlying ty=some (.struct fs))(hf:fs[fi]?=some f)(hfo:f.offset=off)
  (hsz:∃i,P.info? f.type=some i/\i.size=sz)(nu:∃dd,P.underlying f.type=some dd/\(match dd with|.struct _=>true|.array _ _=>true|_=>false)=agg)
  (h1:agg=true\/sz=1)(hd:o.dst=some d)(hn:d<c.nt)(hx:aR x' x=true)(hK:aV P (.kF d x off sz agg) s K):dQ P c o a w K:=by
 obtain⟨y,e1,e2,e3⟩:=cr h hx;subst hfo;simp only[aV] at hK;rw[<-e1] at hK;cases y with
 |agg n g=>
  simp only[C.er] at hK;obtain⟨hb,hK⟩:=hK;have hb:f.offset+sz<=n:=by simpa using hb
  refine Ss h e3 hb h1 hd hn (λw' _=>?_) hK;simp only[execOp,ho,<-e2,C.val,Instr.field,Sem.run_bind,run_underlying hu,Result.andThen_ok,hf,asAgg,Sem.run_pure,U1 hb h1 hsz nu]
 |_=>exact hK.elim
def ajN(h:St c G zl s a w){d n sz:Nat}{agg:Bool}{ty el:TypeId}{x y:AV}{x' y':Operand}(ho:o.op=.index ty x' y')(hu:P.underlying ty=some (.array n el))
  (hsz:∃i,P.info? el=some i/\i.size=sz)(nu:∃dd,P.underlying el=some dd/\(match dd with|.struct _=>true|.array _ _=>true|_=>false)=agg)
  (h1:agg=true\/sz=1)(hd:o.dst=some d)(hn:d<c.nt)(hx:aR x' x=true)(hy:aR y' y=true)(hK:aV P (.ru d n sz agg x y) s K):dQ P c o a w K:=by
 obtain⟨p,p1,p2,p3⟩:=cr h hx;obtain⟨q,q1,q2,q3⟩:=cr h hy;simp only[aV] at hK;rw[<-p1] at hK;cases p with
 |agg m g=>
  simp only[C.er] at hK;split at hK
  ·rename_i k j h2 h3;injection h2 with h2
   subst h2;rw[<-q1] at h3;have:=nk h3;subst this;obtain⟨k1,k2,k3,hK⟩:=hK;have k3:m=n*sz:=by simpa using k3
   have hb:j.toNat*sz+sz<=m:=by rw[k3];have:(j.toNat+1)*sz<=n*sz:=pI _ (by omega);rw[fH] at this;omega
   obtain⟨i,hi,kJ⟩:=hsz;refine Ss h p3 hb h1 hd hn (λw' _=>?_) hK;have hrp:=U1 (P:=P) (w:=w') (f:=g) hb h1 ⟨i,hi,kJ⟩ nu;have hbd:0<=j/\j<(n:Int):=⟨k1,k2⟩;have hsize:(Go.sizeOf el).run P w'=.ok sz w':=by simp[Go.sizeOf,typeInfo,hi,kJ]
   simp only[execOp,ho,<-p2,<-q2,C.val,Instr.index,asIntOf,Sem.run_bind,run_underlying hu,Result.andThen_ok,Sem.run_pure,aA hbd,hsize,hrp]
  ·exact hK.elim
 |_=>simp only[C.er] at hK
def aka(h:St c G zl s a w){d:Nat}{ts:Array TypeId}{x y:AV}{x' y':Operand}(ho:o.op=.call {callee:=.builtin .min,args:= #[x',y'],argTypes:=ts})(hd:o.dst=some d)(hn:d<c.nt)(hx:aR x' x=true)(hy:aR y' y=true)
  (hK:aV P (.mn d [x,y]) s K):dQ P c o a w K:=by
 obtain⟨p,p1,p2,p3⟩:=cr h hx;obtain⟨q,q1,q2,q3⟩:=cr h hy;simp only[aV,bE,mT] at hK;rw[<-p1,<-q1] at hK;split at hK;·rename_i k m k' n he;simp only[vZ,and_true] at he;have e1:=nk he.1;have e2:=nk he.2;subst e1;subst e2;obtain⟨rfl,hK⟩:=hK;refine dY h hd hn (x:=.int k (if n<m then n else m)) trivial (λ_ _ _ _ _ _ e=>(by cases e)) trivial (λw' _=>?_) hK;simp[execOp,ho,resolve,invoke,builtin,<-p2,<-q2,C.val,Builtin.min_,Builtin.min2]
 ·exact hK.elim
def akb(h:St c G zl s a w){d:Nat}{ts:Array TypeId}{x y:AV}{x' y':Operand}(ho:o.op=.call {callee:=.builtin .max,args:= #[x',y'],argTypes:=ts})(hd:o.dst=some d)(hn:d<c.nt)(hx:aR x' x=true)(hy:aR y' y=true)
  (hK:aV P (.mx d [x,y]) s K):dQ P c o a w K:=by
 obtain⟨p,p1,p2,p3⟩:=cr h hx;obtain⟨q,q1,q2,q3⟩:=cr h hy;simp only[aV,bE,mT] at hK;rw[<-p1,<-q1] at hK;split at hK;·rename_i k m k' n he;simp only[vZ,and_true] at he;have e1:=nk he.1;have e2:=nk he.2;subst e1;subst e2;obtain⟨rfl,hK⟩:=hK;refine dY h hd hn (x:=.int k (if n>m then n else m)) trivial (λ_ _ _ _ _ _ e=>(by cases e)) trivial (λw' _=>?_) hK;simp[execOp,ho,resolve,invoke,builtin,<-p2,<-q2,C.val,Builtin.max_,Builtin.max2]
 ·exact hK.elim
def ni:Option Operand->Option AV->Bool
 |none,none=>true
 |some x',some x=>aR x' x
 |_,_=>false
def Ke(h:St c G zl s a w){lo':Option Operand}{lo:Option AV}(hc:ni lo' lo=true)(d:Nat)(h0:0<=asNat s lo d):
  (lo'.map a.eval=none/\asNat s lo d=d)\/∃k,lo'.map a.eval=some (.int k (asNat s lo d)):=by
 cases lo' with
 |none=>
  cases lo with
  |none=>exact .inl ⟨rfl,rfl⟩
  |some x=>cases hc
 |some x'=>
  cases lo with
  |none=>cases hc
  |some x=>obtain⟨p,p1,p2,p3⟩:=cr h hc;simp only[asNat] at h0⊢;rw[<-p1] at h0⊢;cases p<;>simp[C.er] at h0;·exact .inr ⟨_,by simp only[cq,<-p2];rfl⟩
def run_sliceBound{k:IntKind}{i:Int}{y:Nat}{code:BoundsCode}(h:0<=i/\i<=y):(Instr.sliceBound (.int k i) y code).run P w=.ok i.toNat w:=by simp[Instr.sliceBound,asIntOf,h]
def U0{w':World}(h:St c G zl s a w){lo' hi':Option Operand}{lo hi:Option AV}(h1:ni lo' lo=true)(h2:ni hi' hi=true){Tm:Bool}{len cap:Nat}(hlc:len<=cap)
  (k1:0<=asNat s lo 0)(k2:asNat s lo 0<=asNat s hi len)(k3:asNat s hi len<=len):
  (Instr.sliceBounds Tm len cap (lo'.map a.eval) (hi'.map a.eval) none).run P w'=.ok ((asNat s lo 0).toNat,(asNat s hi len).toNat,cap) w':=by
 have B:∀{k:IntKind} {i:Int} {y:Nat} {code:BoundsCode},0<=i/\i<=y->(Instr.sliceBound (.int k i) y code).run P w'=.ok i.toNat w':=run_sliceBound;unfold Instr.sliceBounds;rcases Ke h h2 len (by omega) with ⟨e1,e2⟩|⟨k,e1⟩
 ·rw[e2] at k2⊢;rcases Ke h h1 0 k1 with ⟨e3,e4⟩|⟨k',e3⟩;·rw[e1,e3,e4];simp
  ·rw[e1,e3];simp only[Sem.run_bind,Sem.run_pure,Result.andThen_ok,B (And.intro k1 k2)];simp
 ·rcases Ke h h1 0 k1 with ⟨e3,e4⟩|⟨k',e3⟩;·rw[e1,e3,e4];simp only[Sem.run_bind,Sem.run_pure,Result.andThen_ok,B (show 0<=asNat s hi len/\asNat s hi len<=(cap:Int) by omega)];simp
  ·rw[e1,e3];have hle:asNat s lo 0<=((asNat s hi len).toNat:Int):=by omega
   simp only[Sem.run_bind,Sem.run_pure,Result.andThen_ok,B (show 0<=asNat s hi len/\asNat s hi len<=(cap:Int) by omega),B (And.intro k1 hle)]
def aki(h:St c G zl s a w){d:Nat}{ty:TypeId}{x:AV}{x':Operand}{lo' hi':Option Operand}{lo hi:Option AV}(ho:o.op=.slice ty x' lo' hi' none)(hu:P.underlying ty=some .string)(hd:o.dst=some d)(hn:d<c.nt)(hx:aR x' x=true)
  (h1:ni lo' lo=true)(h2:ni hi' hi=true)(hK:aV P (.gu d x lo hi) s K):dQ P c o a w K:=by
 obtain⟨y,e1,e2,e3⟩:=cr h hx;simp only[aV] at hK;split at hK
 ·rename_i t ht;rw[<-e1] at ht;have:=E8 ht;subst this;obtain⟨k1,k2,k3,k4⟩:=hK;refine dY h hd hn (x:=.str _) trivial (λ_ _ _ _ _ _ e=>(by cases e)) ?_ (λw' _=>?_) k4;·have:t.size<=9223372036854775807:=e3.ok;show (t.extract _ _).size<=_;rw[ByteArray.size_extract];omega
  ·simp only[execOp,ho,<-e2,C.val,Instr.sliceAt,Instr.slice,Sem.run_bind,run_underlying hu,Result.andThen_ok,Pj,Option.isSome_none,fS,di,Sem.run_pure,U0 h h1 h2 (eP t.size) k1 k2 k3]
 ·exact hK.elim
def akf(h:St c G zl s a w){d sz:Nat}{ty el:TypeId}{x:AV}{x':Operand}{lo' hi':Option Operand}{lo hi:Option AV}(ho:o.op=.slice ty x' lo' hi' none)(hu:P.underlying ty=some (.slice el))(hsz:∃i,P.info? el=some i/\i.size=sz)(hd:o.dst=some d)(hn:d<c.nt)(hx:aR x' x=true)
  (h1:ni lo' lo=true)(h2:ni hi' hi=true)(hK:aV P (.kR d sz x lo hi) s K):dQ P c o a w K:=by
 obtain⟨y,e1,e2,e3⟩:=cr h hx;obtain⟨xs,k0,k1,k2,k3,hK⟩:=hK;rw[<-e1] at k0 hK;obtain⟨ii,hii,kJ⟩:=hsz;have hsize:∀w:World,(Go.sizeOf el).run P w=.ok sz w:=by intro w;simp[Go.sizeOf,typeInfo,hii,kJ]
 have hrun:∀(A:Option Ad) (cap:Nat),y.val=.slice (A.map λq=>⟨q.1,q.2.1,q.2.2⟩) xs.length cap->xs.length<=cap->∃A' cap',(∀w',Ext (λ_ _=>False) w w'->(execOp a.eval o).run P w'=.ok (.value (.slice (Option.map (λq:Ad=>(⟨q.1,q.2.1,q.2.2⟩:Addr)) A') (((asNat s hi xs.length).toNat - (asNat s lo 0).toNat)) cap')) w')/\
   cap'=cap - (asNat s lo 0).toNat/\(A=none->A'=none)/\((asNat s lo 0).toNat<cap->A'=A.map λq=>jD ((asNat s lo 0).toNat*sz) q)/\((A'=A/\cap'=0)\/A'=A.map λq=>jD ((asNat s lo 0).toNat*sz) q):=by
  intro A cap hv hcap;refine⟨if cap=(asNat s lo 0).toNat then A else A.map λq=>jD ((asNat s lo 0).toNat*sz) q,cap - (asNat s lo 0).toNat,λw' _=>?_,rfl,λhA=>by subst hA;split<;>rfl,λhlt=>aE (by omega),?_⟩;rotate_left
  ·by_cases hh:cap=(asNat s lo 0).toNat;·exact .inl ⟨aA hh,by omega⟩
   ·exact .inr (aE hh)
  have hb:=U0 (P:=P) (w':=w') h h1 h2 (Tm:=true) hcap k1 k2 k3;simp only[execOp,ho,<-e2,hv,Instr.sliceAt,Instr.slice,Sem.run_bind,run_underlying hu,Result.andThen_ok,Pj,hb,hsize,Sem.run_pure];congr 3;split;·rfl
  ·cases A with
   |none=>rfl
   |some q=>simp[YP]
 cases y with
 |row m z A len cap e=>
  simp only[C.er,rowAt,dX,jW] at k0;obtain⟨rfl,rfl⟩:=k0;have hlen:((List.range len).map λi=>(List.range z).map λj=>(e i j).er).length=len:=by simp
  rw[hlen] at hrun k2 k3 hK;obtain⟨o1,o2,o3,o4,o5⟩:=e3.ok;obtain⟨A',cap',r1,r2,r3,r4,-⟩:=hrun A cap rfl o1;obtain⟨L,hL⟩:∃L,L=(asNat s lo 0).toNat:=⟨_,rfl⟩;obtain⟨H,hH⟩:∃H,H=(asNat s hi len).toNat:=⟨_,rfl⟩;rw[<-hL,<-hH] at r1 hK;rw[<-hL] at r2 r4;have hLH:L<=H:=by omega
  have hHl:H<=len:=by omega
  have kG:L<H->A'=A.map λq=>jD (L*z) q:=λhlt=>r4 (by omega);refine jJ h hd hn (x:=.row m z A' (H - L) cap' λi j=>e (i+L) j) ⟨⟨by omega,λi j hi hj=>?_,λi j hi hj=>o3 (i+L) j (by omega) hj,λhm=>?_,λi j hi hj b k hf=>?_⟩,trivial,λb k hf=>?_⟩ r1 ?_
  ·obtain⟨g,o',q1,q2,q3⟩:=o2 (i+L) j (by omega) hj;refine⟨g,o'+L*z,by rw[kG (by omega),q1,cq,pN],?_,λhm=>?_⟩;·rw[show o'+L*z+i*z+j=o'+(i+L)*z+j by rw[fH];omega];exact q2
   ·rw[show o'+L*z+i*z+j=o'+(i+L)*z+j by rw[fH];omega];exact q3 hm
  ·rcases o4 hm with ⟨q1,q2⟩|⟨g,o',arr,t,fz,q1,_⟩;·exact .inl ⟨r3 q1,by omega⟩
   ·exact(e3.cY g 0 ⟨hm,.inl ⟨_,q1⟩⟩).elim
  ·exact(e3.cY b k (C.ke (o3 (i+L) j (by omega) hj).1 (o3 (i+L) j (by omega) hj).2.2.1 (by omega) hj hf)).elim
  ·obtain⟨hm,⟨o',hA⟩|⟨i,j,hi,hj,hf⟩⟩:=hf
   ·rcases o4 hm with ⟨q1,_⟩|⟨g,o2',_,_,_,q1,_⟩;·rw[r3 q1] at hA;cases hA
    ·exact e3.cY g 0 ⟨hm,.inl ⟨_,q1⟩⟩
   ·exact e3.cY b k (C.ke (o3 (i+L) j (by omega) hj).1 (o3 (i+L) j (by omega) hj).2.2.1 (by omega) hj hf)
  ·have hX:(C.row m z A' (H - L) cap' λi j=>e (i+L) j).er=.row m z ((((List.range len).map λi=>(List.range z).map λj=>(e i j).er).take H).drop L):=by simp only[C.er,<-pH,<-lW,vT];rw[kW hHl,oV,cS];rfl
   rw[hX];exact hK
 |ref v r p=>
  obtain⟨y',z',hs,hF,hv,m,sz',A,len,cap,e,rfl⟩:=e3.rf;cases hF with
  |row m m' sz' A len cap e e'=>
   simp only[C.er,rowAt,look] at k0;rw[<-h.inv.er,C.gL,hs] at k0;simp only[cq,C.er,dX,jW] at k0;obtain⟨rfl,rfl⟩:=k0;have hlen:((List.range len).map λi=>(List.range sz').map λj=>(e' i j).er).length=len:=by simp
   rw[hlen] at hrun k2 k3 hK;obtain⟨o1,o2,o3,o4,o5⟩:=C.iy p hs (h.inv.ok r);obtain⟨A',cap',r1,r2,r3,r4,r5⟩:=hrun A cap hv.symm o1;refine jJ h hd hn (x:=.cut _ r p (asNat s lo 0).toNat (asNat s hi len).toNat) ⟨trivial,⟨m',_,A,len,cap,e',A',cap',hs,rfl,by omega,by omega,by omega,λhlt=>r4 (by omega),by omega,r5⟩,λ_ _ hh=>hh⟩ r1 hK
 |_=>exact hK.elim
def mg:List Operand->List AV->Bool
 |[],[]=>true
 |x'::l',x::l=>aR x' x && mg l' l
 |_,_=>false
def Nn(h:St c G zl s a w):∀{l':List Operand} {l:List AV},mg l' l=true->∃cs:List C,cs.map C.er=l.map (ay s)/\cs.map C.val=l'.map a.eval/\∀x∈cs,eL w zl c.zb G x
 |[],[],_=>⟨[],rfl,rfl,λ_ hx=>(by cases hx)⟩
 |x'::l',x::l,hc=>by
  simp only[mg,aC] at hc;obtain⟨cs,l1,l2,l3⟩:=Nn h hc.2;obtain⟨p,p1,p2,p3⟩:=cr h hc.1;refine⟨p::cs,by simp[p1,l1],by simp[p2,l2],λx hx=>?_⟩;rcases ck.1 hx with rfl|hx;·exact p3
  ·exact l3 x hx
 |[],_::_,hc=>by cases hc
 |_::_,[],hc=>by cases hc
def aj9(h:St c G zl s a w){d:Nat}{f:FuncId}{cs:List AV}{cs':Array Operand}(ho:o.op=.makeFunc (.func f) #[] cs')(hd:o.dst=some d)(hn:d<c.nt)(hx:mg cs'.toList cs=true)
  (hK:aV P (.nQ d f cs) s K):dQ P c o a w K:=by
 obtain⟨l,l1,l2,l3⟩:=Nn h hx;refine jJ h hd hn (x:=.fn f l.length λj=>l.getD j (.dead undef)) ⟨λj hj=>⟨(l3 _ (cT hj _)).ok,(l3 _ (cT hj _)).cY⟩,λj hj=>(l3 _ (cT hj _)).rf,λ_ _ hh=>hh⟩ (λw' _=>?_) ?_
 ·have:(C.fn f l.length λj=>l.getD j (.dead undef)).val=.func (.func f) #[] (l.map C.val).toArray:=by show Value.func _ _ _=_;rw[mM l _ C.val]
  rw[this,l2];have hm:(cs'.toList.map a.eval).toArray=cs'.map a.eval:=by rw[<-Pg,Array.toArray_toList]
  rw[hm];simp[execOp,ho,Instr.makeFunc]
 ·have:(C.fn f l.length λj=>l.getD j (.dead undef)).er=.fn f (l.map C.er):=by show X.fn _ _=_;rw[mM l _ C.er]
  rw[this,l1];exact hK
def akk(h:St c G zl s a w){d:Nat}{src dst el:TypeId}{x:AV}{x':Operand}(ho:o.op=.convert src dst x')(hs:P.underlying src=some (.slice el))(he:P.underlying el=some (.int .u8))(hdt:P.underlying dst=some .string)(hd:o.dst=some d)(hn:d<c.nt)(hx:aR x' x=true)
  (hK:aV P (.text d x) s K):dQ P c o a w K:=by
 obtain⟨y,e1,e2,e3⟩:=cr h hx;obtain⟨xs,k1,k2,l,k3,hK⟩:=hK;rw[<-e1] at k1;obtain⟨A,len,cap,e,hxs,hv⟩:=NI h.inv e3 k1;have hlen:len=l.length:=by have:=dF List.length (hxs.symm.trans k3);simpa [dO] using this
 subst hlen
 have hcell:∀j (hj:j<l.length),(e j 0).val=.int .u8 (l[j].toNat:Int):=by
  intro j hj;have:=dF (λt:List (List X)=>t[j]?) (hxs.symm.trans k3);simp only[dO] at this;rw[C.dn,aA hj,dm,cv hj] at this;simp only[cq,dX] at this;have hz:(e j 0).er=.int .u8 (l[j].toNat:Int):=by have h2:=dF (λt:List X=>t[0]?) this;simpa using h2
  rw[nk hz];rfl
 refine dY h hd hn (x:=.str ⟨l.toArray⟩) trivial (λ_ _ _ _ _ _ e=>(by cases e)) ?_ (λw' hE=>?_) hK;·show (⟨l.toArray⟩:ByteArray).size<=_;rw[k3] at k2;simpa [ByteArray.size] using k2
 ·cases hA:A with
  |none=>
   have hl0:l=[]:=by
    cases hl:l with
    |nil=>rfl
    |cons b t=>obtain⟨g,o',hg,_⟩:=hv.cell 0 0 (by rw[hl];simp) (by omega);rw[hA] at hg;cases hg
   subst hl0;have eM:=hv.val;rw[hA] at eM;simp only[Pj] at eM;simp[execOp,ho,<-e2,eM,convert,run_underlying hs,run_underlying he,run_underlying hdt,Conv.bytesToString,C.val];rfl
  |some q=>
   have eM:=hv.val;rw[hA] at eM;simp only[cq] at eM
   have:=run_convert_bytes_back (P:=P) w' src dst el ⟨q.1,q.2.1,q.2.2⟩ cap l hs he hdt (λj hj=>by
    obtain⟨g,o',hg,hcl⟩:=hv.cell j 0 hj (by omega);rw[hA] at hg;injection hg with hg
    subst hg;rw[ri,<-hcell j hj];exact hE.cell (λhs=>hs) (by simpa using hcl))
   simp[execOp,ho,<-e2,eM,this,C.val]
end
end M
namespace M
open Go Go.RowKit
variable [Bs]
variable {w w':World}{zl zb:Nat->Nat->Prop}{G G1:Nat->C}{s s1:ah}{Z:Md->Nat->Nat->Prop}
def pU{α:Type}{l:List α}{i:Nat}{x:α}(h:l[i]?=some x)(d:α):l.getD i d=x:=by rw[k6,h];rfl
def C.RT(c:C):c.fits .own:=by cases c<;>first|trivial|exact .inl rfl
def Ap{α:Type}{sz:Nat}:∀{L:List (List α)} (h:∀e∈L,e.length=sz) (i j:Nat) (hi:i<L.length) (hj:j<sz),L.flatten[i*sz+j]?=(L[i]?).bind (·[j]?)
 |[],h,i,j,hi,hj=>by simp at hi
 |e::L,h,0,j,hi,hj=>by have:=h e (bH ..);simp only[Nat.zero_mul,mU,Pz,zL,gw];rw[og (by omega)]
 |e::L,h,i+1,j,hi,hj=>by have he:=h e (bH ..);have hh:∀e∈L,e.length=sz:=λx hx=>h x (cl _ hx);simp only[Pz,JU];rw[iM (by rw[he,fH];omega),<-Ap hh i j (by simpa using hi) hj,he];congr 1;rw[fH];omega
def rR{α:Type}{sz:Nat}:∀{L:List (List α)} (h:∀e∈L,e.length=sz),L.flatten.length=L.length*sz
 |[],h=>by simp
 |e::L,h=>by rw[Pz,iN,h e (bH ..),rR λx hx=>h x (cl _ hx),dc,fH];omega
def yH(L:List (List C))(i j:Nat):C:=(L.getD i []).getD j (.dead undef)
def vn(g o sz cap:Nat)(L:List (List C)):C:=.row .own sz (some (g,o,none)) L.length cap (yH L)
def yI{L:List (List C)}{sz i j:Nat}(h:∀e∈L,e.length=sz)(hi:i<L.length)(hj:j<sz):L.flatten[i*sz+j]?=some (yH L i j)/\yH L i j∈L.flatten:=by
 have h1:L[i]?=some L[i]:=cv hi;have hl:L[i].length=sz:=h _ (bh hi);have h2:(L[i])[j]?=some (L[i])[j]:=cv (by omega);have h3:yH L i j=(L[i])[j]:=by unfold yH;rw[pU h1,pU h2]
 have h4:=Ap h i j hi hj;rw[h1,gw,h2] at h4;rw[h3];exact⟨h4,lX h4⟩
def UM{g o sz cap:Nat}{L:List (List C)}(h:∀e∈L,e.length=sz):(vn g o sz cap L).er=.row .own sz (L.map λe=>e.map C.er):=by
 simp only[vn,C.er];congr 1;apply gP;intro i;rw[C.dn,dm];by_cases hi:i<L.length
 ·rw[aA hi,cv hi,cq];congr 1;have hl:L[i].length=sz:=h _ (bh hi);apply gP;intro j;rw[C.dn,dm];by_cases hj:j<sz;·rw[aA hj,cv (by omega),cq];unfold yH;rw[pU (cv hi),pU (cv (by omega))]
  ·rw[aE hj,k7 (by omega)];rfl
 ·rw[aE hi,k7 (by omega)];rfl
def akK(g o sz cap:Nat)(L:List (List C)):(vn g o sz cap L).val=.slice (some ⟨g,o,none⟩) L.length cap:=rfl
def UN{g o sz cap:Nat}{L:List (List C)}(h:∀e∈L,e.length=sz){b k:Nat}(hf:(vn g o sz cap L).fp b k):b=g\/∃x∈L.flatten,x.fp b k:=by
 obtain⟨_,⟨o',hA⟩|⟨i,j,hi,hj,hf⟩⟩:=hf;·injection hA with hA;injection hA with e1 e2;exact .inl e1.symm
 ·exact .inr ⟨_,(yI h hi hj).2,hf⟩
def akm{l:List C}(h:l.Pairwise λa b=>∀x k,a.fp x k->¬b.fp x k){p q:Nat}{x y:C}(hp:l[p]?=some x)(hq:l[q]?=some y)(hne:p≠q){b k:Nat}(hf:x.fp b k):¬y.fp b k:=by
 obtain⟨hp',rfl⟩:=aK.1 hp;obtain⟨oC,rfl⟩:=aK.1 hq;rcases Nat.lt_or_gt_of_ne hne with hlt|hlt;·exact vR.1 h p q hp' oC hlt b k hf
 ·exact λhf'=>vR.1 h q p oC hp' hlt b k hf' hf
def UO{g o sz cap:Nat}{L:List (List C)}(h:∀e∈L,e.length=sz)(hcap:L.length<=cap){arr:Array Value}{t:TypeId}{fz:Nat×Nat}(hh:w.heap[g]?=some (.cells arr t fz))(hsz:o+cap*sz<=arr.size)
  (hfr:∀k,o<=k->k<o+cap*sz->w.frozen? ⟨g,k,none⟩=false)(hcell:∀q x,L.flatten[q]?=some x->w.cell? ⟨g,o+q,none⟩=some x.val)
  (hx:∀x∈L.flatten,x.cell/\x.cZ/\x.ok w Z)(gZ:L.flatten.Pairwise λa b=>∀x k,a.fp x k->¬b.fp x k)(hg:∀x∈L.flatten,∀b k,x.fp b k->b≠g):(vn g o sz cap L).ok w Z:=by
 refine⟨hcap,λi j hi hj=>⟨g,o,rfl,?_,λhm=>(hm rfl).elim⟩,λi j hi hj=>?_,λ_=>.inr ⟨g,o,arr,t,fz,rfl,hh,hsz,hfr⟩,λi j hi hj b k hf=>⟨λ_ o' hA=>?_,λi' j' hi' hj' hne=>?_⟩⟩;·rw[tF];exact hcell _ _ (yI h hi hj).1
 ·obtain⟨a1,a2,a3⟩:=hx _ (yI h hi hj).2;exact⟨a1,a2,C.RT _,a3⟩
 ·injection hA with hA;injection hA with e1 e2
  exact hg _ (yI h hi hj).2 b k hf e1.symm
 ·refine akm gZ (yI h hi hj).1 (yI h hi' hj').1 (λe=>hne ?_) hf;obtain⟨rfl,rfl⟩:=Nr hj hj' e;rfl
def CG(g:Nat)(l:List C):C:=.ptr .own g 0 l.length λj=>l.getD j (.dead undef)
def aku(g:Nat)(l:List C):(CG g l).er=.ptr .own (l.map C.er):=by simp only[CG,C.er,mM]
def akv{g:Nat}{l:List C}{b k:Nat}(hf:(CG g l).fp b k):b=g\/∃x∈l,x.fp b k:=by
 obtain⟨_,hA|⟨j,hj,hf⟩⟩:=hf;·exact .inl hA.1
 ·exact .inr ⟨_,cT hj _,hf⟩
def akw{g:Nat}{l:List C}(hg:g<w.heap.size)(hcell:∀q x,l[q]?=some x->w.cell? ⟨g,q,none⟩=some x.val)(hfr:∀k,k<l.length->w.frozen? ⟨g,k,none⟩=false)
  (hx:∀x∈l,x.cell/\x.ok w Z)(gZ:l.Pairwise λa b=>∀x k,a.fp x k->¬b.fp x k)(hgx:∀x∈l,∀b k,x.fp b k->b≠g):(CG g l).ok w Z:=by
 refine⟨λj hj=>⟨?_,λhm=>(hm rfl).elim,λ_=>?_⟩,hg,λj hj=>?_,λj hj b k hf=>⟨λ_ hb=>?_,λj' hj' hne=>?_⟩⟩;·rw[mU];exact hcell j _ (by show _=some (l.getD j (.dead undef));rw[pU (cv hj)];exact cv hj)
 ·rw[mU];exact hfr j hj
 ·obtain⟨a1,a3⟩:=hx _ (cT hj (.dead undef));exact⟨a1,C.RT _,a3⟩
 ·exact hgx _ (cT hj _) b k hf hb.1
 ·exact yC gZ _ hj hj' hne hf
def C.cells:C->List C
 |.agg n f=>(List.range n).map f
 |.av _ _=>[]
 |.dead _=>[]
 |x=>[x]
def C.shape(x:C):Prop:=x.cells=[]\/(∃n f,x=.agg n f)\/(x.cells=[x]/\x.cell)
def I8{x:C}(h:x.rf G):x.shape:=by
 cases x with
 |agg n f=>exact .inr (.inl ⟨n,f,rfl⟩)
 |av n f=>exact .inl rfl
 |dead v=>exact .inl rfl
 |ref v r p=>exact .inr (.inr ⟨rfl,NG h⟩)
 |az v r p i c=>obtain⟨y,hs,hy⟩:=h;refine .inr (.inr ⟨rfl,?_⟩);rcases hy with ⟨m,sz,g,o',len,cap,e,rfl,hv⟩|⟨m,g,o',n,cc,rfl,_,hv⟩<;>(subst hv;rfl)
 |cut v r p lo hi=>obtain⟨m,sz,A,len,cap,e,A',cap',hs,hv,_⟩:=h;refine .inr (.inr ⟨rfl,?_⟩);subst hv;rfl
 |_=>exact .inr (.inr ⟨rfl,trivial⟩)
def ud(x:C):x.cells.map C.er=cellsOf x.er:=by cases x<;>simp[C.cells,C.er,cellsOf]
def EW{x:C}(h:0<x.cells.length)(hc:x.shape):x.val.cells=(x.cells.map C.val).toArray:=by
 rcases hc with hc|⟨n,f,rfl⟩|⟨h1,h2⟩;·rw[hc] at h;simp at h
 ·simp[C.cells,C.val,Value.cells]
 ·rw[h1];exact ajK (Inv.rF h2)
def Ab{x y:C}(hy:y∈x.cells){b k:Nat}(hf:y.fp b k):x.fp b k:=by
 cases x with
 |agg n f=>obtain⟨j,hj,rfl⟩:=bw.1 hy;exact⟨j,by simpa using hj,hf⟩
 |av n f=>cases hy
 |dead v=>cases hy
 |_=>simp only[C.cells,fF] at hy;subst hy;exact hf
def wN{x y:C}(hc:x.shape)(hx:x.ok w Z)(hy:y∈x.cells):y.cell/\y.ok w Z:=by
 rcases hc with hc|⟨n,f,rfl⟩|⟨h1,h2⟩;·rw[hc] at hy;cases hy
 ·obtain⟨j,hj,rfl⟩:=bw.1 hy;exact hx.1 j (by simpa using hj)
 ·rw[h1,fF] at hy;subst hy;exact⟨h2,hx⟩
def KU{x y:C}(hx:x.rf G)(hy:y∈x.cells):y.rf G:=by
 cases x with
 |agg n f=>obtain⟨j,hj,rfl⟩:=bw.1 hy;exact hx j (by simpa using hj)
 |av n f=>cases hy
 |dead v=>cases hy
 |_=>simp only[C.cells,fF] at hy;subst hy;exact hx
def abU{x:C}(hx:x.ok w Z):x.cells.Pairwise λa b=>∀x k,a.fp x k->¬b.fp x k:=by
 cases x with
 |agg n f=>refine Ec.2 ?_;refine JP (R:=λa b=>a<b) ?_ Pc;intro i j hi hj hlt b k hf;exact hx.2 i (by simpa using hi) b k hf j (by simpa using hj) (by omega)
 |av n f=>exact List.Pairwise.nil
 |dead v=>exact List.Pairwise.nil
 |_=>exact Wh _ _
def bM.one{c:C}(h:fI w zl zb G c G1 s1):bM w zl zb G [c] G1 s1:=bM.cons h (bM.nil h.inv)
def bM.flat{cs:List C}(h:bM w zl zb G cs G1 s1)(hc:∀x∈cs,x.shape):bM w zl zb G (cs.flatMap C.cells) G1 s1 where
 inv:=h.inv
 all:=λc hx=>by obtain⟨x,hx,j8⟩:=JE.1 hx;obtain⟨a1,a2,a3,a4⟩:=h.all x hx;exact⟨(wN (hc x hx) a1 j8).2,λt b k hf=>a2 t b k (Ab j8 hf),λb k hf=>a3 b k (Ab j8 hf),λb k hf=>a4 b k (Ab j8 hf)⟩
 apart:=by
  have h1:=h.apart;have h2:=h.all;clear h hc;induction cs with
  |nil=>exact List.Pairwise.nil
  |cons x cs ih=>rw[je];rw[fG] at h1;refine vQ.2 ⟨abU (h2 x (bH ..)).1,ih h1.2 (λc hc=>h2 c (cl _ hc)),λa ha b hb y k hf hf'=>?_⟩;obtain⟨x',hx',hb⟩:=JE.1 hb;exact h1.1 x' hx' y k (Ab ha hf) (Ab hb hf')
 val:=h.val
 mono:=h.mono
namespace Inv
def ext(h:Inv w zl zb G s){S:Nat->Nat->Prop}(hE:Ext S w w')(hS:∀t b k,(G t).fp b k->¬S b k)(hZ:∀b k,zl b k\/zb b k->¬S b k):Inv w' zl zb G s where
 er:=h.er
 ok:=λt=>C.fM hE (λm b k hz=>by cases m with
  |own=>exact hz.elim
  |sl=>exact hZ b k (.inl hz)
  |af=>exact hZ b k hz) _ (hS t) (h.ok t)
 sep:=h.sep
 fz:=h.fz
 rf:=h.rf
 cL:=λb k hz=>kV (h.cL b k hz) hE.size
end Inv
def St.fresh'{c:Ctx}{zl:Nat->Nat->Prop}{a:Act}{l:List C}{S:Nat->Nat->Prop}(h:St c G zl s a w)(hT:bM w zl c.zb G l G1 s1)(hE:Ext S w w')(hS:∀b k,S b k->w.heap.size<=b\/∃y∈l,y.fp b k){x:C}{n:Nat}(hn:n<c.nt)(hok:x.ok w' (Zf zl c.zb))(hrf:x.rf G1)
  (cx:∀b k,x.fp b k->w.heap.size<=b\/∃y∈l,y.fp b k):∃G',St c G' zl (M.put n x.er s1) (a.put (some n) x.val) w':=by
 have hi:Inv w' zl c.zb G1 s1:=hT.inv.ext hE (λt b k hf hs=>by
  rcases hS b k hs with hb|⟨y,hy,hf'⟩;·have:=C.fK _ (hT.inv.ok t) b k hf;omega
  ·exact(hT.all y hy).2.1 t b k hf' hf) (λb k hz hs=>by
  rcases hS b k hs with hb|⟨y,hy,hf'⟩;·have:=hT.inv.cL b k hz;omega
  ·exact hz.elim ((hT.all y hy).2.2.1 b k hf').1 ((hT.all y hy).2.2.1 b k hf').2)
 have hdom:∀b k,(w.heap.size<=b\/∃y∈l,y.fp b k)->c.F0 b k\/c.w0.heap.size<=b:=λb k hh=>by
  rcases hh with hb|⟨y,hy,hf⟩;·exact .inr (e8 h.tr.ext.size hb)
  ·obtain⟨t,ht⟩:=(hT.all y hy).2.2.2 b k hf;exact h.tr.dom t b k ht
 have h1:St c G1 zl s1 a w':=h.move hi hT.val hE (λb k hs=>hdom b k (hS b k hs)) (λt b k hf=>.inl ⟨t,hT.mono t b k hf⟩);refine h1.put hn hok (λt _ b k hf hf'=>?_) (λb k hf=>?_) hrf (λb k hf=>hdom b k (cx b k hf))
 ·rcases cx b k hf with hb|⟨y,hy,hf⟩;·have:=C.fK _ (hT.inv.ok t) b k hf';omega
  ·exact(hT.all y hy).2.1 t b k hf hf'
 ·rcases cx b k hf with hb|⟨y,hy,hf⟩;·exact⟨λhz=>by have:=hT.inv.cL b k (.inl hz);omega,λhz=>by have:=hT.inv.cL b k (.inr hz);omega⟩
  ·exact(hT.all y hy).2.2.1 b k hf
def St.fresh{c:Ctx}{zl:Nat->Nat->Prop}{a:Act}{l:List C}(h:St c G zl s a w)(hT:bM w zl c.zb G l G1 s1)(hE:Ext (λb _=>w.heap.size<=b) w w'){x:C}{n:Nat}(hn:n<c.nt)(hok:x.ok w' (Zf zl c.zb))(hrf:x.rf G1)
  (cx:∀b k,x.fp b k->w.heap.size<=b\/∃y∈l,y.fp b k):∃G',St c G' zl (M.put n x.er s1) (a.put (some n) x.val) w':=
 h.fresh' hT hE (λ_ _ hs=>.inl hs) hn hok hrf cx
def bM.fits'{l:List C}{S:Nat->Nat->Prop}(hT:bM w zl zb G l G1 s1)(hE:Ext S w w')(hZ:∀b k,zl b k\/zb b k->¬S b k){x:C}(hx:x.ok w (Zf zl zb))(hS:∀b k,x.fp b k->¬S b k):x.ok w' (Zf zl zb):=
 C.fM hE (λm b k hz=>by cases m with
  |own=>exact hz.elim
  |sl=>exact hZ b k (.inl hz)
  |af=>exact hZ b k hz) _ hS hx
def bM.fits{l:List C}(hT:bM w zl zb G l G1 s1)(hE:Ext (λb _=>w.heap.size<=b) w w'){x:C}(hx:x∈l):x.ok w' (Zf zl zb):=by obtain⟨a1,a2,a3,a4⟩:=hT.all x hx;exact C.fM hE (λm b k hz hs=>by have:=J4 hT.inv.cL m b k hz;omega) _ (λb k hf hs=>by have:=C.fK _ a1 b k hf;omega) a1
def AG(w:World)(o:Obj):(w.alloc o).heap[w.heap.size]?=some o:=by show (w.heap.push o)[w.heap.size]?=_;simp
def J7(w:World)(o:Obj):Ext (λb _=>w.heap.size<=b) w (w.alloc o):=Ext.alloc w _ o
def Rs(w:World)(o:Obj):Ext (λb _=>w.heap.size<=b) w (w.drew.alloc o):=
 (Ext.drew w (λb _=>w.heap.size<=b)).trans (Ext.alloc w.drew (λb _=>w.heap.size<=b) o) (λ_ _ h _=>h)
end M
namespace M
open Go Go.RowKit
variable [Bs]
section
variable {P:Program}{c:Ctx}{G:Nat->C}{zl:Nat->Nat->Prop}{s:ah}{a:Act}{w:World}{o:Oper}{K:ah->Prop}
def nj:List Value->List X->Bool
 |[],[]=>true
 |v::vs,x::xs=>(EX v x||(match x with|.dead=>v.oneCell'|_=>false)) && nj vs xs
 |_,_=>false
structure YM (w:World) (zl zb:Nat->Nat->Prop) (vs:List Value) (xs:List X) (l:List C):Prop where
 er:l.map C.er=xs
 val:l.map C.val=vs
 all:∀x∈l,x.plain/\x.ok w (Zf zl zb)/\∀b k,¬x.fp b k
def Er(w:World)(zl zb:Nat->Nat->Prop):∀{vs:List Value} {xs:List X},nj vs xs=true->∃l,YM w zl zb vs xs l
 |[],[],_=>⟨[],rfl,rfl,λ_ hx=>(by cases hx)⟩
 |v::vs,x::xs,h=>by
  simp only[nj,aC,vX] at h;obtain⟨l,l1,l2,l3⟩:=Er w zl zb h.2
  have:∃d:C,d.er=x/\d.val=v/\d.plain/\d.ok w (Zf zl zb)/\∀b k,¬d.fp b k:=by
   rcases h.1 with h1|h1;·obtain⟨d,d1,d2,d3,d4⟩:=Rh (w:=w) (zl:=zl) (c:=⟨w,zl,zl,zb,0,[]⟩) (G:=λ_=>.dead undef) h1;exact⟨d,d1,d2,d4,d3.ok,d3.cY⟩
   ·cases x with
    |dead=>exact⟨.dead v,rfl,rfl,h1,trivial,λ_ _ h=>h⟩
    |_=>cases h1
  obtain⟨d,d1,d2,d3⟩:=this;refine⟨d::l,by simp[d1,l1],by simp[d2,l2],λx hx=>?_⟩;rcases ck.1 hx with rfl|hx;·exact d3
  ·exact l3 x hx
 |[],_::_,h=>by cases h
 |_::_,[],h=>by cases h
def ry{l:List C}(h:∀x∈l,∀b k,¬x.fp b k):l.Pairwise λa b=>∀x k,a.fp x k->¬b.fp x k:=by
 induction l with
 |nil=>exact List.Pairwise.nil
 |cons x l ih=>exact fG.2 ⟨λy _ b k hf=>(h x (bH ..) b k hf).elim,ih λy hy=>h y (cl _ hy)⟩
def bM.none(h:Inv w zl c.zb G s){l:List C}(hl:∀x∈l,x.ok w (Zf zl c.zb)/\∀b k,¬x.fp b k):bM w zl c.zb G l G s:=
 ⟨h,λx hx=>⟨(hl x hx).1,λt b k hf=>((hl x hx).2 b k hf).elim,λb k hf=>((hl x hx).2 b k hf).elim,λb k hf=>((hl x hx).2 b k hf).elim⟩,ry λx hx=>(hl x hx).2,λ_=>rfl,λ_ _ _ hf=>hf⟩
def Su(h:St c G zl s a w){l:List C}{G1:Nat->C}{s1:ah}(hT:bM w zl c.zb G l G1 s1)(hcell:∀x∈l,x.cell)(hrf:∀x∈l,x.rf G1){d:Nat}(hd:o.dst=some d)(hn:d<c.nt){t:TypeId}{arr:Array Value}(LD:arr=(l.map C.val).toArray)
  (hrun:(execOp a.eval o).run P w=.ok (.value (.pointer (some ⟨w.heap.size,0,none⟩))) (w.alloc (.cells arr t)))(hK:K (put d (.ptr .own (l.map C.er)) s1)):jY P c o a w K:=by
 subst LD;have hE:=J7 w (.cells (l.map C.val).toArray t);have hnew:=AG w (.cells (l.map C.val).toArray t)
 have hok:(CG w.heap.size l).ok (w.alloc (.cells (l.map C.val).toArray t)) (Zf zl c.zb):=by
  refine akw ?_ (λq x hq=>?_) (λk _=>frozen_of_row _ _ _ _ _ hnew) (λx hx=>⟨hcell x hx,hT.fits hE hx⟩) hT.apart (λx hx b k hf=>?_);·exact(kz.1 hnew).1
  ·rw[cell_of_row _ _ _ _ _ (0,0) hnew];simp[hq]
  ·have:=C.fK _ (hT.all x hx).1 b k hf;omega
 obtain⟨G',h'⟩:=h.fresh hT hE hn hok (λj hj=>hrf _ (cT hj _)) (λb k hf=>(akv hf).imp (λe=>by omega) id);refine⟨_,_,hrun,hE.mono (λb k hs hb=>by omega),G',zl,_,hK,?_⟩;rw[hd];rw[aku] at h';exact h'
def good_row(h:St c G zl s a w){L:List (List C)}{sz cap:Nat}{G1:Nat->C}{s1:ah}(hL:∀e∈L,e.length=sz)(hcap:L.length<=cap)(hT:bM w zl c.zb G L.flatten G1 s1)(hpl:∀x∈L.flatten,x.plain){d:Nat}(hd:o.dst=some d)(hn:d<c.nt)
  {t:TypeId}{arr:Array Value}{fz:Nat×Nat}{w':World}(hE:Ext (λb _=>w.heap.size<=b) w w')(hnew:w'.heap[w.heap.size]?=some (.cells arr t fz))(hsz:cap*sz<=arr.size)(hfz:∀k,k<cap*sz->¬(fz.1<=k/\k<fz.2))(LD:∀(q:Nat) (x:C),L.flatten[q]?=some x->arr[q]?=some x.val)
  (hrun:(execOp a.eval o).run P w=.ok (.value (.slice (some ⟨w.heap.size,0,none⟩) L.length cap)) w')(hK:K (put d (.row .own sz (L.map λe=>e.map C.er)) s1)):jY P c o a w K:=by
 have hok:(vn w.heap.size 0 sz cap L).ok w' (Zf zl c.zb):=by
  refine UO hL hcap hnew (by omega) (λk _ hk=>?_) (λq x hq=>?_) (λx hx=>⟨C.lQ (hpl x hx),C.CF (hpl x hx),hT.fits hE hx⟩) hT.apart (λx hx b k hf=>?_);·have:=hfz k (by omega);simp[World.frozen?,hnew];omega
  ·rw[cell_of_row _ _ _ _ _ fz hnew,mU];exact LD q x hq
  ·have:=C.fK _ (hT.all x hx).1 b k hf;omega
 obtain⟨G',h'⟩:=h.fresh hT hE hn hok trivial (λb k hf=>(UN hL hf).imp (λe=>by omega) id);refine⟨_,_,hrun,hE.mono (λb k hs hb=>by omega),G',zl,_,hK,?_⟩;rw[hd];rw[UM hL] at h';exact h'
def akc(h:St c G zl s a w){d:Nat}{ty:TypeId}{i:TypeInfo}{v:Value}{z:List X}(ho:o.op=.alloc ty)(hi:P.info? ty=some i)(hz:i.zero=some v)(hc:nj v.cells.toList z=true)(hd:o.dst=some d)(hn:d<c.nt)
  (hK:aV P (.new d z) s K):jY P c o a w K:=by
 obtain⟨l,l1,l2,l3⟩:=Er w zl c.zb hc;refine Su h (bM.none h.inv λx hx=>(l3 x hx).2) (λx hx=>C.lQ (l3 x hx).1) (λx hx=>C.oU (l3 x hx).1 _) hd hn (t:=ty) (arr:=v.cells) ?_ ?_ (by rw[l1];exact hK);·rw[l2]
 ·simp[execOp,ho,Instr.alloc,zeroValue,typeInfo,hi,hz,newVar,newRow]
def ajS(h:St c G zl s a w){d:Nat}{tk:Tk}{ty:TypeId}{x:AV}{x':Operand}(ho:o.op=.box ty x')(hd:o.dst=some d)(hn:d<c.nt)(hx:aR x' x=true)
  (hK:aV P (.box d tk x) s K):jY P c o a w K:=by obtain⟨y,e1,e2,e3⟩:=cr h hx;obtain⟨y',G1,f1,f2,f3,f4⟩:=qN tk h.inv e3;obtain⟨k1,k2⟩:=hK;rw[<-e1,<-f1,<-ud] at k1 k2;have hsh:=I8 f4.rf;have hT:=bM.flat (bM.one f4) (λx hx=>by rw[fF] at hx;subst hx;exact hsh);simp only[je,Py,lZ] at hT;refine Su h hT (λx hx=>(wN hsh f4.ok hx).1) (λx hx=>KU f4.rf hx) hd hn (t:=ty) (EW (by simpa using k1) hsh) ?_ k2;rw[f2,e2];simp[execOp,ho,Instr.box,newVar,newRow]
def aj8(h:St c G zl s a w){d sz bytes:Nat}{ty el:TypeId}{i:TypeInfo}{v:Value}{z:List X}{n:AV}{n' n2:Operand}(ho:o.op=.makeSlice ty n' n2)(hu:P.underlying ty=some (.slice el))(hi:P.info? el=some i)(hz:i.zero=some v)(hsz:i.size=sz)(hb:i.bytes=bytes)(hb0:0<bytes)
  (h0:0<sz)(hzs:z.length=sz)(hc:nj v.cells.toList z=true)(hd:o.dst=some d)(hn:d<c.nt)(hx:aR n' n=true)(hx2:aR n2 n=true)(hK:aV P (.make d sz bytes z n) s K):jY P c o a w K:=by
 obtain⟨y,e1,e2,e3⟩:=cr h hx;obtain⟨y2,g1,g2,g3⟩:=cr h hx2;simp only[aV] at hK;split at hK
 ·rename_i k m hm;have hm2:=hm;rw[<-e1] at hm;rw[<-g1] at hm2;have:=nk hm;subst this;have:=nk hm2;subst this;obtain⟨k1,k2,k3⟩:=hK;obtain⟨l,l1,l2,l3⟩:=Er w zl c.zb hc;have uy:l.length=sz:=by rw[<-hzs,<-l1];simp
  have hvs:v.cells.size=sz:=by have:=dF List.length l2;simp only[dH,zz] at this;omega
  have hL:∀e∈List.replicate m.toNat l,e.length=sz:=λe he=>by rw[(List.mem_replicate.1 he).2];exact uy
  have hfl:∀x∈(List.replicate m.toNat l).flatten,x∈l:=λx hx=>by obtain⟨e,he,hx⟩:=JF.1 hx;rw[(List.mem_replicate.1 he).2] at hx;exact hx
  have hmul:m<=m*bytes:=by have:m*1<=m*(bytes:Int):=Int.mul_le_mul_of_nonneg_left (by omega) k1;omega
  have hr:=run_make (P:=P) w ty el i v hu hi hz k k m m k1 (Int.le_refl _) (by rw[hb,Int.mul_comm];omega) (by omega);refine good_row h (L:=List.replicate m.toNat l) (cap:=m.toNat) hL (by simp) (bM.none h.inv λx hx=>(l3 x (hfl x hx)).2) (λx hx=>(l3 x (hfl x hx)).1) hd hn (J7 w (.cells (madeCells v.cells (m.toNat*i.size)) el (0,0))) (AG w (.cells (madeCells v.cells (m.toNat*i.size)) el (0,0))) ?_ ?_ ?_ ?_ ?_;·rw[size_madeCells,hsz];exact eP _
  ·intro k _ hh;simp at hh
  ·intro q x hq;have AO:q<m.toNat*sz:=by have:=(aK.1 hq).1;rw[rR hL,List.length_replicate] at this;exact this
   have hj:q%sz<sz:=tG _ h0;have hi':q / sz<m.toNat:=Wo (by rw[qT];exact AO);have AN:q=q / sz*sz+q%sz:=by have:=Eh q sz;rw[qT] at this;omega
   have:=Ap hL (q / sz) (q%sz) (by simpa using hi') hj;rw[<-AN,hq,PA,aA hi'] at this;simp only[gw] at this;have hv:v.cells.toList[q%sz]?=some x.val:=by rw[<-l2,dm,<-this];rfl
   have eM:v.cells[q%sz]?=some x.val:=by simpa using hv
   rw[hsz];simp only[madeCells,Array.getElem?_map];rw[Array.getElem?_range,aA AO];simp[hvs,getElem!_def,eM]
  ·simp[execOp,ho,<-e2,<-g2,C.val,hr]
  ·rw[List.map_replicate,l1];exact k3
 ·exact hK.elim
def ajU(h:St c G zl s a w){d:Nat}{src dst el:TypeId}{x:AV}{x':Operand}(ho:o.op=.convert src dst x')(hs:P.underlying src=some .string)(hu:P.underlying dst=some (.slice el))(he:P.underlying el=some (.int .u8))(hd:o.dst=some d)(hn:d<c.nt)(hx:aR x' x=true)
  (hK:aV P (.bytes d x) s K):jY P c o a w K:=by
 obtain⟨y,e1,e2,e3⟩:=cr h hx;simp only[aV] at hK;split at hK
 ·rename_i t ht;rw[<-e1] at ht;have:=E8 ht;subst this;have hr:=run_bytes_of_string (P:=P) w src dst el t hs hu he;have hge:=grownCap_ge w t.size 0 el;generalize grownCap w t.size 0 el=cap at hr hge;have hL:∀e∈t.data.toList.map (λb:UInt8=>[C.int .u8 (b.toNat:Int)]),e.length=1:=λe he=>by obtain⟨b,_,rfl⟩:=bw.1 he;rfl
  have hfl:∀x∈(t.data.toList.map (λb:UInt8=>[C.int .u8 (b.toNat:Int)])).flatten,∃n,x=C.int .u8 n:=λx hx=>by obtain⟨e,he,hx⟩:=JF.1 hx;obtain⟨b,_,rfl⟩:=bw.1 he;exact⟨_,fF.1 hx⟩
  have hts:t.size=t.data.size:=rfl;have hlen:(t.data.toList.map (λb:UInt8=>[C.int .u8 (b.toNat:Int)])).length=t.size:=by rw[dH,zz];rfl
  have hsz:(bytesRow t cap).size=cap:=by simp[bytesRow];omega
  refine good_row h (L:=t.data.toList.map (λb:UInt8=>[C.int .u8 (b.toNat:Int)])) (cap:=cap) (sz:=1) hL (by rw[hlen];exact hge) (bM.none h.inv λx hx=>?_) (λx hx=>?_) hd hn (Rs w (.cells (bytesRow t cap) el ((bytesRow t cap).size,(bytesRow t cap).size+1))) (AG w.drew (.cells (bytesRow t cap) el ((bytesRow t cap).size,(bytesRow t cap).size+1))) ?_ ?_ ?_ ?_ ?_;·obtain⟨n,rfl⟩:=hfl x hx;exact⟨trivial,λ_ _ hf=>hf⟩
  ·obtain⟨n,rfl⟩:=hfl x hx;trivial
  ·rw[hsz];omega
  ·intro k hk;rw[hsz];omega
  ·intro q x hq;have AO:q<t.data.size:=by have:=(aK.1 hq).1;rw[rR hL,hlen] at this;omega
   have:=Ap hL q 0 (by rw[hlen];omega) (by omega);rw[Nat.mul_one,oa,hq,dm] at this;rw[bytesRow_at t cap q AO];rw[cv (by simpa using AO)] at this;simp at this;rw[this];rfl
  ·rw[hlen];simp[execOp,ho,<-e2,C.val,hr]
  ·rw[cS];exact hK
 ·exact hK.elim
end
end M
namespace M
open Go Go.RowKit
variable [Bs]
def akr{y:C}(hc:y.cell)(h:cZ y.er=true):y.plain:=by cases y<;>first|exact hc|trivial|(simp[C.er,cZ] at h)
def I9:∀{l:List X},iu l=true->∀x∈l,cZ x=true
 |[],_,x,hx=>by cases hx
 |y::l,h,x,hx=>by
  simp only[iu,aC] at h;rcases ck.1 hx with rfl|hx;·exact h.1
  ·exact I9 h.2 x hx
def Tv{w:World}{Z:Md->Nat->Nat->Prop}{x y:C}(hs:x.shape)(hok:x.ok w Z)(h:iu (cellsOf x.er)=true)(hy:y∈x.cells):y.plain:=by refine akr (wN hs hok hy).1 (I9 h _ ?_);rw[<-ud];exact fR hy
section
variable {P:Program}{c:Ctx}{G:Nat->C}{zl:Nat->Nat->Prop}{s:ah}{a:Act}{w:World}{o:Oper}{K:ah->Prop}
def St.zk{x:C}{G1:Nat->C}{s1:ah}(h:St c G zl s a w)(hT:fI w zl c.zb G x G1 s1):St c G1 zl s1 a w:=
 h.move hT.inv hT.val (Ext.refl (λ_ _=>False) w) (λ_ _ hs=>hs.elim) (λt b k hf=>.inl ⟨t,hT.mono t b k hf⟩)
def OB(tk:Tk):∀{l':List Operand} {l:List AV},mg l' l=true->∀{G:Nat->C} {s:ah},St c G zl s a w->
  ∃cs G',cs.map C.er=(takes tk l s).1/\cs.map C.val=l'.map a.eval/\bM w zl c.zb G cs G' (takes tk l s).2/\∀x∈cs,x.shape
 |[],[],_,G,s,h=>⟨[],G,rfl,rfl,bM.nil h.inv,λ_ hx=>(by cases hx)⟩
 |x'::l',x::l,hc,G,s,h=>by
  simp only[mg,aC] at hc;obtain⟨p,p1,p2,p3⟩:=cr h hc.1;obtain⟨y,G1,f1,f2,f3,f4⟩:=qN tk h.inv p3;obtain⟨cs,G',g1,g2,g3,g4⟩:=OB tk hc.2 (h.zk f4);rw[p1] at f1 g1 g3 f4;refine⟨y::cs,G',by simp[takes,f1,g1],by simp[f2,p2,g2],bM.cons f4 g3,λz hz=>?_⟩;rcases ck.1 hz with rfl|hz;·exact I8 f4.rf
  ·exact g4 z hz
 |[],_::_,hc,_,_,_=>by cases hc
 |_::_,[],hc,_,_,_=>by cases hc
def alw(x:X)(s:ah):take .al x s=(x,s):=by cases x<;>rfl
def Vv:∀(l:List AV) (s:ah),takes .al l s=(l.map (ay s),s)
 |[],s=>rfl
 |x::l,s=>by simp only[takes,alw,Vv l s,bE]
def alx(tk:Tk){l':List Operand}{l:List AV}(hc:mg l' l=true)(h:St c G zl s a w)(hs:Ja tk (takes tk l s).1):
  ∃cs G',cs.map C.er=(takes tk l s).1/\cs.map C.val=l'.map a.eval/\bM w zl c.zb G cs G' (takes tk l s).2/\(∀x∈cs,x.shape)/\∀x∈cs,∀y∈x.cells,y.rf G':=by
 have gen:(∀x∈(takes tk l s).1,iu (cellsOf x)=true)->∃cs G',cs.map C.er=(takes tk l s).1/\cs.map C.val=l'.map a.eval/\bM w zl c.zb G cs G' (takes tk l s).2/\(∀x∈cs,x.shape)/\∀x∈cs,∀y∈x.cells,y.rf G':=by intro hs;obtain⟨cs,G',g1,g2,g3,g4⟩:=OB tk hc h;refine⟨cs,G',g1,g2,g3,g4,λx hx y hy=>C.oU (Tv (g4 x hx) (g3.all x hx).1 (hs _ ?_) hy) _⟩;rw[<-g1];exact fR hx
 cases tk with
 |al=>rw[Vv];obtain⟨cs,l1,l2,l3⟩:=Nn h hc;exact⟨cs,G,l1,l2,bM.none h.inv λx hx=>⟨(l3 x hx).ok,(l3 x hx).cY⟩,λx hx=>I8 (l3 x hx).rf,λx hx y hy=>KU (l3 x hx).rf hy⟩
 |mv=>exact gen hs
 |aQ=>exact gen hs
def Ae:Nat->List (Nat×Operand)->List AV->Bool
 |_,[],[]=>true
 |k,(i,x')::l',x::l=>i==k && aR x' x && Ae (k+1) l' l
 |_,_,_=>false
def Q7(a:Act):∀{k:Nat} {l':List (Nat×Operand)} {l:List AV},Ae k l' l=true->mg (l'.map (·.2)) l=true/\l'.length=l.length/\(l'.map λx=>(x.1,a.eval x.2))=(((l'.map (·.2)).map a.eval).zipIdx k).map λx=>(x.2,x.1)
 |k,[],[],_=>⟨rfl,rfl,rfl⟩
 |k,(i,x')::l',x::l,h=>by simp only[Ae,aC,eH] at h;obtain⟨⟨rfl,h1⟩,h2⟩:=h;obtain⟨i1,i2,i3⟩:=Q7 a h2;exact⟨by simp[mg,h1,i1],by simp[i2],by simp[i3,List.zipIdx_cons]⟩
 |k,[],_::_,h=>by cases h
 |k,_::_,[],h=>by cases h
def aj6(h:St c G zl s a w){d sz n:Nat}{tk:Tk}{ty el:TypeId}{i:TypeInfo}{v:Value}{ps:List AV}{ps':Array (Nat×Operand)}(ho:o.op=.buildSlice ty n ps')(hu:P.underlying ty=some (.slice el))(hi:P.info? el=some i)(hz:i.zero=some v)(hsz:i.size=sz)
  (h0:0<sz)(hvs:v.cells.size=sz)(hn':ps'.toList.length=n)(hbig:n*sz<=16777216)(hd:o.dst=some d)(hn:d<c.nt)(hx:Ae 0 ps'.toList ps=true)(hK:aV P (.lit d tk sz ps) s K):jY P c o a w K:=by
 obtain⟨i1,i2,i3⟩:=Q7 a hx;obtain⟨k1,k2⟩:=hK;obtain⟨cs,G',g1,g2,g3,g4⟩:=OB tk i1 h;rw[<-g1] at k1 k2;have hlen:∀x∈cs,x.cells.length=sz:=λx hx=>by have:=(k1 x.er (fR hx)).1;rw[<-ud] at this;simpa using this
 have hcl:cs.length=n:=by have:=dF List.length g2;simp only[dH] at this;omega
 have hL:∀e∈cs.map C.cells,e.length=sz:=λe he=>by obtain⟨x,hx,rfl⟩:=bw.1 he;exact hlen x hx
 have hfl:(cs.map C.cells).flatten=cs.flatMap C.cells:=by rw[List.flatMap_def]
 have hval:∀x∈cs,x.val.cells=(x.cells.map C.val).toArray:=λx hx=>EW (by rw[hlen x hx];exact h0) (g4 x hx);have hvl:∀v∈cs.map C.val,v.cells.size=sz:=λv hv=>by obtain⟨x,hx,rfl⟩:=bw.1 hv;rw[hval x hx];simp[hlen x hx]
 have ahz:((cs.map C.val).flatMap λv=>v.cells.toList)=(cs.flatMap C.cells).map C.val:=by
  rw[List.map_flatMap,List.flatMap_map];clear k1 k2 g1 g2 g3 g4 hcl hL hfl hvl hlen;induction cs with
  |nil=>rfl
  |cons x cs ih=>rw[je,je,ih λy hy=>hval y (cl _ hy),hval x (bH ..)]
 have hparts:(ps'.map λ(i,x)=>(i,a.eval x)).toList=((cs.map C.val).zipIdx 0).map λx=>(x.2,x.1):=by rw[Pg,g2];exact i3
 have hrun:(Instr.buildSlice ty n (ps'.map λ(i,x)=>(i,a.eval x))).run P w=.ok (.slice (some ⟨w.heap.size,0,none⟩) n n) (w.alloc (.cells ((cs.flatMap C.cells).map C.val).toArray el)):=by
  by_cases hz0:n=0
  ·subst hz0;have hc0:cs=[]:=Pw hcl;subst hc0;have hp:ps'= #[]:=by apply pG;exact Pw hn'
   subst hp;simp[Instr.buildSlice,run_underlying hu,Go.sizeOf,typeInfo,hi,newRow,Instr.fill,Array.range_zero']
  ·have hsmall:¬n*i.size>2^24:=by rw[hsz];omega
   have hpos:¬n*i.size=0:=by rw[hsz];have:=Nat.mul_pos (Nat.pos_of_ne_zero hz0) h0;omega
   refine run_buildSlice (P:=P) w ty el n _ _ i v hu hi hz hsmall hpos ?_;rw[hparts,hsz,<-ahz];exact Great.fill_whole h0 _ _ hvl (by simp[hcl])
 refine good_row h (L:=cs.map C.cells) (cap:=n) (sz:=sz) (fz:=(0,0)) (w':=w.alloc (.cells ((cs.flatMap C.cells).map C.val).toArray el)) hL (by simp[hcl]) (by rw[hfl];exact bM.flat g3 g4) (λy hy=>?_) hd hn (J7 w _) (AG w _) ?_ (λk _ hh=>by simp at hh) ?_ ?_ ?_;·rw[hfl] at hy;obtain⟨x,hx,hy⟩:=JE.1 hy;exact Tv (g4 x hx) (g3.all x hx).1 (k1 x.er (fR hx)).2 hy
 ·have:=rR hL;rw[hfl] at this;simp only[dH] at this;simp[this,hcl]
 ·intro q x hq;rw[hfl] at hq;simp[hq]
 ·have:(cs.map C.cells).length=n:=by simp[hcl]
  rw[this];simp only[execOp,ho,Sem.run_bind,hrun,Result.andThen_ok,Sem.run_pure]
 ·rw[cS] at k2⊢;have:cs.map (cellsOf∘C.er)=cs.map ((λe=>e.map C.er)∘C.cells):=cm λx _=>(ud x).symm;rw[<-this];exact k2
def Sa:∀(vs:List Value) (off k:Nat) (cells:Array Value),((vs.zipIdx k).foldl (λcs (x:Value×Nat)=>cs.setIfInBounds (off+x.2) x.1) cells).toList=kE cells.toList (off+k) vs
 |[],off,k,cells=>rfl
 |v::vs,off,k,cells=>by rw[List.zipIdx_cons,qW,Sa vs off (k+1)];rw[Array.toList_setIfInBounds];rfl
def Li{α β:Type}(f:α->β):∀(ys:List α) (l:List α) (o:Nat),(kE l o ys).map f=kE (l.map f) o (ys.map f)
 |[],l,o=>rfl
 |y::ys,l,o=>by simp only[kE,bE];rw[Li f ys,aqf]
def RL{α:Type}:∀(ys:List α) (l:List α) (o:Nat),(kE l o ys).length=l.length
 |[],l,o=>rfl
 |y::ys,l,o=>by simp only[kE];rw[RL ys,JX]
def Lj{α:Type}:∀(ys:List α) (l:List α) (o:Nat),∀x∈kE l o ys,x∈l\/x∈ys
 |[],l,o,x,hx=>.inl hx
 |y::ys,l,o,x,hx=>by
  rcases Lj ys _ _ x hx with hx|hx
  ·rcases Pb hx with hx|rfl;·exact .inl hx
   ·exact .inr (bH ..)
  ·exact .inr (cl _ hx)
def U8{α:Type}{R:α->α->Prop}(sj:∀a b,R a b->R b a){y:α}:∀{l:List α},l.Pairwise R->(∀x∈l,R x y)->∀o,(l.set o y).Pairwise R
 |[],h,hy,o=>by simp
 |x::l,h,hy,0=>by rw[fG] at h;rw[Ee];exact fG.2 ⟨λa ha=>sj _ _ (hy a (cl _ ha)),h.2⟩
 |x::l,h,hy,o+1=>by
  rw[fG] at h;rw[List.set_cons_succ];refine fG.2 ⟨λa ha=>?_,U8 sj h.2 (λz hz=>hy z (cl _ hz)) o⟩;rcases Pb ha with ha|rfl;·exact h.1 a ha
  ·exact hy x (bH ..)
def RM{α:Type}{R:α->α->Prop}(sj:∀a b,R a b->R b a):∀(ys:List α) (l:List α) (o:Nat),l.Pairwise R->ys.Pairwise R->(∀x∈l,∀y∈ys,R x y)->(kE l o ys).Pairwise R
 |[],l,o,h,_,_=>h
 |y::ys,l,o,h,h2,h3=>by
  rw[fG] at h2;refine RM sj ys _ _ (U8 sj h (λx hx=>h3 x hx y (bH ..)) o) h2.2 λx hx z hz=>?_;rcases Pb hx with hx|rfl;·exact h3 x hx z (cl _ hz)
  ·exact h2.1 z hz
def mw:List C->List Nat->List C->List C
 |cs,o::os,y::ys=>mw (kE cs o y.cells) os ys
 |cs,_,_=>cs
def RP:∀(cs:List C) (os:List Nat) (ys:List C),(mw cs os ys).map C.er=wY (cs.map C.er) os (ys.map C.er)
 |cs,[],ys=>by cases ys<;>rfl
 |cs,o::os,[]=>rfl
 |cs,o::os,y::ys=>by simp only[mw,wY,bE];rw[RP,Li,ud]
def RQ:∀(cs:List C) (os:List Nat) (ys:List C),∀x∈mw cs os ys,x∈cs\/x∈ys.flatMap C.cells
 |cs,[],ys,x,hx=>by cases ys<;>exact .inl hx
 |cs,o::os,[],x,hx=>.inl hx
 |cs,o::os,y::ys,x,hx=>by
  rw[je,gO];rcases RQ _ os ys x hx with hx|hx;·exact(Lj _ _ _ x hx).imp id .inl
  ·exact .inr (.inr hx)
def RR{R:C->C->Prop}(sj:∀a b,R a b->R b a):∀(cs:List C) (os:List Nat) (ys:List C),cs.Pairwise R->(ys.flatMap C.cells).Pairwise R->(∀x∈cs,∀y∈ys.flatMap C.cells,R x y)->(mw cs os ys).Pairwise R
 |cs,[],ys,h,_,_=>by cases ys<;>exact h
 |cs,o::os,[],h,_,_=>h
 |cs,o::os,y::ys,h,h2,h3=>by
  rw[je,vQ] at h2;refine RR sj _ os ys (RM sj _ _ _ h h2.1 λx hx z hz=>h3 x hx z (by rw[je];exact O8 _ hz)) h2.2.1 λx hx z hz=>?_;rcases Lj _ _ _ x hx with hx|hx;·exact h3 x hx z (by rw[je];exact O9 _ hz)
  ·exact h2.2.2 x hx z hz
def ue(places:List (Nat×Nat))(len:Nat):List (Nat×Operand)->List ((Nat×Nat)×AV)->Bool
 |[],[]=>true
 |(i,x')::l',((off,size),x)::l=>(match places[i]? with|some q=>q.1==off && q.2==size|none=>false) && decide (0<size) && decide (off+size<=len) && aR x' x && ue places len l' l
 |_,_=>false
def Q3{places:List (Nat×Nat)}{len:Nat}:∀{l':List (Nat×Operand)} {l:List ((Nat×Nat)×AV)},ue places len l' l=true->mg (l'.map (·.2)) (l.map (·.2))=true
 |[],[],_=>rfl
 |(i,x')::l',((off,size),x)::l,h=>by simp only[ue,aC] at h;simp only[bE,mg,h.1.2,Q3 h.2,Bool.and_self]
 |[],_::_,h=>by cases h
 |_::_,[],h=>by cases h
def RN(a:Act){places:List (Nat×Nat)}{len:Nat}:∀{l':List (Nat×Operand)} {l:List ((Nat×Nat)×AV)},ue places len l' l=true->∀(zs cs:List C),zs.length=len->cs.map C.val=(l'.map (·.2)).map a.eval->(∀x∈cs,x.shape)->ze (l.map (·.1.2)) (cs.map C.er)->
  Instr.fill (λi=>places[i]?) (zs.map C.val).toArray (l'.map λx=>(x.1,a.eval x.2))=some ((mw zs (l.map (·.1.1)) cs).map C.val).toArray
 |[],[],_,zs,cs,hz,hv,hs,hsz=>by
  cases cs with
  |nil=>rfl
  |cons x cs=>simp at hv
 |(i,x')::l',((off,size),x)::l,h,zs,cs,hz,hv,hs,hsz=>by
  simp only[ue,aC,bD] at h;obtain⟨⟨⟨⟨h1,h2⟩,h3⟩,h4⟩,h5⟩:=h;cases cs with
  |nil=>simp at hv
  |cons y cs=>
   simp only[bE,vZ] at hv;simp only[bE,ze] at hsz
   have hpl:places[i]?=some (off,size):=by
    cases hp:places[i]? with
    |none=>rw[hp] at h1;cases h1
    |some q=>rw[hp] at h1;simp only[aC,eH] at h1;rw[<-h1.1,<-h1.2]
   have qa:y.cells.length=size:=by have:=hsz.1;rw[<-ud] at this;simpa using this
   have oD:=EW (by rw[qa];exact h2) (hs y (bH ..));simp only[bE];unfold Instr.fill;simp only[hpl,<-hv.1,oD];rw[aE (by simp[qa,hz];exact h3)];have:(((y.cells.map C.val).toArray.zipIdx).foldl (λcs (x:Value×Nat)=>cs.setIfInBounds (off+x.2) x.1) (zs.map C.val).toArray)=((kE zs off y.cells).map C.val).toArray:=by apply pG;rw[<-Array.foldl_toList,Array.toList_zipIdx,Sa,Li];rfl
   have ih:=RN a h5 (kE zs off y.cells) cs (by rw[RL];exact hz) hv.2 (λx hx=>hs x (cl _ hx)) hsz.2;simp only[mw];rw[<-ih,<-this]
 |[],_::_,h,_,_,_,_,_,_=>by cases h
 |_::_,[],h,_,_,_,_,_,_=>by cases h
def ajT(h:St c G zl s a w){d:Nat}{tk:Tk}{ty:TypeId}{i:TypeInfo}{v:Value}{z:List X}{ps:List ((Nat×Nat)×AV)}{ps':Array (Nat×Operand)}{places:List (Nat×Nat)}(ho:o.op=.build ty ps')
  (hb:∀parts cells,Instr.fill (λi=>places[i]?) v.cells parts=some cells->P.built ty parts=some cells)(hc:nj v.cells.toList z=true)(hd:o.dst=some d)(hn:d<c.nt)(hx:ue places z.length ps'.toList ps=true)
  (hK:aV P (.build d tk z ps) s K):jY P c o a w K:=by
 obtain⟨k1,k2,k3⟩:=hK;obtain⟨cs,G',g1,g2,g3,g4,g5⟩:=alx tk (Q3 hx) h k1;obtain⟨l,l1,l2,l3⟩:=Er w zl c.zb hc;rw[<-g1] at k2 k3;have uy:l.length=z.length:=by rw[<-l1];simp
 have SU:=RN a hx l cs uy g2 g4 k2;have hvz:(l.map C.val).toArray=v.cells:=by rw[l2]
 rw[hvz] at SU;have hrun:(Instr.build ty (ps'.map λ(i,x)=>(i,a.eval x))).run P w=.ok (.agg ((mw l (ps.map (·.1.1)) cs).map C.val).toArray) w:=by refine run_build w ty _ _ (hb _ _ ?_);rw[Pg];exact SU
 have hT:=bM.flat g3 g4
 have hall:∀x∈mw l (ps.map (·.1.1)) cs,x.cell/\x.ok w (Zf zl c.zb)/\x.rf G'/\∀b k,x.fp b k->∃y∈cs.flatMap C.cells,y.fp b k:=λx hx=>by
  rcases RQ _ _ _ x hx with hx|hx;·obtain⟨a1,a2,a3⟩:=l3 x hx;exact⟨C.lQ a1,a2,C.oU a1 _,λb k hf=>(a3 b k hf).elim⟩
  ·obtain⟨y,hy,hx'⟩:=JE.1 hx;obtain⟨b1,b2⟩:=wN (g4 y hy) (g3.all y hy).1 hx';exact⟨b1,b2,g5 y hy x hx',λb k hf=>⟨x,hx,hf⟩⟩
 have gZ:(mw l (ps.map (·.1.1)) cs).Pairwise λa b=>∀x k,a.fp x k->¬b.fp x k:=
  RR (λa b hab x k hf hf'=>hab x k hf' hf) _ _ _ (ry λx hx=>(l3 x hx).2.2) hT.apart λx hx y _ b k hf=>((l3 x hx).2.2 b k hf).elim
 obtain⟨G2,h'⟩:=h.fresh hT (Ext.refl _ w) hn (x:=gQ (mw l (ps.map (·.1.1)) cs)) ⟨λj hj=>⟨(hall _ (cT hj _)).1,(hall _ (cT hj _)).2.1⟩,λj hj b k hf j' hj' hne=>yC gZ _ hj hj' hne hf⟩ (λj hj=>(hall _ (cT hj _)).2.2.1) (λb k hf=>by obtain⟨x,hx,hf⟩:=(rq _ _ _).1 hf;exact .inr ((hall x hx).2.2.2 b k hf))
 refine⟨.agg ((mw l (ps.map (·.1.1)) cs).map C.val).toArray,w,?_,Ext.refl _ _,G2,zl,_,k3,?_⟩;·simp only[execOp,ho,Sem.run_bind,hrun,Result.andThen_ok,Sem.run_pure]
 ·rw[hd];rw[wq,RP,l1,zV] at h';exact h'
end
end M
namespace M
open Go Go.RowKit
variable [Bs]
section
variable {P:Program}
def akX{w:World}{g k:Nat}{v u:Value}(hv:v.oneCell'=true)(hc:w.cell? ⟨g,k,none⟩=some u)(hf:w.frozen? ⟨g,k,none⟩=false):(store ⟨g,k,none⟩ v).run P w=.ok () (w.setCell ⟨g,k,none⟩ v):=by rw[run_store P w _ v _ hv,hc];simp[hf]
def fC.hand{d y z:C}{i c g k:Nat}(h:fC d i c y g k)(hz:y.cZ->z.cZ):fC d i c z g k:=by
 cases h with
 |row h hi hc hs=>exact .row h hi hc (hz hs)
 |ptr h hi hc=>exact .ptr h hi hc
def fC.fp{d y:C}{i c g k:Nat}(h:fC d i c y g k):d.fp g k:=by
 cases h with
 |row hd hi hc hs=>subst hd;exact⟨rfl,.inl ⟨_,rfl⟩⟩
 |ptr hd hi hc=>subst hd;exact⟨rfl,.inl ⟨rfl,by omega,by omega⟩⟩
structure PT (w:World) (zl zb:Nat->Nat->Prop) (G:Nat->C) (l:List C):Prop where
 all:∀x∈l,x.cell/\x.ok w (Zf zl zb)/\x.rf G/\(∀t b k,x.fp b k->¬(G t).fp b k)/\∀b k,x.fp b k->¬zl b k/\¬zb b k
 apart:l.Pairwise λa b=>∀x k,a.fp x k->¬b.fp x k
def aiB(r:Nat)(p:Path)(l:List C):X.hO r p (l.map C.er)=(l.map λx=>x.aB (C.bO r p)).map C.er:=by rw[X.xP,cS];exact cm λx _=>(C.oK r p x).symm
def Vk(r:Nat)(p:Path)(i:Nat){zl zb:Nat->Nat->Prop}{g k0:Nat}:∀(n:Nat) (l:List C),l.length=n->∀(c m:Nat) {w:World} {G:Nat->C} {s:ah} {d:C},Inv w zl zb G s->(G r).sub p=some d->
  (∀q x,l[q]?=some x->fC d i (c+q) x g (k0+m+q))->PT w zl zb G l->
  ∃w' G',(storeCells ⟨g,k0,none⟩ (l.map C.val) m).run P w=.ok () w'/\Inv w' zl zb G' (setCells r p i c (l.map C.er) s)/\(∀t,(G' t).val=(G t).val)/\(∀t b k,(G' t).fp b k->(∃x∈l,x.fp b k)\/(G t).fp b k)/\Ext (λb k=>b=g/\k0+m<=k/\k<k0+m+n) w w'
 |0,l,hn,c,m,w,G,s,d,h,hsub,hsp,hh=>by have:l=[]:=Pw hn;subst this;exact⟨w,G,rfl,by simpa [setCells] using h,λ_=>rfl,λt b k hf=>.inr hf,Ext.refl _ _⟩
 |n+1,[],hn,c,m,w,G,s,d,h,hsub,hsp,hh=>by simp at hn
 |n+1,y::l,hn,c,m,w,G,s,d,h,hsub,hsp,hh=>by
  have S3:=hsp 0 y rfl;simp only[oa] at S3;obtain⟨y1,y2,y3,y4,y5⟩:=hh.all y (bH ..);obtain⟨G1,i1,i2,i3,i4,i5,i6,i7,d',i8,i9⟩:=h.store r p i c d y g (k0+m) hsub S3 y2 y1 y3 y4 y5;obtain⟨u,hu⟩:=i5;have hE:=Ext.setCell w g (k0+m) y.val;have gZ:=fG.1 hh.apart;have bu:∀{b k},d.fp b k->(G r).fp b k:=λhf=>C.gM p hsub (h.ok r) hf
  have ahj:∀(f:C->C),(∀x,f x=if oR r p i c s then x.aB (C.bO r (p++[(i,c)])) else x)->PT (w.setCell ⟨g,k0+m,none⟩ y.val) zl zb G1 (l.map f):=by
   intro f pZ
   have cx:∀x b k,(f x).fp b k↔x.fp b k:=λx b k=>by
    rw[pZ];split;·exact C.cR _ x b k
    ·exact ku
   refine⟨λx hx=>?_,?_⟩
   ·obtain⟨x,hx0,rfl⟩:=bw.1 hx;clear hx;have hx:x∈l:=hx0;obtain⟨x1,x2,x3,x4,x5⟩:=hh.all x (cl _ hx)
    have hok:x.ok (w.setCell ⟨g,k0+m,none⟩ y.val) (Zf zl zb):=C.fM hE (λmm b k hz hs=>by
     obtain⟨rfl,rfl⟩:=hs;exact h.zP r mm _ _ hz (bu i4)) _ (λb k hf hs=>by
     obtain⟨rfl,rfl⟩:=hs;exact x4 r _ _ hf (bu i4)) x2
    refine⟨?_,?_,?_,λt b k hf hf'=>?_,λb k hf=>x5 b k ((cx x b k).1 hf)⟩
    ·rw[pZ];split;·exact C.HQ _ _ x1
     ·exact x1
    ·rw[pZ];split;·exact C.mL _ _ hok
     ·exact hok
    ·have:=i7 x x3;rw[pZ];cases hb:oR r p i c s<;>rw[hb] at this<;>exact this
    ·rcases i3 t b k hf' with hy|hg;·exact gZ.1 x hx b k hy ((cx x b k).1 hf)
     ·exact x4 t b k ((cx x b k).1 hf) hg
   ·refine Ec.2 (gZ.2.imp ?_);intro a b hab x k hf hf';exact hab x k ((cx a x k).1 hf) ((cx b x k).1 hf')
  have fin:∀(f:C->C),(∀x,f x=if oR r p i c s then x.aB (C.bO r (p++[(i,c)])) else x)->setCells r p i c ((y::l).map C.er) s=setCells r p i (c+1) ((l.map f).map C.er) (setCell r p i c y.er s)->
    ∃w' G',(storeCells ⟨g,k0,none⟩ ((y::l).map C.val) m).run P w=.ok () w'/\Inv w' zl zb G' (setCells r p i c ((y::l).map C.er) s)/\(∀t,(G' t).val=(G t).val)/\(∀t b k,(G' t).fp b k->(∃x∈y::l,x.fp b k)\/(G t).fp b k)/\Ext (λb k=>b=g/\k0+m<=k/\k<k0+m+(n+1)) w w':=by
   intro f pZ AQ
   have cx:∀x b k,(f x).fp b k↔x.fp b k:=λx b k=>by
    rw[pZ];split;·exact C.cR _ x b k
    ·exact ku
   have hval:(l.map f).map C.val=l.map C.val:=by
    rw[cS];refine cm λx _=>?_;show (f x).val=x.val;rw[pZ];split;·exact C.jw _ x
    ·rfl
   obtain⟨w',G',j1,j2,j3,j4,j5⟩:=Vk r p i n (l.map f) (by simpa using hn) (c+1) (m+1) i1 i8 (λq x hq=>by
    rw[dm] at hq;cases uz:l[q]? with
    |none=>rw[uz] at hq;cases hq
    |some x0=>
     rw[uz] at hq;simp only[cq,dX] at hq;subst hq;have h1:=i9 _ _ _ _ _ (hsp (q+1) x0 (by simpa using uz));rw[show c+1+q=c+(q+1) by omega,show k0+(m+1)+q=k0+m+(q+1) by omega];rw[pZ];split;·exact h1.hand λhs=>by rw[C.yz _ _ hs];exact hs
     ·exact h1) (ahj f pZ)
   refine⟨w',G',?_,by rw[AQ];exact j2,λt=>(j3 t).trans (i2 t),λt b k hf=>?_,?_⟩;·rw[bE,storeCells,Sem.run_bind,ri,akX (Inv.rF y1) hu i6];simp only[Result.andThen_ok];rw[<-hval];exact j1
   ·rcases j4 t b k hf with ⟨x,hx,hf'⟩|hf';·obtain⟨x0,hx0,rfl⟩:=bw.1 hx;exact .inl ⟨x0,cl _ hx0,(cx x0 b k).1 hf'⟩
    ·exact(i3 t b k hf').imp (λhy=>⟨y,bH ..,hy⟩) id
   ·refine(hE.mono (S':=λb k=>b=g/\k0+m<=k/\k<k0+m+(n+1)) (λb k hs _=>⟨hs.1,by omega,by omega⟩)).trans j5 λb k hs hb=>⟨hs.1,by omega,by omega⟩
  cases xb:oR r p i c s with
  |true=>refine fin (λx=>x.aB (C.bO r (p++[(i,c)]))) (λx=>by rw[aA xb]) ?_;simp only[bE];rw[setCells,xb,lY,aiB]
  |false=>refine fin id (λx=>by rw[xb];rfl) ?_;simp only[bE];rw[setCells,xb,qU];simp
end
end M
