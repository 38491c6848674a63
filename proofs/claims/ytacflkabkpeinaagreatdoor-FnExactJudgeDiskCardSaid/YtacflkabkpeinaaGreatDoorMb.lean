/- A machine of values for loaded Go functions, sound for the calculus of calls; part 2; no conditions. -/
import Derived.Test.YtacflkabkpeinaaGreatDoorMa
import Derived.Laws.IdiomCopy
import Derived.Lib.SliceRun
import Derived.Laws.Cover3
set_option linter.unusedSectionVars false
set_option linter.unusedVariables false
set_option linter.unusedSimpArgs false
namespace M
open Go Go.RowKit
variable [Bs]
section
variable {P : Program} {c : Ctx} {G : Nat→C} {zl : Nat→Nat→Prop} {s : ah} {a : Act} {w : World} {o : Oper} {K : ah→Prop}
theorem aen {zb : Nat→Nat→Prop} (h : Inv w zl zb G s) {v : Value} {r : Nat} {p : Path} {i k : Nat} (hr : (C.aA v r p i k).rf G) {l : List C} (hs : storable s r p i k (l.map C.er)) (hl : ∀ x∈l,cA x.er = true→x.cA) :
  ∃ g k0 d,v = .pointer (some ⟨g,k0,none⟩)∧(G r).sub p = some d∧∀ q x,l[q]? = some x→ei d i (k + q) x g (k0 + q):=by
 obtain ⟨d,hd,hp⟩:=hr
 unfold storable look at hs
 rw [← h.er,C.fI,hd] at hs
 simp only [Option.map_some] at hs
 rcases hp with ⟨m,sz,g,o,len,cap,e,rfl,rfl⟩ | ⟨m,g,o,n,f,rfl,rfl,rfl⟩
 ·refine ⟨g,o + i * sz + k,_,rfl,hd,fun q x hq=>?_⟩
  simp only [C.er] at hs
  cases m with
  | own =>
   simp only [C.cD] at hs
   split at hs
   ·rename_i e0 jK
    split at jK
    ·rename_i hi
     injection jK with jK
     obtain ⟨h1,h2⟩:=hs
     have hlen : e0.length = sz:=by rw [← jK]; simp
     have mq:=(List.getElem?_eq_some_iff.1 hq).1
     simp only [List.length_map] at h1
     have:=ei.row (d:=.row .own sz (some (g,o,none)) len cap e) (i:=i) (c:=k + q) (y:=x) rfl hi (by omega) (hl x (List.mem_of_getElem? hq) (EA h2 _ (List.mem_map_of_mem (List.mem_of_getElem? hq))))
     rwa [show o + i * sz + (k + q) = o + i * sz + k + q by omega] at this
    ·cases jK
   ·exact hs.elim
  | sl=>exact hs.elim
  | af=>exact hs.elim
 ·refine ⟨g,o + k,_,rfl,hd,fun q x hq=>?_⟩
  simp only [C.er] at hs
  cases m with
  | own =>
   have mq:=(List.getElem?_eq_some_iff.1 hq).1
   simp only [List.length_map,List.length_range] at hs
   have:=ei.ptr (d:=.ptr .own g o n f) (i:=0) (c:=k + q) (y:=x) rfl rfl (by omega)
   rwa [show o + (k + q) = o + k + q by omega] at this
  | sl=>exact hs.elim
  | af=>exact hs.elim
theorem Py {x : C} (h : cA x.er = true) : x.cA:=by
 cases x <;> first | trivial | (simp [C.er,cA] at h)
theorem ado (h : St c G zl s a w) {sz : Nat} {tk : Tk} {ty : TypeId} {x y : AV} {x' y' : Operand} (ho : o.op = .store ty y' x') (hsz : ∃ i,P.info? ty = some i∧i.size = sz) (h0 : 0 < sz) (hd : o.dst = none) (hx : aK x' x = true) (hy : aK y' y = true)
  (hK : aN P (.store sz tk y x) s K) : Good P c o a w K:=by
 obtain ⟨p,e1,e2,e3⟩:=bQ h hx
 obtain ⟨q,G1,f1,f2,f3,f4⟩:=oo tk h.inv e3
 obtain ⟨k1,k2⟩:=hK
 rw [e1] at f1 f4
 have h1:=h.vw f4
 obtain ⟨u,u1,u2,u3⟩:=bQ h1 hy
 rw [← u1] at k2
 cases u with
 | aA v r pp i k =>
  simp only [C.er] at k2
  obtain ⟨k2,k3⟩:=k2
  rw [← f1,← qI] at k1 k2 k3
  have hsh:=Ez f4.rf
  have hT:=bx.flat (bx.one f4) (fun x hx=>by rw [List.mem_singleton] at hx; subst hx; exact hsh)
  simp only [List.flatMap_cons,List.flatMap_nil,List.append_nil] at hT
  obtain ⟨g,k0,d,hv,hsub,hsp⟩:=aen h1.inv u3.rf k2 (fun x _ hs=>Py hs)
  have hlen : q.cells.length = sz:=by simpa using k1
  obtain ⟨w',G',j1,j2,j3,j4,j5⟩:=PG (P:=P) r pp i (k0:=k0) q.cells.length q.cells rfl k 0 h1.inv hsub (by simpa using hsp) ⟨fun x hx=>⟨(s7 hsh f4.ok hx).1,(s7 hsh f4.ok hx).2,F1 f4.rf hx,(hT.all x hx).2.1,(hT.all x hx).2.2.1⟩,hT.apart⟩
  have hcv:=AW (by omega) hsh
  refine ⟨undef,w',.inr ⟨?_,rfl⟩,G',zl,_,k3,?_⟩
  ·have GL : a.eval y' = .pointer (some ⟨g,k0,none⟩):=by rw [← u2]; exact hv
   obtain ⟨ii,hi,jt⟩:=hsz
   have hxv : a.eval x' = q.val:=by rw [f2,e2]
   simp [execOp,ho,GL,hxv,Instr.storeAt,Instr.sureAddr,storeVar,hcv,Go.sizeOf,typeInfo,hi,jt,hlen,j1]
  ·rw [hd]
   refine h.move j2 (fun t=>(j3 t).trans (f4.val t)) j5 (fun b k' hs=>?_) (fun t b k' hf=>?_)
   ·obtain ⟨rfl,hs1,hs2⟩:=hs
    simp only [Nat.add_zero] at hs1 hs2
    have hlt : k' - k0 < q.cells.length:=by omega
    have:=(hsp (k' - k0) _ (List.getElem?_eq_getElem hlt)).fp
    rw [show k0 + (k' - k0) = k' by omega] at this
    exact h1.tr.dom r _ _ (C.fJ pp hsub (h1.inv.ok r) this)
   ·refine .inl ?_
    rcases j4 t b k' hf with ⟨x,hx,hf⟩ | hf
    ·exact (hT.all x hx).2.2.2 b k' hf
    ·exact ⟨t,f4.mono t b k' hf⟩
 | _=>exact k2.elim
def cx (len z : Nat) (e : Nat→Nat→C) : List (List C):=(List.range len).map fun i=>(List.range z).map fun j=>e i j
theorem rD (len z : Nat) (e : Nat→Nat→C) : ∀ x∈cx len z e,x.length = z:=fun x hx=>by
 obtain ⟨i,_,rfl⟩:=List.mem_map.1 hx
 simp
theorem NT (len z : Nat) (e : Nat→Nat→C) : (cx len z e).map (fun x=>x.map C.er) = cU z len e:=by
 simp only [cx,cU,List.map_map]
 refine List.map_congr_left fun i _=>?_
 show ((List.range z).map fun j=>e i j).map C.er = _
 rw [List.map_map]
 rfl
theorem lz {len z : Nat} {e : Nat→Nat→C} {x : C} (hx : x∈(cx len z e).flatten) : ∃ i j,i < len∧j < z∧x = e i j:=by
 obtain ⟨l,hl,hx⟩:=List.mem_flatten.1 hx
 obtain ⟨i,hi,rfl⟩:=List.mem_map.1 hl
 obtain ⟨j,hj,rfl⟩:=List.mem_map.1 hx
 exact ⟨i,j,by simpa using hi,by simpa using hj,rfl⟩
theorem NS {len z : Nat} {e : Nat→Nat→C} {q : Nat} {x : C} (h0 : 0 < z) (h : (cx len z e).flatten[q]? = some x) : q / z < len∧q % z < z∧x = e (q / z) (q % z):=by
 have hq:=(List.getElem?_eq_some_iff.1 h).1
 rw [oW (rD len z e)] at hq
 have hl : (cx len z e).length = len:=by simp [cx]
 rw [hl] at hq
 have h1 : q % z < z:=Nat.mod_lt _ h0
 have h2 : q / z < len:=Nat.div_lt_of_lt_mul (by rw [Nat.mul_comm]; exact hq)
 have wU : q = q / z * z + q % z:=by have:=Nat.div_add_mod q z; rw [Nat.mul_comm] at this; omega
 have:=wu (rD len z e) (q / z) (q % z) (by rw [hl]; exact h2) h1
 rw [← wU,h] at this
 simp only [cx,C.cD,if_pos h2,Option.bind_some,if_pos h1] at this
 exact ⟨h2,h1,Option.some.inj this⟩
theorem HO {Z : Md→Nat→Nat→Prop} {z len cap : Nat} {A : Option Ad} {e : Nat→Nat→C} (h : (C.row .own z A len cap e).ok w Z) : (cx len z e).flatten.Pairwise fun a b=>∀ x k,a.fp x k→¬ b.fp x k:=by
 obtain ⟨h1,h2,h3,h4,h5⟩:=h
 refine List.pairwise_flatten.2 ⟨fun l hl=>?_,?_⟩
 ·obtain ⟨i,hi,rfl⟩:=List.mem_map.1 hl
  have hi : i < len:=by simpa using hi
  refine List.pairwise_map.2 (List.Pairwise.imp_of_mem (R:=fun a b=>a < b) ?_ List.pairwise_lt_range)
  intro j j' hj hj' hlt b k hf
  exact (h5 i j hi (by simpa using hj) b k hf).2 i j' hi (by simpa using hj') (by simp; omega)
 ·refine List.pairwise_map.2 (List.Pairwise.imp_of_mem (R:=fun a b=>a < b) ?_ List.pairwise_lt_range)
  intro i i' hi hi' hlt x hx y hy b k hf
  obtain ⟨j,hj,rfl⟩:=List.mem_map.1 hx
  obtain ⟨j',hj',rfl⟩:=List.mem_map.1 hy
  exact (h5 i j (by simpa using hi) (by simpa using hj) b k hf).2 i' j' (by simpa using hi') (by simpa using hj') (by simp; omega)
theorem Gt {w1 : World} {z len cap : Nat} {A : Option Ad} {e : Nat→Nat→C} (h0 : 0 < z) (hc : ∀ i j,i < len→j < z→∃ g o,A = some (g,o,none)∧w1.cell? ⟨g,o + i * z + j,none⟩ = some (e i j).val) :
  (Builtin.firstCells z len (.slice (A.map fun q=>⟨q.1,q.2.1,q.2.2⟩) len cap)).run P w1 = .ok ((cx len z e).flatten.map C.val).toArray w1∧(A = none→len = 0):=by
 cases A with
 | none =>
  have hl : len = 0:=by
   rcases Nat.eq_zero_or_pos len with h | h
   ·exact h
   ·obtain ⟨g,o,hA,_⟩:=hc 0 0 h h0; cases hA
  subst hl
  exact ⟨run_firstCells_none w1 z 0 0 cap,fun _=>rfl⟩
 | some q =>
  refine ⟨?_,fun h=>by cases h⟩
  refine run_firstCells_some w1 z len ⟨q.1,q.2.1,q.2.2⟩ len cap _ ?_ fun j v hj=>?_
  ·rw [List.length_map,oW (rD len z e)]; simp [cx]
  ·rw [List.getElem?_map] at hj
   cases hk : (cx len z e).flatten[j]? with
   | none=>rw [hk] at hj; cases hj
   | some x =>
    rw [hk] at hj
    obtain ⟨a1,a2,rfl⟩:=NS h0 hk
    injection hj with hj
    obtain ⟨g,o,hA,hcl⟩:=hc _ _ a1 a2
    injection hA with hA
    subst hA
    have wU : j = j / z * z + j % z:=by have:=Nat.div_add_mod j z; rw [Nat.mul_comm] at this; omega
    rw [oA,← hj,← hcl]
    congr 2
    show o + j = _
    omega
end
end M
namespace M
open Go Go.RowKit
variable [Bs]
section
variable {P : Program}
theorem bx.sub {w : World} {zl zb : Nat→Nat→Prop} {G G1 : Nat→C} {s1 : ah} {l ks : List C} (hT : bx w zl zb G l G1 s1) (hok : ∀ x∈ks,x.ok w (Zf zl zb)) (bV : ∀ x∈ks,∀ b k,x.fp b k→∃ y∈l,y.fp b k)
  (fT : ks.Pairwise fun a b=>∀ x k,a.fp x k→¬ b.fp x k) : bx w zl zb G ks G1 s1 where
 inv:=hT.inv
 all:=fun x hx=>⟨hok x hx,fun t b k hf=>by obtain ⟨y,hy,hf⟩:=bV x hx b k hf; exact (hT.all y hy).2.1 t b k hf,fun b k hf=>by obtain ⟨y,hy,hf⟩:=bV x hx b k hf; exact (hT.all y hy).2.2.1 b k hf,
  fun b k hf=>by obtain ⟨y,hy,hf⟩:=bV x hx b k hf; exact (hT.all y hy).2.2.2 b k hf⟩
 apart:=fT
 val:=hT.val
 mono:=hT.mono
theorem Ext.setCells (b : Nat) : ∀ (vs : List Value) (o : Nat) (w : World),Ext (fun g k=>g = b∧o≤k∧k < o + vs.length) w (w.setCells b o vs)
 | [],o,w=>Ext.refl _ _
 | v :: vs,o,w=>by
  rw [World.setCells]
  refine ((Ext.setCell w b o v).mono (S':=fun g k=>g = b∧o≤k∧k < o + (v :: vs).length) (fun g k hs _=>⟨hs.1,by omega,by simp only [List.length_cons]; omega⟩)).trans (Ext.setCells b vs (o + 1) _) fun g k hs _=>⟨hs.1,by omega,by simp only [List.length_cons]; omega⟩
theorem ad1 {w : World} {t u ty e e' : TypeId} {i : TypeInfo} (ht : P.underlying t = some (.slice e)) (hu : P.underlying u = some (.slice e')) (hi : P.info? e = some i) {A B : Option Addr} {len cap m cap2 : Nat} {news : List Value} (h : len + m≤cap)
  (hx : (Builtin.firstCells i.size m (.slice B m cap2)).run P w = .ok news.toArray w) :
  (Builtin.append_ #[t,u] ty #[.slice A len cap,.slice B m cap2]).run P w = match A with
   | some a=>((storeCells (a.add (len * i.size)) news).run P w).andThen fun _ w'=>.ok (.slice (some a) (len + m) cap) w'
   | none=>.ok (.slice none (len + m) cap) w:=by
 cases A with
 | none=>simp [Builtin.append_,run_underlying ht,run_underlying hu,Go.sizeOf,typeInfo,hi,Builtin.lenOf,h,hx]
 | some a=>simp [Builtin.append_,run_underlying ht,run_underlying hu,Go.sizeOf,typeInfo,hi,Builtin.lenOf,h,hx]
theorem ad0 {w : World} {t u ty e e' : TypeId} {i : TypeInfo} {z : Value} (ht : P.underlying t = some (.slice e)) (hu : P.underlying u = some (.slice e')) (hi : P.info? e = some i) (hz : i.zero = some z) {A B : Option Addr} {len cap m cap2 : Nat} {olds news : List Value} (h : ¬ len + m≤cap)
  (h63 : len + m≤9223372036854775807) (hfit : Builtin.nextslicecap (len + m) cap * i.bytes≤281474976710656)
  (hx : (Builtin.firstCells i.size m (.slice B m cap2)).run P w.drew = .ok news.toArray w.drew) (hy : (Builtin.firstCells i.size len (.slice A len cap)).run P w.drew = .ok olds.toArray w.drew) :
  (Builtin.append_ #[t,u] ty #[.slice A len cap,.slice B m cap2]).run P w = .ok (.slice (some ⟨w.heap.size,0,none⟩) (len + m) (grownCap w (len + m) cap e))
    (w.drew.alloc (.cells (olds.toArray ++ news.toArray ++ Builtin.zeroCells z.cells (grownCap w (len + m) cap e - (len + m))) e)):=by
 have h63' : ¬ (9223372036854775807 < ((len : Int) + (m : Int))):=by omega
 have Z1 : ¬ (281474976710656 < Builtin.nextslicecap (len + m) cap * i.bytes):=by omega
 simp [Builtin.append_,run_underlying ht,run_underlying hu,Go.sizeOf,typeInfo,zeroValue,hi,hz,Builtin.lenOf,h,h63',Z1,Question.forced,hx,hy,newRow,grownCap]
 congr 2
 apply Array.ext'
 simp [List.append_assoc]
variable {c : Ctx} {G : Nat→C} {zl : Nat→Nat→Prop} {s : ah} {a : Act} {w : World} {o : Oper} {K : ah→Prop}
theorem Fh (h : St c G zl s a w) {G1 : Nat→C} {s1 : ah} {l : List C} (hT : bx w zl c.zb G l G1 s1) {d z bytes : Nat} {ty ty' el Ba : TypeId} {i : TypeInfo} {v : Value} {x' y' : Operand}
  (ho : o.op = .call { callee:=.builtin .append,args:=#[x',y'],argTypes:=#[ty,ty'] }) (hu : P.underlying ty = some (.slice el)) (tG : P.underlying ty' = some (.slice Ba)) (hi : P.info? el = some i) (hz : i.zero = some v) (hsz : i.size = z) (hb : i.bytes = bytes) (hb0 : 0 < bytes) (h0 : 0 < z) (hvs : v.cells.size = z)
  (hd : o.dst = some d) (hn : d < c.nt) {A : Option Ad} {len cap : Nat} {e : Nat→Nat→C} (hy1 : C.row .own z A len cap e∈l) (hv1 : a.eval x' = (C.row .own z A len cap e).val)
  {A2 : Option Ad} {m cap2 : Nat} {e2 : Nat→Nat→C} (wY : a.eval y' = .slice (A2.map fun q=>⟨q.1,q.2.1,q.2.2⟩) m cap2) (hc2 : ∀ i j,i < m→j < z→∃ g o,A2 = some (g,o,none)∧w.cell? ⟨g,o + i * z + j,none⟩ = some (e2 i j).val)
  (hk2 : ∀ i j,i < m→j < z→(e2 i j).plain∧(e2 i j).ok w (Zf zl c.zb)∧∀ b k,(e2 i j).fp b k→¬ (C.row .own z A len cap e).fp b k∧∃ y∈l,y.fp b k)
  (hp2 : (cx m z e2).flatten.Pairwise fun a b=>∀ x k,a.fp x k→¬ b.fp x k) (hbig : (len + m) * bytes≤140737488355328) (hpl : ∀ i j,i < len→j < z→(e i j).plain)
  (hK : K (put d (.row .own z (cU z len e ++ cU z m e2)) s1)) : Good P c o a w K:=by
 obtain ⟨y1,y2,y3,y4⟩:=hT.all _ hy1
 have Nx:=y1
 obtain ⟨r1,r2,r3,r4,r5⟩:=y1
 have hk1 : ∀ i j,i < len→j < z→∀ b k,(e i j).fp b k→(C.row .own z A len cap e).fp b k:=fun i j hi hj b k hf=>C.jd (r3 i j hi hj).1 (r3 i j hi hj).2.2.1 hi hj hf
 have hc1 : ∀ i j,i < len→j < z→∃ g o,A = some (g,o,none)∧w.cell? ⟨g,o + i * z + j,none⟩ = some (e i j).val:=fun i j hi hj=>by
  obtain ⟨g,o,q1,q2,_⟩:=r2 i j hi hj; exact ⟨g,o,q1,q2⟩
 have hlen : ∀ x∈cx len z e ++ cx m z e2,x.length = z:=fun x hx=>(List.mem_append.1 hx).elim (rD _ _ _ x) (rD _ _ _ x)
 have MZ : (cx len z e).length = len:=by simp [cx]
 have M0 : (cx m z e2).length = m:=by simp [cx]
 have Bz : (cx len z e ++ cx m z e2).length = len + m:=by rw [List.length_append,MZ,M0]
 have js : (cx len z e ++ cx m z e2).map (fun x=>x.map C.er) = cU z len e ++ cU z m e2:=by rw [List.map_append,NT,NT]
 have hall : ∀ x∈(cx len z e ++ cx m z e2).flatten,x.plain∧x.ok w (Zf zl c.zb)∧∀ b k,x.fp b k→∃ y∈l,y.fp b k:=fun x hx=>by
  rw [List.flatten_append,List.mem_append] at hx
  rcases hx with hx | hx
  ·obtain ⟨i,j,hi,hj,rfl⟩:=lz hx
   exact ⟨hpl i j hi hj,(r3 i j hi hj).2.2.2,fun b k hf=>⟨_,hy1,hk1 i j hi hj b k hf⟩⟩
  ·obtain ⟨i,j,hi,hj,rfl⟩:=lz hx
   obtain ⟨a1,a2,a3⟩:=hk2 i j hi hj
   exact ⟨a1,a2,fun b k hf=>(a3 b k hf).2⟩
 have fT : (cx len z e ++ cx m z e2).flatten.Pairwise fun a b=>∀ x k,a.fp x k→¬ b.fp x k:=by
  rw [List.flatten_append]
  refine List.pairwise_append.2 ⟨HO Nx,hp2,fun x hx y hy b k hf hf'=>?_⟩
  obtain ⟨i,j,hi,hj,rfl⟩:=lz hx
  obtain ⟨i',j',hi',hj',rfl⟩:=lz hy
  exact ((hk2 i' j' hi' hj').2.2 b k hf').1 (hk1 i j hi hj b k hf)
 have iG : bx w zl c.zb G (cx len z e ++ cx m z e2).flatten G1 s1:=hT.sub (fun x hx=>(hall x hx).2.1) (fun x hx=>(hall x hx).2.2) fT
 have hfl : (cx len z e).flatten.length = len * z:=by rw [oW (rD _ _ _),MZ]
 have pg : (cx m z e2).flatten.length = m * z:=by rw [oW (rD _ _ _),M0]
 have ku : ∀ r w',(Builtin.append_ #[ty,ty'] o.type #[(C.row .own z A len cap e).val,.slice (A2.map fun q=>⟨q.1,q.2.1,q.2.2⟩) m cap2]).run P w = .ok r w'→(execOp a.eval o).run P w = .ok (.value r) w':=fun r w' hr=>by
  simp [execOp,ho,resolve,invoke,builtin,hv1,wY,hr]
 have hmul : len + m≤(len + m) * bytes:=Nat.le_mul_of_pos_right _ hb0
 subst hsz
 by_cases hroom : len + m≤cap
 ·have hx:=Gt (P:=P) (cap:=cap2) h0 hc2
  have hr:=ad1 (P:=P) (ty:=o.type) (A:=A.map fun q=>⟨q.1,q.2.1,q.2.2⟩) hu tG hi hroom hx.1
  rcases r4 rfl with ⟨hA,hcap⟩ | ⟨g,o',arr,t,fz,hA,hh,akD,hfr⟩
  ·
   have hm : m = 0:=by omega
   have hl : len = 0:=by omega
   subst hm; subst hl; subst hA; subst hcap
   obtain ⟨G',h'⟩:=h.fresh hT (Ext.refl _ w) hn Nx trivial (fun b k hf=>.inr ⟨_,hy1,hf⟩)
   refine ⟨_,w,.inl (ku _ _ hr),G',zl,_,hK,?_⟩
   rw [hd]
   exact h'
  ·subst hA
   have GO : (len + m) * i.size≤cap * i.size:=Nat.mul_le_mul_right _ hroom
   rw [Nat.add_mul] at GO
   have hst:=run_storeCells_cells (P:=P) g (o' + len * i.size) ((cx m i.size e2).flatten.map C.val) 0 w (fun j hj=>by
     rw [List.length_map,pg] at hj
     rw [cell_of_row _ _ _ _ _ fz hh]
     rw [Array.getElem?_eq_getElem (by omega)]; rfl) (fun j hj=>by
     rw [List.length_map,pg] at hj
     exact hfr _ (by omega) (by omega)) (fun u hu=>by
     obtain ⟨x,hx,rfl⟩:=List.mem_map.1 hu
     obtain ⟨i',j',hi',hj',rfl⟩:=lz hx
     exact Inv.oK (C.jX (hk2 i' j' hi' hj').1))
   simp only [Option.map_some,oA,hst,Nat.add_zero,Result.andThen_ok] at hr
   have hE:=Ext.setCells g ((cx m i.size e2).flatten.map C.val) (o' + len * i.size) w
   rw [List.length_map,pg] at hE
   have hin:=World.cell?_setCells_in g ((cx m i.size e2).flatten.map C.val) (o' + len * i.size) w
   generalize hw' : w.setCells g (o' + len * i.size) ((cx m i.size e2).flatten.map C.val) = w' at hr hE hin
   have hg : g < w.heap.size:=(Array.getElem?_eq_some_iff.1 hh).1
   have tA : ∀ k,(C.row .own i.size (some (g,o',none)) len cap e).fp g k:=fun k=>⟨rfl,.inl ⟨_,rfl⟩⟩
   obtain ⟨eZ,ny,hs'⟩ : ∃ eZ,w'.heap[g]? = some (.cells eZ t fz)∧eZ.size = arr.size:=by
    rcases hE.block g hg with e' | ⟨a1,a2,t',kq,q1,q2,q3,q4⟩
    ·exact ⟨arr,e'.trans hh,rfl⟩
    ·rw [hh] at q1
     injection q1 with q1
     injection q1 with b1 b2 b3
     subst b1; subst b2; subst b3
     exact ⟨a2,q2,q3⟩
   have hok : (rT g o' i.size cap (cx len i.size e ++ cx m i.size e2)).ok w' (Zf zl c.zb):=by
    refine Pb hlen (by rw [Bz]; exact hroom) ny (by omega) (fun k h1 h2=>(hE.frozen hg).trans (hfr k h1 h2)) (fun q x hq=>?_) (fun x hx=>?_) fT (fun x hx b k hf=>?_)
    ·rw [List.flatten_append] at hq
     by_cases hql : q < len * i.size
     ·rw [List.getElem?_append_left (by omega)] at hq
      obtain ⟨a1,a2,rfl⟩:=NS h0 hq
      obtain ⟨g',o2,hA,hcl⟩:=hc1 _ _ a1 a2
      injection hA with hA
      injection hA with b1 b2
      injection b2 with b2
      subst b1; subst b2
      have wU : q = q / i.size * i.size + q % i.size:=by have:=Nat.div_add_mod q i.size; rw [Nat.mul_comm] at this; omega
      refine hE.cell (fun hs=>by omega) ?_
      rw [← hcl]
      congr 2
      omega
     ·rw [List.getElem?_append_right (by omega)] at hq
      rw [hfl] at hq
      have BL:=(List.getElem?_eq_some_iff.1 hq).1
      rw [pg] at BL
      have:=hin (fun j hj=>by
       rw [List.length_map,pg] at hj
       rw [cell_of_row _ _ _ _ _ fz hh,Array.getElem?_eq_getElem (by omega)]; rfl) (q - len * i.size) (by rw [List.length_map,pg]; exact BL)
      rw [show o' + len * i.size + (q - len * i.size) = o' + q by omega] at this
      rw [this,← List.getElem?_eq_getElem,List.getElem?_map,hq]
      rfl
    ·obtain ⟨a1,a2,a3⟩:=hall x hx
     refine ⟨C.jX a1,C.yW a1,hT.fits' hE (fun b k hz hs=>?_) a2 (fun b k hf hs=>?_)⟩
     ·obtain ⟨rfl,_⟩:=hs
      exact hz.elim (y3 b k (tA k)).1 (y3 b k (tA k)).2
     ·obtain ⟨rfl,_⟩:=hs
      rw [List.flatten_append,List.mem_append] at hx
      rcases hx with hx | hx
      ·obtain ⟨i',j',hi',hj',rfl⟩:=lz hx
       exact (r5 i' j' hi' hj' b k hf).1 rfl o' rfl
      ·obtain ⟨i',j',hi',hj',rfl⟩:=lz hx
       exact ((hk2 i' j' hi' hj').2.2 b k hf).1 (tA k)
    ·intro hbg
     subst hbg
     rw [List.flatten_append,List.mem_append] at hx
     rcases hx with hx | hx
     ·obtain ⟨i',j',hi',hj',rfl⟩:=lz hx
      exact (r5 i' j' hi' hj' b k hf).1 rfl o' rfl
     ·obtain ⟨i',j',hi',hj',rfl⟩:=lz hx
      exact ((hk2 i' j' hi' hj').2.2 b k hf).1 (tA k)
   obtain ⟨G',h'⟩:=h.fresh' hT hE (fun b k hs=>.inr ⟨_,hy1,by rw [hs.1]; exact tA k⟩) hn hok trivial (fun b k hf=>by
    rcases Pa hlen hf with rfl | ⟨x,hx,hf⟩
    ·exact .inr ⟨_,hy1,tA k⟩
    ·exact .inr ((hall x hx).2.2 b k hf))
   refine ⟨_,w',.inl (ku _ _ hr),G',zl,_,hK,?_⟩
   rw [hd]
   rw [O9 hlen,js,adQ,Bz] at h'
   exact h'
 ·have hx:=Gt (P:=P) (w1:=w.drew) (cap:=cap2) h0 hc2
  have hy:=Gt (P:=P) (w1:=w.drew) (cap:=cap) h0 hc1
  have hr:=ad0 (P:=P) (ty:=o.type) hu tG hi hz hroom (by omega) (growslice_fits (by omega) (by rw [hb]; exact hbig)) hx.1 hy.1
  have hge:=grownCap_ge w (len + m) cap el
  generalize grownCap w (len + m) cap el = cap' at hr hge
  refine iU.good (good_row h (L:=cx len i.size e ++ cx m i.size e2) (cap:=cap') (fz:=(0,0)) hlen (by rw [Bz]; exact hge) iG (fun x hx=>(hall x hx).1) hd hn (LW w _) (wM w.drew _) ?_ (fun k _ hh=>by simp at hh) (fun q x hq=>?_) (by rw [Bz]; exact ku _ _ hr) (by rw [js]; exact hK))
  ·simp only [Array.size_append,List.size_toArray,List.length_map,hfl,pg,size_zeroCells,hvs]
   rw [← Nat.add_mul,← Nat.add_mul]
   exact Nat.mul_le_mul_right _ (by omega)
  ·rw [List.flatten_append] at hq
   have BL:=(List.getElem?_eq_some_iff.1 hq).1
   have hmap : (((cx len i.size e).flatten ++ (cx m i.size e2).flatten).map C.val)[q]? = some x.val:=by rw [List.getElem?_map,hq]; rfl
   rw [Array.getElem?_append_left (by rw [Array.size_append,List.size_toArray,List.size_toArray,List.length_map,List.length_map,← List.length_append]; exact BL)]
   rw [← hmap,List.map_append]
   simp
end
end M
namespace M
open Go Go.RowKit
variable [Bs]
namespace C
def belows (r : Nat) (p : Path) : Nat→Path→Bool:=fun s q=>s == r && mZ p q
theorem xP (r : Nat) (p : Path) {α : Type} (f : α→X) : ∀ l : List α,X.nN r p (l.map f) = l.map fun a=>(f a).dY r p
 | []=>rfl
 | a :: l=>by simp only [List.map_cons,X.nN,xP r p f l]
theorem tZ (r : Nat) (p : Path) : ∀ c : C,(c.ay (belows r p)).er = c.er.dY r p
 | .ref v s q=>by simp only [ay,er,X.dY,belows]; cases s == r && mZ p q <;> rfl
 | .aA v s q i c=>by simp only [ay,er,X.dY,belows]; cases s == r && mZ p q <;> rfl
 | .cut v s q i c=>by simp only [ay,er,X.dY,belows]; cases s == r && mZ p q <;> rfl
 | .ptr m g o n c=>by simp only [ay,er,X.dY,xP]; congr 1; exact List.map_congr_left fun j _=>tZ r p (c j)
 | .agg n c=>by simp only [ay,er,X.dY,xP]; congr 1; exact List.map_congr_left fun j _=>tZ r p (c j)
 | .au n c=>by simp only [ay,er,X.dY,xP]; congr 1; exact List.map_congr_left fun j _=>tZ r p (c j)
 | .fn f n c=>by simp only [ay,er,X.dY,xP]; congr 1; exact List.map_congr_left fun j _=>tZ r p (c j)
 | .dead _=>by simp only [ay,er,X.dY]
 | .int _ _=>by simp only [ay,er,X.dY]
 | .bool _=>by simp only [ay,er,X.dY]
 | .str _=>by simp only [ay,er,X.dY]
 | .row _ _ _ _ _ _=>by simp only [ay,er,X.dY]
theorem oG (G : Nat→C) : ∀ c : C,c.bare→c.rf G
 | .ref _ _ _,h=>h.elim
 | .aA _ _ _ _ _,h=>h.elim
 | .cut _ _ _ _ _,h=>h.elim
 | .ptr m g o n c,h=>fun j hj=>oG G (c j) (h j hj)
 | .agg n c,h=>fun j hj=>oG G (c j) (h j hj)
 | .au n c,h=>fun j hj=>oG G (c j) (h j hj)
 | .fn f n c,h=>fun j hj=>oG G (c j) (h j hj)
 | .dead _,_=>trivial
 | .int _ _,_=>trivial
 | .bool _,_=>trivial
 | .str _,_=>trivial
 | .row _ _ _ _ _ _,_=>trivial
theorem sR {l : List X} : X.bare.iB l = true↔∀ x∈l,x.bare = true:=by
 induction l with
 | nil=>simp [X.bare.iB]
 | cons a l ih=>simp [X.bare.iB,ih]
theorem ke : ∀ c : C,c.er.bare = true↔c.bare
 | .ref _ _ _=>by simp [er,X.bare,bare]
 | .aA _ _ _ _ _=>by simp [er,X.bare,bare]
 | .cut _ _ _ _ _=>by simp [er,X.bare,bare]
 | .ptr m g o n c=>by
  simp only [er,X.bare,bare,sR,List.mem_map,List.mem_range]
  exact ⟨fun h j hj=>(ke (c j)).1 (h _ ⟨j,hj,rfl⟩),fun h x ⟨j,hj,e⟩=>e ▸ (ke (c j)).2 (h j hj)⟩
 | .agg n c=>by
  simp only [er,X.bare,bare,sR,List.mem_map,List.mem_range]
  exact ⟨fun h j hj=>(ke (c j)).1 (h _ ⟨j,hj,rfl⟩),fun h x ⟨j,hj,e⟩=>e ▸ (ke (c j)).2 (h j hj)⟩
 | .au n c=>by
  simp only [er,X.bare,bare,sR,List.mem_map,List.mem_range]
  exact ⟨fun h j hj=>(ke (c j)).1 (h _ ⟨j,hj,rfl⟩),fun h x ⟨j,hj,e⟩=>e ▸ (ke (c j)).2 (h j hj)⟩
 | .fn f n c=>by
  simp only [er,X.bare,bare,sR,List.mem_map,List.mem_range]
  exact ⟨fun h j hj=>(ke (c j)).1 (h _ ⟨j,hj,rfl⟩),fun h x ⟨j,hj,e⟩=>e ▸ (ke (c j)).2 (h j hj)⟩
 | .dead _=>by simp [er,X.bare,bare]
 | .int _ _=>by simp [er,X.bare,bare]
 | .bool _=>by simp [er,X.bare,bare]
 | .str _=>by simp [er,X.bare,bare]
 | .row _ _ _ _ _ _=>by simp [er,X.bare,bare]
theorem OR : ∀ {p q : Path},X.pfx p q = true→¬ p.length < q.length→q = p
 | [],[],_,_=>rfl
 | [],_ :: _,_,h=>by simp at h
 | _ :: _,[],h,_=>by simp [X.pfx] at h
 | x :: p,y :: q,h,hl=>by
  simp only [X.pfx,Bool.and_eq_true,beq_iff_eq] at h
  obtain ⟨⟨h1,h2⟩,h3⟩:=h
  rw [OR h3 (by simpa using hl)]
  congr 1
  cases x; cases y; simp only at h1 h2; rw [h1,h2]
end C
theorem MI (r : Nat) (p : Path) (t : Nat) : ∀ s : ah,get (pK r p s) t = (get s t).dY r p
 | []=>by simp [pK,get,X.dY]
 | (k,v) :: s=>by
  simp only [pK,get]
  cases k == t
  ·exact MI r p t s
  ·rfl
namespace Inv
variable {w w' : World} {zl aD zb : Nat→Nat→Prop} {G : Nat→C} {s : ah} {S : Nat→Nat→Prop}
theorem dY (h : Inv w zl zb G s) (r : Nat) (p : Path) : Inv w zl zb (fun t=>(G t).ay (C.belows r p)) (pK r p s) :=
 h.off _ fun t=>by rw [C.tZ,MI,h.er]
theorem Fk (h : Inv w zl zb G s) (r : Nat) (p : Path) (hfree : ∀ t,(G t).free (C.belows r p)) {d d' : C} (hsub : (G r).sub p = some d) (hF : C.fu d d') (hl : C.gi d d') (M8 : d'.rf G∧d'.free (C.belows r p)) (hE : Ext S w w')
  (hS : ∀ b k,S b k→d.fp b k∨((∀ t,¬ (G t).fp b k)∧¬ zl b k∧¬ zb b k)) (hok : d'.ok w' (Zf aD zb)) (hz1 : ∀ b k,zl b k→aD b k) (hz2 : ∀ b k,aD b k→¬ d'.fp b k∧b < w'.heap.size∧∀ t,(G t).fp b k→d.fp b k)
  (bV : ∀ b k,d'.fp b k→d.fp b k∨((∀ t,¬ (G t).fp b k)∧¬ zb b k)) :
  Inv w' aD zb (eN G r (C.putAt p (G r) d')) ((r,X.putAt p (get s r) d'.er) :: s)∧(∀ t,(eN G r (C.putAt p (G r) d') t).val = (G t).val) ∧
   ∀ t b k,(eN G r (C.putAt p (G r) d') t).fp b k→d'.fp b k∨((G t).fp b k∧¬ d.fp b k):=by
 have aX : ∀ {b k},d.fp b k→(G r).fp b k:=fun hf=>C.fJ p hsub (h.ok r) hf
 have hZ : ∀ m b k,Zf zl zb m b k→¬ S b k:=fun m b k hz hs=>by
  rcases hS b k hs with hs | hs
  ·exact h.vI r m b k hz (aX hs)
  ·cases m with
   | own=>exact hz.elim
   | sl=>exact hs.2.1 hz
   | af=>exact hz.elim hs.2.1 hs.2.2
 have hM : ∀ m b k,Zf zl zb m b k→Zf aD zb m b k:=fun m b k hz=>by
  cases m with
  | own=>exact hz
  | sl=>exact hz1 b k hz
  | af=>exact hz.imp (hz1 b k) id
 obtain ⟨i1,i2,i3⟩:=C.yR hM hE hZ p (G r) d d' (h.ok r) hsub hok hl (fun b k hs=>(hS b k hs).imp id fun hn=>hn.1 r) (fun b k hf=>(bV b k hf).imp id fun hn=>hn.1 r)
 have hr' : ∀ t,t≠r→∀ b k,(C.putAt p (G r) d').fp b k→¬ (G t).fp b k:=fun t e b k hf=>by
  rcases i2 b k hf with hf | hf
  ·rcases bV b k hf with hf | hf
   ·exact h.sep r t (fun e'=>e e'.symm) b k (aX hf)
   ·exact hf.1 t
  ·exact h.sep r t (fun e'=>e e'.symm) b k hf.1
 have key : ∀ c' : C,c'.free (C.belows r p)→c'.rf G→c'.rf (eN G r (C.putAt p (G r) d')):=fun c' hf hr=>C.jZ (C.belows r p) (fun s' q' y' hk hs=>by
  by_cases e : s' = r
  ·subst e
   rw [cR]
   cases hp : X.pfx p q' with
   | false=>exact C.EE p q' (G s') d' y' hp hs
   | true =>
    have hlen : ¬ p.length < q'.length:=by
     simpa [C.belows,mZ,hp] using hk
    have he:=C.OR hp hlen
    subst he
    rw [hsub] at hs
    injection hs with hs
    subst hs
    exact .inl ⟨d',hF,C.EF _ hsub⟩
  ·rw [cI _ _ e]
   exact C.self y' _ q' hs) c' hf hr
 refine ⟨⟨fun t=>?_,fun t=>?_,fun t u hne b k hf=>?_,fun t b k hf=>?_,fun t=>?_,fun b k hz=>?_⟩,fun t=>?_,fun t b k hf=>?_⟩
 ·rw [tn]
  by_cases e : t = r
  ·subst e; rw [cR,if_pos rfl,C.IP,h.er]
  ·rw [cI _ _ e,if_neg e]; exact h.er t
 ·by_cases e : t = r
  ·subst e; rw [cR]; exact i1
  ·rw [cI _ _ e]
   refine C.fG hM _ (C.eL hE hZ _ (fun b k hf hs=>?_) (h.ok t))
   rcases hS b k hs with hs | hs
   ·exact h.sep t r e b k hf (aX hs)
   ·exact hs.1 t hf
 ·by_cases e : t = r
  ·subst e
   rw [cR] at hf
   rw [cI _ _ (fun e=>hne e.symm)]
   exact hr' u (fun e=>hne e.symm) b k hf
  ·rw [cI _ _ e] at hf
   by_cases e' : u = r
   ·subst e'
    rw [cR]
    exact fun hc=>hr' t e b k hc hf
   ·rw [cI _ _ e']; exact h.sep t u hne b k hf
 ·by_cases e : t = r
  ·subst e
   rw [cR] at hf
   rcases i2 b k hf with hf | ⟨hf,hn⟩
   ·refine ⟨fun hz=>(hz2 b k hz).1 hf,fun hz=>?_⟩
    rcases bV b k hf with hf | hf
    ·exact (h.fz t b k (aX hf)).2 hz
    ·exact hf.2 hz
   ·exact ⟨fun hz=>hn ((hz2 b k hz).2.2 t hf),(h.fz t b k hf).2⟩
  ·rw [cI _ _ e] at hf
   exact ⟨fun hz=>h.sep t r e b k hf (aX ((hz2 b k hz).2.2 t hf)),(h.fz t b k hf).2⟩
 ·by_cases e : t = r
  ·subst e
   rw [cR]
   have inner : ∀ (p' : Path) (c' : C),c'.free (C.belows t p)→c'.rf G→(C.putAt p' c' d').rf (eN G t (C.putAt p (G t) d')):=by
    intro p'
    induction p' with
    | nil=>intro c' _ _; exact key d' M8.2 M8.1
    | cons x p' ih =>
     intro c' hU ia
     simp only [C.putAt]
     cases hst : c'.step x with
     | none=>exact key c' hU ia
     | some z =>
      cases c' with
      | row m sz A len cap e=>trivial
      | ptr m g o n c =>
       simp only [C.step] at hst
       split at hst
       ·rename_i hq
        injection hst with hst
        intro j hj
        simp only [C.bN]
        split
        ·exact ih z (by rw [← hst]; exact hU _ hq.2) (by rw [← hst]; exact ia _ hq.2)
        ·exact key _ (hU j hj) (ia j hj)
       ·cases hst
      | agg n c =>
       simp only [C.step] at hst
       split at hst
       ·rename_i hq
        injection hst with hst
        intro j hj
        simp only [C.bN]
        split
        ·exact ih z (by rw [← hst]; exact hU _ hq.2) (by rw [← hst]; exact ia _ hq.2)
        ·exact key _ (hU j hj) (ia j hj)
       ·cases hst
      | au n c =>
       simp only [C.step] at hst
       split at hst
       ·rename_i hq
        injection hst with hst
        intro j hj
        simp only [C.bN]
        split
        ·exact ih z (by rw [← hst]; exact hU _ hq.2) (by rw [← hst]; exact ia _ hq.2)
        ·exact key _ (hU j hj) (ia j hj)
       ·cases hst
      | _=>simp [C.step] at hst
   exact inner p (G t) (hfree t) (h.rf t)
  ·rw [cI _ _ e]; exact key _ (hfree t) (h.rf t)
 ·exact hz.elim (fun hz=>(hz2 b k hz).2.1) fun hz=>Nat.lt_of_lt_of_le (h.cm b k (.inr hz)) hE.size
 ·by_cases e : t = r
  ·subst e; rw [cR]; exact i3.val
  ·rw [cI _ _ e]
 ·by_cases e : t = r
  ·subst e
   rw [cR] at hf
   exact i2 b k hf
  ·rw [cI _ _ e] at hf; exact .inr ⟨hf,fun hd=>h.sep t r e b k hf (aX hd)⟩
theorem KH (h : Inv w zl zb G s) (hE : Ext S w w') (hS : ∀ b k,S b k→(∀ t,¬ (G t).fp b k)∧¬ zl b k∧¬ zb b k) (hz1 : ∀ b k,zl b k→aD b k) (hz2 : ∀ b k,aD b k→b < w'.heap.size∧∀ t,¬ (G t).fp b k) : Inv w' aD zb G s:=by
 have h1:=h.ext hE (fun t b k hf hs=>(hS b k hs).1 t hf) (fun b k hz hs=>hz.elim (hS b k hs).2.1 (hS b k hs).2.2)
 refine ⟨h1.er,fun t=>C.fG (fun m b k hz=>?_) _ (h1.ok t),h1.sep,fun t b k hf=>⟨fun hz=>(hz2 b k hz).2 t hf,(h1.fz t b k hf).2⟩,h1.rf,fun b k hz=>hz.elim (fun hz=>(hz2 b k hz).1) fun hz=>h1.cm b k (.inr hz)⟩
 cases m with
 | own=>exact hz
 | sl=>exact hz1 b k hz
 | af=>exact hz.imp (hz1 b k) id
end Inv
end M
namespace M
open Go Go.RowKit
variable [Bs]
section
variable {P : Program} {c : Ctx} {G : Nat→C} {zl : Nat→Nat→Prop} {s : ah} {a : Act} {w : World} {o : Oper} {K : ah→Prop}
theorem ac1 (h : St c G zl s a w) {sz : Nat} {z : List X} {ty el : TypeId} {ii : TypeInfo} {v : Value} {x : AV} {x' : Operand} (ho : o.op = .call { callee:=.builtin .clear,args:=#[x'],argTypes:=#[ty] }) (hu : P.underlying ty = some (.slice el)) (hi : P.info? el = some ii) (hz : ii.zero = some v)
  (GO : kX v.cells.toList z = true) (hzs : z.length = sz) (h0 : 0 < sz) (hd : o.dst = none) (hx : aK x' x = true) (hK : aN P (.s9 sz z x) s K) : Good P c o a w K:=by
 obtain ⟨q,q1,q2,q3⟩:=bQ h hx
 simp only [aN] at hK
 rw [← q1] at hK
 cases q with
 | cut vv r p lo hi' =>
  simp only [C.er] at hK
  obtain ⟨m,bF,A,len,cap,e,A',cap',hs,hv,hlo,hhi,hcap,jq,-,-⟩:=q3.rf
  unfold look at hK
  rw [← h.inv.er,C.fI,hs] at hK
  cases m with
  | own =>
   simp only [Option.map_some,C.er] at hK
   obtain ⟨rfl,hK⟩:=hK
   obtain ⟨zs,Z⟩:=Av w zl c.zb GO
   have hzl : zs.length = z.length:=by rw [← Z.er]; simp
   have hvs : v.cells.size = z.length:=by rw [← hzl,← Array.length_toList,← Z.val]; simp
   have hok:=C.gd p hs (h.inv.ok r)
   have hin : ∀ b k,(C.row .own bF A len cap e).fp b k→(G r).fp b k:=fun b k hf=>C.fJ p hs (h.inv.ok r) hf
   obtain ⟨h1,h2,h3,h4,h5⟩:=hok
   let e' : Nat→Nat→C:=fun i j=>if lo≤i∧i < hi' then zs.getD j (.dead undef) else e i j
   have he : ∀ i j,(lo≤i∧i < hi')→e' i j = zs.getD j (.dead undef):=fun i j hh=>if_pos hh
   have hne : ∀ i j,¬ (lo≤i∧i < hi')→e' i j = e i j:=fun i j hh=>if_neg hh
   have xb : ∀ j,j < bF→zs.getD j (.dead undef)∈zs:=fun j hj=>cv (by omega) _
   have ju : ∀ i j,i < len→j < bF→∀ b k,(e i j).fp b k→(C.row .own bF A len cap e).fp b k:=fun i j hi hj b k hf=>⟨rfl,.inr ⟨i,j,hi,hj,hf⟩⟩
   have qS : ∀ b k,(C.row .own bF A len cap e').fp b k→(C.row .own bF A len cap e).fp b k:=fun b k hf=>by
    obtain ⟨_,hA | ⟨i,j,hi2,hj,hf⟩⟩:=hf
    ·exact ⟨rfl,.inl hA⟩
    ·by_cases hh : lo≤i∧i < hi'
     ·rw [he i j hh] at hf; exact ((Z.all _ (xb j hj)).2.2 b k hf).elim
     ·rw [hne i j hh] at hf; exact ju i j hi2 hj b k hf
   have run : ∃ w',(execOp a.eval o).run P w = .ok (.value (.tuple #[])) w'∧Ext (fun b k=>∃ o',A = some (b,o',none)) w w'∧∀ i j,i < len→j < bF→∃ g o',A = some (g,o',none)∧w'.cell? ⟨g,o' + i * bF + j,none⟩ = some (e' i j).val:=by
    have ku : ∀ n' A2 c2 r w',a.eval x' = .slice A2 n' c2→(Builtin.clear_ #[ty] o.type #[.slice A2 n' c2]).run P w = .ok r w'→(execOp a.eval o).run P w = .ok (.value r) w':=by
     intro n' A2 c2 r w' hh hr
     simp [execOp,ho,hh,resolve,invoke,builtin,hr]
    by_cases hn0 : hi' - lo = 0
    ·refine ⟨w,?_,Ext.refl _ _,fun i j kA hj=>?_⟩
     ·have wY : a.eval x' = .slice (Option.map (fun q : Ad=>⟨q.1,q.2.1,q.2.2⟩) A') 0 cap':=by rw [← q2,C.val,hv,hn0]
      refine ku _ _ _ _ _ wY ?_
      cases A' <;> simp [Builtin.clear_,run_underlying hu]
     ·obtain ⟨g,o',b1,b2,_⟩:=h2 i j kA hj
      exact ⟨g,o',b1,by rw [b2,hne i j (by omega)]⟩
    ·obtain ⟨g,o',b1,_,_⟩:=h2 lo 0 (by omega) h0
     have Z4 : A' = some (g,o' + lo * bF,none):=by rw [jq (by omega),b1,Option.map_some,mX]
     have hall : ∀ i j,i < len→j < bF→w.cell? ⟨g,o' + i * bF + j,none⟩ = some (e i j).val:=fun i j kA hj=>by
      obtain ⟨g2,o2,c1,c2,_⟩:=h2 i j kA hj
      rw [b1] at c1
      injection c1 with c1
      injection c1 with c3 c4
      injection c4 with c4
      subst c3; subst c4
      exact c2
     have aav : ∀ k,o'≤k→k < o' + cap * bF→w.frozen? ⟨g,k,none⟩ = false:=by
      rcases h4 rfl with ⟨d1,_⟩ | ⟨g2,o2,arr,t,fz,d1,d2,d3,d4⟩
      ·rw [b1] at d1; cases d1
      ·rw [b1] at d1
       injection d1 with d1
       injection d1 with d5 d6
       injection d6 with d6
       subst d5; subst d6
       exact d4
     let vs : List Value:=(Builtin.zeroCells v.cells (hi' - lo)).toList
     have hvl : vs.length = (hi' - lo) * bF:=by simp [vs,Builtin.zeroCells,hvs,hzs]
     have Nv : ∀ k (hk : k < vs.length),vs[k] = (zs.getD (k % bF) (.dead undef)).val:=by
      intro k hk
      have hm : k % bF < zs.length:=by rw [hzl,hzs]; exact Nat.mod_lt _ h0
      have hm2 : k % bF < v.cells.size:=by omega
      have e1 : vs[k] = v.cells[k % v.cells.size]!:=by simp [vs,Builtin.zeroCells]
      rw [e1,hvs,hzs,getElem!_pos v.cells (k % bF) hm2]
      have:=congrArg (fun t : List Value=>t[k % bF]?) Z.val
      simp only [List.getElem?_map] at this
      rw [List.getElem?_eq_getElem hm] at this
      rw [List.getD_eq_getElem?_getD,List.getElem?_eq_getElem hm]
      simp only [Option.map_some,Array.getElem?_toList,Array.getElem?_eq_getElem hm2,Option.some.injEq] at this
      exact this.symm
     have hidx : ∀ k,k < (hi' - lo) * bF→k / bF < hi' - lo∧k = k / bF * bF + k % bF:=fun k hk=>by
      refine ⟨(Nat.div_lt_iff_lt_mul h0).2 hk,?_⟩
      have:=Nat.div_add_mod k bF
      rw [Nat.mul_comm] at this
      omega
     have Np : ∀ k,k < (hi' - lo) * bF→o' + lo * bF + k = o' + (lo + k / bF) * bF + k % bF:=fun k hk=>by
      have:=(hidx k hk).2
      rw [Nat.add_mul]
      omega
     have hsome : ∀ j,j < vs.length→(w.cell? ⟨g,o' + lo * bF + j,none⟩).isSome = true:=fun j hj=>by
      rw [hvl] at hj
      rw [Np j hj,hall _ _ (by have:=(hidx j hj).1; omega) (Nat.mod_lt _ h0)]
      rfl
     have hst:=run_storeCells_cells (P:=P) g (o' + lo * bF) vs 0 w (by simpa using hsome) (fun j hj=>by
      rw [hvl] at hj
      refine aav _ (by omega) ?_
      rw [Nat.add_zero,Np j hj]
      have h7:=(hidx j hj).1
      have h8 : (lo + j / bF + 1) * bF≤cap * bF:=Nat.mul_le_mul_right _ (by omega)
      have h9:=Nat.mod_lt j h0
      rw [Nat.add_mul,Nat.one_mul] at h8
      omega) (fun u hu=>by
      obtain ⟨k,hk,rfl⟩:=List.getElem_of_mem hu
      rw [Nv k hk]
      exact Inv.oK (C.jX (Z.all _ (xb _ (Nat.mod_lt _ h0))).1))
     have hE:=Ext.setCells g vs (o' + lo * bF) w
     have aac:=World.cell?_setCells_in g vs (o' + lo * bF) w hsome
     simp only [Nat.add_zero] at hst
     refine ⟨w.setCells g (o' + lo * bF) vs,?_,hE.mono fun b k hh _=>⟨o',by rw [b1,hh.1]⟩,fun i j kA hj=>⟨g,o',b1,?_⟩⟩
     ·have wY : a.eval x' = .slice (some ⟨g,o' + lo * bF,none⟩) (hi' - lo) cap':=by rw [← q2,C.val,hv,Z4]; rfl
      refine ku _ _ _ _ _ wY ?_
      obtain ⟨m,hm⟩ : ∃ m,hi' - lo = m + 1:=⟨hi' - lo - 1,by omega⟩
      have hzr : ∀ w,(zeroValue el).run P w = .ok v w:=by intro w; simp [zeroValue,typeInfo,hi,hz]
      simp only [vs,hm] at hst ⊢
      simp [Builtin.clear_,run_underlying hu,hzr,hst]
     ·by_cases hh : lo≤i∧i < hi'
      ·have hk : (i - lo) * bF + j < vs.length:=by
        rw [hvl]
        have : (i - lo + 1) * bF≤(hi' - lo) * bF:=Nat.mul_le_mul_right _ (by omega)
        rw [Nat.add_mul,Nat.one_mul] at this
        omega
       have:=aac _ hk
       rw [Nv _ hk,Nat.mul_add_mod_self_right,Nat.mod_eq_of_lt hj] at this
       have hq : lo * bF + (i - lo) * bF = i * bF:=by rw [← Nat.add_mul]; congr 1; omega
       rw [show o' + lo * bF + ((i - lo) * bF + j) = o' + i * bF + j by omega] at this
       rw [he i j hh]
       exact this
      ·rw [hne i j hh,World.cell?_setCells_out,hall i j kA hj]
       intro _ _
       simp only
       rw [hvl]
       by_cases hl : i < lo
       ·left
        have : (i + 1) * bF≤lo * bF:=Nat.mul_le_mul_right _ (by omega)
        rw [Nat.add_mul,Nat.one_mul] at this
        omega
       ·right
        have t1 : hi' * bF≤i * bF:=Nat.mul_le_mul_right _ (by omega)
        have t2 : lo * bF + (hi' - lo) * bF = hi' * bF:=by rw [← Nat.add_mul]; congr 1; omega
        omega
   obtain ⟨w',hrun,hE,hcell⟩:=run
   have o6 : ∀ b k,(∃ o',A = some (b,o',none))→(C.row .own bF A len cap e).fp b k:=fun b k hh=>⟨rfl,.inl hh⟩
   have M3 : ∀ m b k,Zf zl c.zb m b k→¬ (∃ o',A = some (b,o',none)):=fun m b k hz hh=>h.inv.vI r m b k hz (hin b k (o6 b k hh))
   have GP : (C.row .own bF A len cap e').ok w' (Zf zl c.zb):=by
    refine ⟨h1,fun i j kA hj=>?_,fun i j kA hj=>?_,fun hm=>?_,fun i j kA hj b k hf=>?_⟩
    ·obtain ⟨g,o',c1,c2⟩:=hcell i j kA hj
     exact ⟨g,o',c1,c2,fun hm=>(hm rfl).elim⟩
    ·obtain ⟨a1,a2,a3,a4⟩:=h3 i j kA hj
     by_cases hh : lo≤i∧i < hi'
     ·rw [he i j hh]
      obtain ⟨b1,b2,b3⟩:=Z.all _ (xb j hj)
      exact ⟨C.jX b1,C.yW b1,by cases hq : zs.getD j (.dead undef) <;> first | trivial | exact .inl rfl,C.eL hE M3 _ (fun b k hf=>(b3 b k hf).elim) b2⟩
     ·rw [hne i j hh]
      exact ⟨a1,a2,a3,C.eL hE M3 _ (fun b k hf hS=>by obtain ⟨o',hA⟩:=hS; exact (h5 i j kA hj b k hf).1 rfl o' hA) a4⟩
    ·rcases h4 hm with hh | ⟨g,o',arr,t,fz,d1,d2,d3,d4⟩
     ·exact .inl hh
     ·have hg : g < w.heap.size:=(Array.getElem?_eq_some_iff.1 d2).1
      obtain ⟨eZ,ny,hs'⟩ : ∃ eZ,w'.heap[g]? = some (.cells eZ t fz)∧eZ.size = arr.size:=by
       rcases hE.block g hg with e' | ⟨a1,a2,t',kq,q1,q2,q3,q4⟩
       ·exact ⟨arr,e'.trans d2,rfl⟩
       ·rw [d2] at q1
        injection q1 with q1
        injection q1 with b1 b2 b3
        subst b1; subst b2; subst b3
        exact ⟨a2,q2,q3⟩
      exact .inr ⟨g,o',eZ,t,fz,d1,ny,by omega,fun k k1 k2=>(hE.frozen hg).trans (d4 k k1 k2)⟩
    ·by_cases hh : lo≤i∧i < hi'
     ·rw [he i j hh] at hf; exact ((Z.all _ (xb j hj)).2.2 b k hf).elim
     ·rw [hne i j hh] at hf
      obtain ⟨a1,a2⟩:=h5 i j kA hj b k hf
      refine ⟨a1,fun i' j' hi2 hj2 G6 hf'=>?_⟩
      by_cases ny : lo≤i'∧i' < hi'
      ·rw [he i' j' ny] at hf'; exact (Z.all _ (xb j' hj2)).2.2 b k hf'
      ·rw [hne i' j' ny] at hf'; exact a2 i' j' hi2 hj2 G6 hf'
   have hk0:=h.inv.dY r p
   have hs0 : ((G r).ay (C.belows r p)).sub p = some (C.row .own bF A len cap e):=C.iq _ p _ _ (h.inv.ok r) hs
   obtain ⟨i1,i2,i3⟩:=hk0.Fk r p (fun t=>C.fF _ _) hs0 (C.fu.row .own .own bF A len cap e e') ⟨rfl,fun h=>h,fun h=>h,fun h=>h,fun m h=>h⟩ ⟨trivial,trivial⟩ hE (fun b k hs=>.inl (o6 b k hs)) GP (fun b k hz=>hz)
    (fun b k hz=>⟨fun hf=>(h.inv.fz r b k (hin b k (qS b k hf))).1 hz,Nat.lt_of_lt_of_le (h.inv.cm b k (.inl hz)) hE.size,fun t hf=>by
     rw [C.cu] at hf
     exact ((h.inv.fz t b k hf).1 hz).elim⟩) (fun b k hf=>.inl (qS b k hf))
   have js : (C.row .own bF A len cap e').er = .row .own bF (Bi lo hi' z ((List.range len).map fun i=>(List.range bF).map fun j=>(e i j).er)):=by
    simp only [C.er,Bi]
    congr 1
    apply List.ext_getElem?
    intro i
    rw [List.getElem?_mapIdx,C.cD,C.cD]
    split
    ·simp only [Option.map_some,Option.some.injEq]
     by_cases hh : lo≤i∧i < hi'
     ·rw [if_pos hh,← Z.er,← kI zs (.dead undef) C.er,hzl,hzs]
      exact List.map_congr_left fun j _=>by rw [he i j hh]
     ·rw [if_neg hh]
      exact List.map_congr_left fun j _=>by rw [hne i j hh]
    ·rfl
   rw [js] at i1
   have hst : St c _ zl _ a w':=h.move i1 (fun t=>(i2 t).trans (C.iu _ _)) hE (fun b k hs=>h.tr.dom r b k (hin b k (o6 b k hs))) (fun t b k hf=>by
    rcases i3 t b k hf with hd | ⟨hh,_⟩
    ·exact .inl ⟨r,hin b k (qS b k hd)⟩
    ·rw [C.cu] at hh
     exact .inl ⟨t,hh⟩)
   exact ⟨.tuple #[],w',.inl hrun,_,zl,_,hK,by rw [hd]; exact hst⟩
  | sl=>exact hK.elim
  | af=>exact hK.elim
 | _=>exact hK.elim
end
end M
namespace M
open Go Go.RowKit
variable [Bs]
section
variable {P : Program} {c : Ctx} {G : Nat→C} {zl : Nat→Nat→Prop} {s : ah} {a : Act} {w : World} {o : Oper} {K : ah→Prop}
theorem IK {x : C} (hc : x.cell) (hs : x.cA) : x.plain:=by
 cases x <;> first | exact hc | exact hs.elim | trivial
theorem wo {x : C} {m : Md} {z : Nat} {xs : List (List X)} (h : x.er = .row m z xs) : ∃ A len cap e,x = .row m z A len cap e∧xs = cU z len e:=by
 cases x with
 | row m' z' A len cap e =>
  simp only [C.er] at h
  injection h with h1 h2 h3
  subst h1; subst h2
  exact ⟨A,len,cap,e,rfl,h3.symm⟩
 | _=>simp [C.er] at h
theorem Po {z len : Nat} {e : Nat→Nat→C} (h : scalars (cU z len e)) {i j : Nat} (hi : i < len) (hj : j < z) : scalar (e i j).er = true :=
 h _ (List.mem_map.2 ⟨i,by simpa using hi,rfl⟩) _ (List.mem_map.2 ⟨j,by simpa using hj,rfl⟩)
theorem Pp {x : C} (h : scalar x.er = true) : x.plain∧∀ b k,¬ x.fp b k:=by
 cases x <;> first | exact ⟨trivial,fun _ _ h=>h⟩ | (simp [C.er,scalar] at h)
theorem aez {w : World} {zl zb : Nat→Nat→Prop} {G : Nat→C} {s : ah} (h : Inv w zl zb G s) {v : Value} {r : Nat} {p : Path} {lo hi : Nat} (hr : (C.cut v r p lo hi).rf G) {z : Nat} {xs : List (List X)} (hl : look s r p = some (.row .own z xs)) :
  ∃ A' cap' e2 G',v = .slice (Option.map (fun q : Ad=>⟨q.1,q.2.1,q.2.2⟩) A') (hi - lo) cap'∧((xs.take hi).drop lo) = cU z (hi - lo) e2∧(∀ i j,i < hi - lo→j < z→∃ g o,A' = some (g,o,none)∧w.cell? ⟨g,o + i * z + j,none⟩ = some (e2 i j).val) ∧
   (∀ i j,i < hi - lo→j < z→(e2 i j).plain)∧bx w zl zb G (cx (hi - lo) z e2).flatten G' (gA r p (.row .own z (A7 lo hi xs)) s):=by
 obtain ⟨m,sz,A,len,cap,e,A',cap',hs,hv,hlo,hhi,hcap,jq,-,-⟩:=hr
 unfold look at hl
 rw [← h.er,C.fI,hs] at hl
 simp only [Option.map_some,C.er,Option.some.injEq,X.row.injEq] at hl
 obtain ⟨rfl,rfl,rfl⟩:=hl
 have hok:=C.gd p hs (h.ok r)
 have hin : ∀ b k,(C.row .own sz A len cap e).fp b k→(G r).fp b k:=fun b k hf=>C.fJ p hs (h.ok r) hf
 obtain ⟨h1,h2,h3,h4,h5⟩:=hok
 let e' : Nat→Nat→C:=fun i j=>if lo≤i∧i < hi then .dead (e i j).val else e i j
 have he : ∀ i j,(lo≤i∧i < hi)→e' i j = .dead (e i j).val:=fun i j hh=>if_pos hh
 have hne : ∀ i j,¬ (lo≤i∧i < hi)→e' i j = e i j:=fun i j hh=>if_neg hh
 have ju : ∀ i j,i < len→j < sz→∀ b k,(e i j).fp b k→(C.row .own sz A len cap e).fp b k:=fun i j hi hj b k hf=>⟨rfl,.inr ⟨i,j,hi,hj,hf⟩⟩
 have qS : ∀ b k,(C.row .own sz A len cap e').fp b k→(C.row .own sz A len cap e).fp b k:=fun b k hf=>by
  obtain ⟨_,hA | ⟨i,j,hi',hj,hf⟩⟩:=hf
  ·exact ⟨rfl,.inl hA⟩
  ·by_cases hh : lo≤i∧i < hi
   ·rw [he i j hh] at hf; exact hf.elim
   ·rw [hne i j hh] at hf; exact ju i j hi' hj b k hf
 have GP : (C.row .own sz A len cap e').ok w (Zf zl zb):=by
  refine ⟨h1,fun i j hi' hj=>?_,fun i j hi' hj=>?_,h4,fun i j hi' hj b k hf=>?_⟩
  ·obtain ⟨g,o,a1,a2,a3⟩:=h2 i j hi' hj
   refine ⟨g,o,a1,?_,a3⟩
   rw [a2]
   by_cases hh : lo≤i∧i < hi
   ·rw [he i j hh]; rfl
   ·rw [hne i j hh]
  ·obtain ⟨a1,a2,a3,a4⟩:=h3 i j hi' hj
   by_cases hh : lo≤i∧i < hi
   ·rw [he i j hh]; exact ⟨Inv.oK a1,trivial,trivial,trivial⟩
   ·rw [hne i j hh]; exact ⟨a1,a2,a3,a4⟩
  ·by_cases hh : lo≤i∧i < hi
   ·rw [he i j hh] at hf; exact hf.elim
   ·rw [hne i j hh] at hf
    obtain ⟨a1,a2⟩:=h5 i j hi' hj b k hf
    refine ⟨a1,fun i' j' hi2 hj2 G6 hf'=>?_⟩
    by_cases ny : lo≤i'∧i' < hi
    ·rw [he i' j' ny] at hf'; exact hf'
    ·rw [hne i' j' ny] at hf'; exact a2 i' j' hi2 hj2 G6 hf'
 have h0:=h.dY r p
 have hs0 : ((G r).ay (C.belows r p)).sub p = some (C.row .own sz A len cap e):=C.iq _ p _ _ (h.ok r) hs
 obtain ⟨i1,i2,i3⟩:=h0.Fk r p (fun t=>C.fF _ _) hs0 (C.fu.row .own .own sz A len cap e e') ⟨rfl,fun h=>h,fun h=>h,fun h=>h,fun m h=>h⟩ ⟨trivial,trivial⟩ (Ext.refl (fun _ _=>False) w) (fun b k hs=>hs.elim) GP (fun b k hz=>hz)
  (fun b k hz=>⟨fun hf=>(h.fz r b k (hin b k (qS b k hf))).1 hz,h.cm b k (.inl hz),fun t hf=>by
   rw [C.cu] at hf
   exact ((h.fz t b k hf).1 hz).elim⟩) (fun b k hf=>.inl (qS b k hf))
 have js : (C.row .own sz A len cap e').er = .row .own sz (A7 lo hi ((List.range len).map fun i=>(List.range sz).map fun j=>(e i j).er)):=by
  simp only [C.er,A7]
  congr 1
  apply List.ext_getElem?
  intro i
  rw [List.getElem?_mapIdx,C.cD,C.cD]
  split
  ·simp only [Option.map_some,Option.some.injEq]
   by_cases hh : lo≤i∧i < hi
   ·rw [if_pos hh,List.map_map]
    exact List.map_congr_left fun j _=>by rw [he i j hh]; rfl
   ·rw [if_neg hh]
    exact List.map_congr_left fun j _=>by rw [hne i j hh]
  ·rfl
 rw [js] at i1
 have hmem : ∀ x∈(cx (hi - lo) sz fun i j=>e (i + lo) j).flatten,∃ i j,i < hi - lo∧j < sz∧x = e (i + lo) j:=fun x hx=>by
  obtain ⟨i,j,hi',hj,rfl⟩:=lz hx
  exact ⟨i,j,hi',hj,rfl⟩
 have hlt : hi - lo≠0→A' = A.map fun q=>iA (lo * sz) q:=fun hne=>jq (by omega)
 have hrow : (((List.range len).map fun i=>(List.range sz).map fun j=>(e i j).er).take hi).drop lo = cU sz (hi - lo) fun i j=>e (i + lo) j:=by
  unfold cU
  rw [← List.map_take,← List.map_drop,List.take_range,Nat.min_eq_left hhi]
  apply List.ext_getElem?
  intro i
  rw [C.cD,List.getElem?_map,List.getElem?_drop]
  by_cases hh : i < hi - lo
  ·rw [if_pos hh,List.getElem?_range (by omega),Nat.add_comm]
   rfl
  ·rw [if_neg hh,List.getElem?_eq_none (by simp; omega)]
   rfl
 have Bx : ∀ i j,i < hi - lo→j < sz→(e (i + lo) j).plain:=fun i j hi' hj=>IK (h3 (i + lo) j (by omega) hj).1 (h3 (i + lo) j (by omega) hj).2.1
 refine ⟨A',cap',fun i j=>e (i + lo) j,_,hv,hrow,fun i j hi' hj=>?_,Bx,⟨i1,fun x hx=>?_,?_,fun t=>(i2 t).trans (C.iu _ _),fun t b k hf=>?_⟩⟩
 ·obtain ⟨g,o,a1,a2,a3⟩:=h2 (i + lo) j (by omega) hj
  refine ⟨g,o + lo * sz,by rw [hlt (by omega),a1,Option.map_some,mX],?_⟩
  rw [show o + lo * sz + i * sz + j = o + (i + lo) * sz + j by rw [Nat.add_mul]; omega]
  exact a2
 ·obtain ⟨i,j,hi',hj,rfl⟩:=hmem x hx
  have hj2 : i + lo < len:=by omega
  refine ⟨(h3 (i + lo) j hj2 hj).2.2.2,fun t b k hf hf'=>?_,fun b k hf=>h.fz r b k (hin b k (ju _ _ hj2 hj b k hf)),fun b k hf=>⟨r,hin b k (ju _ _ hj2 hj b k hf)⟩⟩
  rcases i3 t b k hf' with hd | ⟨_,hn⟩
  ·obtain ⟨_,⟨o,hA⟩ | ⟨i',j',hi2,aay,iI⟩⟩:=hd
   ·exact (h5 _ j hj2 hj b k hf).1 rfl o hA
   ·by_cases hh : lo≤i'∧i' < hi
    ·rw [he i' j' hh] at iI; exact iI
    ·rw [hne i' j' hh] at iI
     refine (h5 _ j hj2 hj b k hf).2 i' j' hi2 aay (fun e=>hh ?_) iI
     injection e with e1 e2
     omega
  ·exact hn (ju _ _ hj2 hj b k hf)
 ·have hsub : (C.row .own sz (A.map fun q=>iA (lo * sz) q) (hi - lo) (cap - lo) fun i j=>e (i + lo) j).ok w (Zf zl zb):=(LV ⟨h1,h2,h3,h4,h5⟩ hlo hhi (by omega) (by omega) (.inr rfl)).1
  exact HO hsub
 ·by_cases ht : t = r
  ·subst ht
   rcases i3 t b k hf with hd | ⟨hh,_⟩
   ·exact hin b k (qS b k hd)
   ·rwa [C.cu] at hh
  ·rw [cI _ _ ht,C.cu] at hf
   exact hf
theorem acQ (h : St c G zl s a w) {d sz bytes : Nat} {tk : Tk} {ty ty' el Ba : TypeId} {i : TypeInfo} {v : Value} {x y : AV} {x' y' : Operand}
  (ho : o.op = .call { callee:=.builtin .append,args:=#[x',y'],argTypes:=#[ty,ty'] }) (hu : P.underlying ty = some (.slice el)) (tG : P.underlying ty' = some (.slice Ba)) (hi : P.info? el = some i) (hz : i.zero = some v) (hsz : i.size = sz) (hb : i.bytes = bytes) (hb0 : 0 < bytes) (h0 : 0 < sz) (hvs : v.cells.size = sz)
  (hd : o.dst = some d) (hn : d < c.nt) (hx : aK x' x = true) (hy : aK y' y = true) (hK : aN P (.app d tk sz bytes x y) s K) : Good P c o a w K:=by
 obtain ⟨p,e1,e2,e3⟩:=bQ h hx
 obtain ⟨y1,G1,f1,f2,f3,f4⟩:=oo .mv h.inv e3
 simp only [aN] at hK
 rw [e1] at f1 f4
 rw [← f1] at hK
 have h1:=h.vw f4
 have Hg:=(f2.trans e2).symm
 cases hE : y1.er with
 | row m z xs =>
  rw [hE] at hK
  cases m with
  | own =>
   obtain ⟨A,len,cap,e,rfl,rfl⟩:=wo hE
   obtain ⟨rfl,hK⟩:=hK
   obtain ⟨q,q1,q2,q3⟩:=bQ h1 hy
   have hk1 : ∀ i j,i < len→j < z→(e i j).plain:=fun i j hi hj=>IK (f4.ok.2.2.1 i j hi hj).1 (f4.ok.2.2.1 i j hi hj).2.1
   have hxl : (cU z len e).length = len:=by simp [cU]
   have other : (∃ ys,rowAt (take .mv (ax s x) s).2 (ax (take .mv (ax s x) s).2 y) = some (z,ys)∧((cU z len e).length + ys.length) * bytes≤140737488355328∧scalars ys∧K (put d (.row .own z (cU z len e ++ ys)) (take .mv (ax s x) s).2))→Good P c o a w K:=by
    rintro ⟨ys,k1,k2,k3,k4⟩
    rw [← q1] at k1
    obtain ⟨A2,m,cap2,e2,rfl,hv⟩:=I4 h1.inv q3 k1
    have nD : (cU z m e2).length = m:=by simp [cU]
    refine Fh h (bx.one f4) ho hu tG hi hz hsz hb hb0 h0 hvs hd hn (List.mem_singleton.2 rfl) Hg (by rw [← q2]; exact hv.val) (fun i j hi hj=>hv.cell i j hi hj) (fun i j hi hj=>?_) (oD fun x hx=>?_) (by rw [hxl,nD] at k2; exact k2) hk1 k4
    ·obtain ⟨s1,s2⟩:=Pp (Po k3 hi hj)
     exact ⟨s1,(hv.kid i j hi hj).2.2,fun b k hf=>(s2 b k hf).elim⟩
    ·obtain ⟨i,j,hi,hj,rfl⟩:=lz hx
     exact (Pp (Po k3 hi hj)).2
   cases tk with
   | al=>exact other hK
   | aO=>exact other hK
   | mv =>
    simp only at hK
    by_cases hcut : ∃ v r p lo hi,q = .cut v r p lo hi
    ·obtain ⟨vv,r,pp,lo,hi',rfl⟩:=hcut
     rw [← q1] at hK
     simp only [C.er,cQ] at hK
     split at hK
     ·rename_i hh
      split at hh
      ·rename_i z2 xs hl
       simp only [X.row.injEq,true_and] at hh
       obtain ⟨rfl,rfl⟩:=hh
       obtain ⟨rfl,k2,k4⟩:=hK
       obtain ⟨A2,cap2,e3,G3,c1,c2,c3,c4,c5⟩:=aez h1.inv q3.rf hl
       rw [c2] at k2 k4
       have nD : (cU z2 (hi' - lo) e3).length = hi' - lo:=by simp [cU]
       simp only [hl] at k4
       refine Fh h (bx.cons f4 c5) ho hu tG hi hz hsz hb hb0 h0 hvs hd hn (List.mem_cons_self ..) Hg (A2:=A2) (m:=hi' - lo) (cap2:=cap2) (e2:=e3) (by rw [← q2]; exact c1) c3 (fun i j hi hj=>?_) c5.apart (by rw [hxl,nD] at k2; exact k2) hk1 k4
       have hm : e3 i j∈(cx (hi' - lo) z2 e3).flatten:=List.mem_flatten.2 ⟨_,List.mem_map.2 ⟨i,by simpa using hi,rfl⟩,List.mem_map.2 ⟨j,by simpa using hj,rfl⟩⟩
       refine ⟨c4 i j hi hj,(c5.all _ hm).1,fun b k hf=>⟨fun hf'=>?_,_,List.mem_cons_of_mem _ hm,hf⟩⟩
       obtain ⟨t,ht⟩:=(c5.all _ hm).2.2.2 b k hf
       exact f4.sep t b k hf' ht
      ·cases hh
     ·exact hK.elim
    have hte : cQ q.er (take .mv (ax s x) s).2 = take .mv q.er (take .mv (ax s x) s).2:=by
     cases q with
     | cut v r p lo hi=>exact (hcut ⟨v,r,p,lo,hi,rfl⟩).elim
     | _=>rfl
    rw [← q1,hte,q1] at hK
    obtain ⟨y2,G2,g1,g2,g3,g4⟩:=oo .mv h1.inv q3
    rw [q1] at g1 g4
    rw [← g1] at hK
    cases GJ : y2.er with
    | row m2 z2 xs2 =>
     rw [GJ] at hK
     cases m2 with
     | own =>
      obtain ⟨A2,m,cap2,e2,rfl,rfl⟩:=wo GJ
      obtain ⟨rfl,k2,k4⟩:=hK
      have nD : (cU z2 m e2).length = m:=by simp [cU]
      obtain ⟨r1,r2,r3,r4,r5⟩:=g4.ok
      refine Fh h (bx.cons f4 (bx.one g4)) ho hu tG hi hz hsz hb hb0 h0 hvs hd hn (List.mem_cons_self ..) Hg (A2:=A2) (m:=m) (cap2:=cap2) (e2:=e2) (by rw [← q2,← g2]; rfl) (fun i j hi hj=>?_) (fun i j hi hj=>?_) (HO g4.ok) (by rw [hxl,nD] at k2; exact k2) hk1 k4
      ·obtain ⟨g,o2,a1,a2,_⟩:=r2 i j hi hj; exact ⟨g,o2,a1,a2⟩
      ·obtain ⟨a1,a2,a3,a4⟩:=r3 i j hi hj
       refine ⟨IK a1 a2,a4,fun b k hf=>?_⟩
       have hin : (C.row .own z2 A2 m cap2 e2).fp b k:=C.jd a1 a3 hi hj hf
       refine ⟨fun hf'=>?_,_,List.mem_cons_of_mem _ (List.mem_singleton.2 rfl),hin⟩
       obtain ⟨t,ht⟩:=g4.dom b k hin
       exact f4.sep t b k hf' ht
     | _=>exact hK.elim
    | _=>rw [GJ] at hK; exact hK.elim
  | _=>exact hK.elim
 | _=>rw [hE] at hK; exact hK.elim
end
end M
namespace M
open Go Go.RowKit
variable [Bs]
namespace X
theorem lI (m : Md) {α : Type} (f : α→X) : ∀ l : List α,dz m (l.map f) = l.map fun a=>(f a).md m
 | []=>rfl
 | a :: l=>by simp only [List.map_cons,dz,lI m f l]
theorem Dq (m : Md) {α β : Type} (g : α→List β) (f : α→β→X) : ∀ l : List α,bO m (l.map fun a=>(g a).map (f a)) = l.map fun a=>(g a).map fun b=>(f a b).md m
 | []=>rfl
 | a :: l=>by simp only [List.map_cons,bO,lI,Dq m g f l]
end X
namespace C
def dc : C→C
 | .row _ sz A len cap e=>.row .af sz A len cap fun i j=>(e i j).dc
 | .ptr _ g o n c=>.ptr .af g o n fun j=>(c j).dc
 | .agg n c=>.agg n fun j=>(c j).dc
 | .au n c=>.au n fun j=>(c j).dc
 | .fn f n c=>.fn f n fun j=>(c j).dc
 | .ref v _ _=>.dead v
 | .aA v _ _ _ _=>.dead v
 | .cut v _ _ _ _=>.dead v
 | .dead v=>.dead v
 | .int k n=>.int k n
 | .bool b=>.bool b
 | .str s=>.str s
theorem pW : ∀ c : C,c.dc.er = c.er.md .af
 | .row m sz A len cap e=>by
  simp only [dc,er,X.md]
  rw [X.Dq .af (fun _=>List.range sz) (fun i j=>(e i j).er)]
  congr 1
  exact List.map_congr_left fun i _=>List.map_congr_left fun j _=>pW (e i j)
 | .ptr m g o n c=>by simp only [dc,er,X.md,X.lI]; congr 1; exact List.map_congr_left fun j _=>pW (c j)
 | .agg n c=>by simp only [dc,er,X.md,X.lI]; congr 1; exact List.map_congr_left fun j _=>pW (c j)
 | .au n c=>by simp only [dc,er,X.md,X.lI]; congr 1; exact List.map_congr_left fun j _=>pW (c j)
 | .fn f n c=>by simp only [dc,er,X.md,X.lI]; congr 1; exact List.map_congr_left fun j _=>pW (c j)
 | .ref _ _ _=>by simp only [dc,er,X.md]
 | .aA _ _ _ _ _=>by simp only [dc,er,X.md]
 | .cut _ _ _ _ _=>by simp only [dc,er,X.md]
 | .dead _=>by simp only [dc,er,X.md]
 | .int _ _=>by simp only [dc,er,X.md]
 | .bool _=>by simp only [dc,er,X.md]
 | .str _=>by simp only [dc,er,X.md]
theorem rL : ∀ c : C,c.dc.val = c.val
 | .row m sz A len cap e=>rfl
 | .ptr m g o n c=>rfl
 | .agg n c=>by simp only [dc,val]; congr 2; exact List.map_congr_left fun j _=>rL (c j)
 | .au n c=>by simp only [dc,val]; congr 2; exact List.map_congr_left fun j _=>rL (c j)
 | .fn f n c=>by simp only [dc,val]; congr 2; exact List.map_congr_left fun j _=>rL (c j)
 | .ref _ _ _=>rfl
 | .aA _ _ _ _ _=>rfl
 | .cut _ _ _ _ _=>rfl
 | .dead _=>rfl
 | .int _ _=>rfl
 | .bool _=>rfl
 | .str _=>rfl
theorem yI : ∀ c : C,c.dc.bare
 | .row m sz A len cap e=>trivial
 | .ptr m g o n c=>fun j _=>yI (c j)
 | .agg n c=>fun j _=>yI (c j)
 | .au n c=>fun j _=>yI (c j)
 | .fn f n c=>fun j _=>yI (c j)
 | .ref _ _ _=>trivial
 | .aA _ _ _ _ _=>trivial
 | .cut _ _ _ _ _=>trivial
 | .dead _=>trivial
 | .int _ _=>trivial
 | .bool _=>trivial
 | .str _=>trivial
theorem nT : ∀ (c : C) (b k : Nat),¬ c.dc.fp b k
 | .row m sz A len cap e,b,k=>fun h=>by cases h.1
 | .ptr m g o n c,b,k=>fun h=>by cases h.1
 | .agg n c,b,k=>fun ⟨j,_,hf⟩=>nT (c j) b k hf
 | .au n c,b,k=>fun ⟨j,_,hf⟩=>nT (c j) b k hf
 | .fn f n c,b,k=>fun h=>h
 | .ref _ _ _,b,k=>fun h=>h
 | .aA _ _ _ _ _,b,k=>fun h=>h
 | .cut _ _ _ _ _,b,k=>fun h=>h
 | .dead _,b,k=>fun h=>h
 | .int _ _,b,k=>fun h=>h
 | .bool _,b,k=>fun h=>h
 | .str _,b,k=>fun h=>h
theorem Dr {c : C} (h : c.cell) : c.dc.cell:=by
 cases c <;> first | exact h | exact h.elim | trivial
theorem Og {c : C} (h : c.ff) : c.dc.ff:=by
 cases c <;> first | exact h | exact h.elim | trivial
theorem abY {c : C} (h : c.cA) : c.dc.cA:=by
 cases c <;> first | exact h | exact h.elim | trivial
theorem Iw (c : C) : c.dc.fits .af:=by
 cases c <;> first | trivial | exact .inr (.inl rfl)
variable {w : World} {zl zb bu : Nat→Nat→Prop}
theorem uC (hb : ∀ b k,zb b k→bu b k) : ∀ c : C,(∀ b k,c.fp b k→bu b k)→c.ok w (Zf zl zb)→c.dc.ok w (Zf zl bu)
 | .row m sz A len cap e,hf,h=>by
  obtain ⟨h1,h2,h3,h4,h5⟩:=h
  refine ⟨h1,fun i j hi hj=>?_,fun i j hi hj=>?_,fun hm=>by (cases hm),fun i j hi hj b k hh=>(nT _ b k hh).elim⟩
  ·obtain ⟨g,o,hA,hc,hz⟩:=h2 i j hi hj
   refine ⟨g,o,hA,by rw [rL]; exact hc,fun _=>?_⟩
   cases m with
   | own=>exact .inr (hf _ _ ⟨rfl,.inl ⟨o,hA⟩⟩)
   | sl=>exact .inl (hz (by simp))
   | af=>exact (hz (by simp)).imp id (hb _ _)
  ·obtain ⟨a1,a2,a3,a4⟩:=h3 i j hi hj
   exact ⟨Dr a1,abY a2,Iw _,uC hb (e i j) (fun b k hk=>hf b k (jd a1 a3 hi hj hk)) a4⟩
 | .ptr m g o n c,hf,h=>by
  obtain ⟨h1,h2,h3,h4⟩:=h
  refine ⟨fun j hj=>?_,h2,fun j hj=>?_,fun j hj b k hh=>(nT _ b k hh).elim⟩
  ·obtain ⟨a1,a2,a3⟩:=h1 j hj
   refine ⟨by rw [rL]; exact a1,fun _=>?_,fun hm=>by (cases hm)⟩
   cases m with
   | own=>exact .inr (hf _ _ ⟨rfl,.inl ⟨rfl,by omega,by omega⟩⟩)
   | sl=>exact .inl (a2 (by simp))
   | af=>exact (a2 (by simp)).imp id (hb _ _)
  ·obtain ⟨a1,a2,a3⟩:=h3 j hj
   exact ⟨Dr a1,Iw _,uC hb (c j) (fun b k hk=>hf b k (jy a1 a2 hj hk)) a3⟩
 | .agg n c,hf,h=>⟨fun j hj=>⟨Dr (h.1 j hj).1,uC hb (c j) (fun b k hk=>hf b k ⟨j,hj,hk⟩) (h.1 j hj).2⟩,fun j hj b k hh=>(nT _ b k hh).elim⟩
 | .au n c,hf,h=>⟨fun j hj=>⟨Og (h.1 j hj).1,uC hb (c j) (fun b k hk=>hf b k ⟨j,hj,hk⟩) (h.1 j hj).2⟩,fun j hj b k hh=>(nT _ b k hh).elim⟩
 | .fn f n c,hf,h=>fun j hj=>⟨uC hb (c j) (fun b k hk=>((h j hj).2 b k hk).elim) (h j hj).1,fun b k hh=>nT _ b k hh⟩
 | .ref _ _ _,_,_=>trivial
 | .aA _ _ _ _ _,_,_=>trivial
 | .cut _ _ _ _ _,_,_=>trivial
 | .dead _,_,_=>trivial
 | .int _ _,_,_=>trivial
 | .bool _,_,_=>trivial
 | .str _,_,h=>h
end C
structure eY (w : World) (zl zb : Nat→Nat→Prop) (x : C) : Prop where
 ok : x.ok w (Zf zl zb)
 bare : x.bare
 cz : ∀ b k,¬ x.fp b k
section
variable {w : World} {zl zb bu : Nat→Nat→Prop} {G : Nat→C} {s : ah}
theorem Ip (hb : ∀ b k,zb b k→bu b k) {y : C} (hy : y.ok w (Zf zl zb)) (hf : ∀ b k,y.fp b k→bu b k) : eY w zl bu y.dc:=⟨C.uC hb y hf hy,C.yI y,C.nT y⟩
theorem yx (v : Value) : eY w zl bu (.dead v):=⟨trivial,trivial,fun _ _ h=>h⟩
theorem DK (h : Inv w zl zb G s) (hb : ∀ b k,zb b k→bu b k) (hG : ∀ t b k,(G t).fp b k→bu b k) {y : C} (hy : dG w zl zb G y) : ∃ x : C,x.er = jY s y.er∧x.val = y.val∧eY w zl bu x∧(y.cell→x.cell)∧(y.ff→x.ff)∧x.fits .af:=by
 have iw : jY s y.er = y.er.md .af→∃ x : C,x.er = jY s y.er∧x.val = y.val∧eY w zl bu x∧(y.cell→x.cell)∧(y.ff→x.ff)∧x.fits .af:=fun e =>
  ⟨y.dc,by rw [C.pW,e],C.rL y,Ip hb hy.ok fun b k hf=>(hy.cz b k hf).elim,C.Dr,C.Og,C.Iw _⟩
 cases y with
 | ref v r p =>
  obtain ⟨y',z',hs,hF,hv,m,z1,A,len,cap,e,rfl⟩:=hy.rf
  cases hF with
  | row m m' sz' A len cap e e' =>
   refine ⟨(C.row m' z1 A len cap e').dc,?_,by rw [C.rL]; exact hv,Ip hb (C.gd p hs (h.ok r)) fun b k hf=>hG r b k (C.fJ p hs (h.ok r) hf),fun _=>trivial,fun _=>trivial,.inr (.inl rfl)⟩
   rw [C.pW]
   simp only [C.er,jY,look]
   rw [← h.er,C.fI,hs]
   rfl
 | cut v r p lo hi =>
  obtain ⟨m,sz,A,len,cap,e,A',cap',hs,hv,hlo,hhi,hcap,jq,-,-⟩:=hy.rf
  have hok:=C.gd p hs (h.ok r)
  obtain ⟨h1,h2,h3,h4,h5⟩:=(Ip hb hok fun b k hf=>hG r b k (C.fJ p hs (h.ok r) hf)).ok
  refine ⟨.row .af sz A' (hi - lo) cap' fun i j=>(e (i + lo) j).dc,?_,hv.symm,⟨⟨hcap,fun i j hi' hj=>?_,fun i j hi' hj=>h3 (i + lo) j (by omega) hj,fun hm=>by (cases hm),fun i j hi' hj b k hh=>(C.nT _ b k hh).elim⟩,trivial,fun b k hh=>by cases hh.1⟩,fun _=>trivial,fun _=>trivial,.inr (.inl rfl)⟩
  ·simp only [C.er,jY,look]
   rw [← h.er,C.fI,hs]
   simp only [Option.map_some,C.er,X.md]
   rw [← List.map_take,← List.map_drop,List.take_range,Nat.min_eq_left hhi,mJ,List.map_map]
   show _ = X.row .af sz (X.bO .af ((List.range (hi - lo)).map fun i=>(List.range sz).map fun j=>(e (i + lo) j).er))
   rw [X.Dq .af (fun _=>List.range sz) (fun i j=>(e (i + lo) j).er) (List.range (hi - lo))]
   congr 1
   exact List.map_congr_left fun i _=>List.map_congr_left fun j _=>C.pW _
  ·obtain ⟨g,o,q1,q2,q3⟩:=h2 (i + lo) j (by omega) hj
   refine ⟨g,o + lo * sz,by rw [jq (by omega),q1,Option.map_some,mX],?_,fun hm=>?_⟩
   ·rw [show o + lo * sz + i * sz + j = o + (i + lo) * sz + j by rw [Nat.add_mul]; omega]; exact q2
   ·rw [show o + lo * sz + i * sz + j = o + (i + lo) * sz + j by rw [Nat.add_mul]; omega]; exact q3 hm
 | _=>exact iw rfl
theorem abD (h : Inv w zl zb G s) {y : C} (hy : dG w zl zb G y) {cs : List X} (hc : fB s y.er = some cs) : ∃ g k,y.val = .pointer (some ⟨g,k,none⟩)∧∀ j,j < cs.length→zl g (k + j)∨zb g (k + j)∨∃ t,(G t).fp g (k + j):=by
 have zs : ∀ {m : Md} {b k : Nat},m≠.own→Zf zl zb m b k→zl b k∨zb b k∨∃ t,(G t).fp b k:=fun {m b k} hm hz=>by
  cases m with
  | own=>exact (hm rfl).elim
  | sl=>exact .inl hz
  | af=>exact hz.imp id .inl
 cases y with
 | ptr m g o n f =>
  simp only [C.er,fB] at hc
  injection hc with hc
  refine ⟨g,o,rfl,fun j hj=>?_⟩
  have hj : j < n:=by rw [← hc] at hj; simpa using hj
  obtain ⟨h1,h2,h3,h4⟩:=hy.ok
  by_cases hm : m = .own
  ·exact (hy.cz g (o + j) ⟨hm,.inl ⟨rfl,by omega,by omega⟩⟩).elim
  ·exact zs hm ((h1 j hj).2.1 hm)
 | aA v r p i k0 =>
  obtain ⟨z,hz,hp⟩:=hy.rf
  have pG:=C.gd p hz (h.ok r)
  simp only [C.er,fB,look] at hc
  rw [← h.er,C.fI,hz] at hc
  simp only [Option.map_some] at hc
  rcases hp with ⟨m,sz,g,o,len,cap,e,rfl,rfl⟩ | ⟨m,g,o,n,f,rfl,rfl,rfl⟩
  ·simp only [C.er,C.cD] at hc
   by_cases hi : i < len
   ·rw [if_pos hi] at hc
    simp only [Option.map_some,Option.some.injEq] at hc
    refine ⟨g,o + i * sz + k0,rfl,fun j hj=>?_⟩
    have hj : k0 + j < sz:=by
     rw [← hc] at hj
     rw [← List.map_drop,mJ,C.sJ r p i ((List.range (sz - k0)).map (· + k0)) k0 (fun j=>e i j) (by simp)] at hj
     simp at hj
     omega
    by_cases hm : m = .own
    ·subst hm
     exact .inr (.inr ⟨r,C.fJ p hz (h.ok r) ⟨rfl,.inl ⟨o,rfl⟩⟩⟩)
    ·obtain ⟨g',o',hA,hcell,q8⟩:=pG.2.1 i (k0 + j) hi hj
     injection hA with hA
     injection hA with e1 e2
     injection e2 with e2
     subst e1; subst e2
     rw [Nat.add_assoc]
     exact zs hm (q8 hm)
   ·rw [if_neg hi] at hc; cases hc
  ·simp only [C.er,Option.some.injEq] at hc
   refine ⟨g,o + k0,rfl,fun j hj=>?_⟩
   have hj : k0 + j < n:=by
    rw [← hc] at hj
    rw [← List.map_drop,mJ,C.sJ r p 0 ((List.range (n - k0)).map (· + k0)) k0 f (by simp)] at hj
    simp at hj
    omega
   by_cases hm : m = .own
   ·subst hm
    exact .inr (.inr ⟨r,C.fJ p hz (h.ok r) ⟨rfl,.inl ⟨rfl,by omega,by omega⟩⟩⟩)
   ·have:=(pG.1 (k0 + j) hj).2.1 hm
    rw [Nat.add_assoc]
    exact zs hm this
 | _=>simp [C.er,fB] at hc
theorem IY (h : Inv w zl zb G s) (hb : ∀ b k,zb b k→bu b k) (hG : ∀ t b k,(G t).fp b k→bu b k) : ∀ l : List C,(∀ x∈l,dG w zl zb G x∧x.cell)→∃ l' : List C,l'.map C.er = mK s (l.map C.er)∧l'.map C.val = l.map C.val∧∀ x∈l',eY w zl bu x∧x.cell∧x.fits .af
 | [],hl=>⟨[],rfl,rfl,fun _ hx=>(by cases hx)⟩
 | y :: l,hl=>by
  obtain ⟨x,x1,x2,x3,x4,_,x6⟩:=DK h hb hG (hl y (List.mem_cons_self ..)).1
  obtain ⟨l',l1,l2,l3⟩:=IY h hb hG l fun x hx=>hl x (List.mem_cons_of_mem _ hx)
  refine ⟨x :: l',by simp [mK,x1,l1],by simp [x2,l2],fun z hz=>?_⟩
  rcases List.mem_cons.1 hz with rfl | hz
  ·exact ⟨x3,x4 (hl y (List.mem_cons_self ..)).2,x6⟩
  ·exact l3 z hz
theorem O5 (F : List X→List X) (hF : ∀ l : List C,(∀ x∈l,dG w zl zb G x∧x.cell)→∃ l' : List C,l'.map C.er = F (l.map C.er)∧l'.map C.val = l.map C.val∧∀ x∈l',eY w zl bu x∧x.cell∧x.fits .af) (h : Inv w zl zb G s) (hb : ∀ b k,zb b k→bu b k) (hG : ∀ t b k,(G t).fp b k→bu b k) {y : C} (hy : dG w zl zb G y) {cs : List X} (hc : fB s y.er = some cs) (hne : cs≠[]) (n : Nat) (hn : 0 < n) :
  ∃ x : C,x.er = .ptr .af (F (cs.take n))∧x.val = y.val∧eY w zl bu x:=by
 obtain ⟨l,l1,⟨g,k,hv,hcell⟩,l3⟩:=NZ h hy hc
 obtain ⟨g',k',dH,hmem⟩:=abD h hy hc
 rw [hv] at dH
 injection dH with dH; injection dH with dH; injection dH with e1 e2 e3
 subst e1; subst e2
 have qV : l.length = cs.length:=by rw [← l1]; simp
 obtain ⟨l',m1,m2,m3⟩:=hF (l.take n) fun x hx=>l3 x (List.mem_of_mem_take hx)
 have hl' : l'.length = min n l.length:=by
  have:=congrArg List.length m2
  simpa using this
 have hpos : 0 < l.length:=by rw [qV]; exact List.length_pos_iff.2 hne
 refine ⟨.ptr .af g k l'.length fun j=>l'.getD j (.dead undef),?_,hv.symm,⟨⟨fun j hj=>⟨?_,fun _=>?_,fun hm=>by (cases hm)⟩,?_,fun j hj=>⟨(m3 _ (cv hj _)).2.1,(m3 _ (cv hj _)).2.2,(m3 _ (cv hj _)).1.ok⟩,fun j hj b k hh=>((m3 _ (cv hj _)).1.cz b k hh).elim⟩,fun j hj=>(m3 _ (cv hj _)).1.bare,fun b k hh=>by cases hh.1⟩⟩
 ·simp only [C.er,kI]
  rw [m1,List.map_take,l1]
 ·have hj' : j < l.length:=by omega
  have qY : (l'.getD j (.dead undef)).val = (l[j]).val:=by
   have:=congrArg (fun t : List Value=>t[j]?) m2
   simp only [List.getElem?_map,List.getElem?_eq_getElem hj,Option.map_some] at this
   rw [List.getElem?_take_of_lt (by omega),List.getElem?_eq_getElem hj'] at this
   rw [nk (List.getElem?_eq_getElem hj)]
   simpa using this
  rw [qY]
  exact hcell j hj'
 ·rcases hmem j (by omega) with hz | hz | ⟨t,ht⟩
  ·exact .inl hz
  ·exact .inr (hb _ _ hz)
  ·exact .inr (hG t _ _ ht)
 ·have:=hcell 0 hpos
  rcases Nat.lt_or_ge g w.heap.size with hg | hg
  ·exact hg
  ·simp [World.cell?,Array.getElem?_eq_none hg] at this
theorem O6 (h : Inv w zl zb G s) (hb : ∀ b k,zb b k→bu b k) (hG : ∀ t b k,(G t).fp b k→bu b k) {y : C} (hy : dG w zl zb G y) {cs : List X} (hc : fB s y.er = some cs) (hne : cs≠[]) (n : Nat) (hn : 0 < n) :
  ∃ x : C,x.er = .ptr .af (mK s (cs.take n))∧x.val = y.val∧eY w zl bu x:=O5 (mK s) (IY h hb hG) h hb hG hy hc hne n hn
theorem adK (h : Inv w zl zb G s) (hb : ∀ b k,zb b k→bu b k) (hG : ∀ t b k,(G t).fp b k→bu b k) {y : C} (hy : dG w zl zb G y) (kC : y.cell) : ∃ x : C,x.er = fH s y.er∧x.val = y.val∧eY w zl bu x∧x.cell∧x.fits .af:=by
 have iw : fH s y.er = jY s y.er→∃ x : C,x.er = fH s y.er∧x.val = y.val∧eY w zl bu x∧x.cell∧x.fits .af:=fun e=>by
  obtain ⟨x,x1,x2,x3,x4,_,x6⟩:=DK h hb hG hy
  exact ⟨x,by rw [e,x1],x2,x3,x4 kC,x6⟩
 cases y with
 | aA v r p i k =>
  have dead : fH s (C.aA v r p i k).er = .dead→∃ x : C,x.er = fH s (C.aA v r p i k).er∧x.val = (C.aA v r p i k).val∧eY w zl bu x∧x.cell∧x.fits .af:=fun e=>⟨.dead v,e.symm,rfl,yx v,kC,trivial⟩
  cases hc : fB s (.aA r p i k) with
  | none=>exact dead (by simp only [C.er,fH,hc])
  | some cs =>
   cases cs with
   | nil=>exact dead (by simp only [C.er,fH,hc])
   | cons a cs =>
    obtain ⟨x,x1,x2,x3⟩:=O6 h hb hG hy hc (by simp) (a :: cs).length (by simp)
    rw [List.take_length] at x1
    have he : fH s (C.aA v r p i k).er = .ptr .af (mK s (a :: cs)):=by simp only [C.er,fH,hc]
    rw [he]
    refine ⟨x,x1,x2,x3,?_,?_⟩
    ·cases x <;> first | trivial | (simp [C.er] at x1)
    ·cases x with
     | ptr m g o n f=>simp only [C.er,X.ptr.injEq] at x1; exact .inr (.inl x1.1)
     | _=>simp [C.er] at x1
 | _=>exact iw rfl
theorem O4 (h : Inv w zl zb G s) (hb : ∀ b k,zb b k→bu b k) (hG : ∀ t b k,(G t).fp b k→bu b k) : ∀ l : List C,(∀ x∈l,dG w zl zb G x∧x.cell)→∃ l' : List C,l'.map C.er = iQ s (l.map C.er)∧l'.map C.val = l.map C.val∧∀ x∈l',eY w zl bu x∧x.cell∧x.fits .af
 | [],hl=>⟨[],rfl,rfl,fun _ hx=>(by cases hx)⟩
 | y :: l,hl=>by
  obtain ⟨x,x1,x2,x3⟩:=adK h hb hG (hl y (List.mem_cons_self ..)).1 (hl y (List.mem_cons_self ..)).2
  obtain ⟨l',l1,l2,l3⟩:=O4 h hb hG l fun x hx=>hl x (List.mem_cons_of_mem _ hx)
  refine ⟨x :: l',by simp [iQ,x1,l1],by simp [x2,l2],fun z hz=>?_⟩
  rcases List.mem_cons.1 hz with rfl | hz
  ·exact x3
  ·exact l3 z hz
end
end M
namespace M
open Go Go.RowKit
variable [Bs]
section
variable {w : World} {zl zb bu : Nat→Nat→Prop} {G : Nat→C} {s : ah}
theorem IX (h : Inv w zl zb G s) (hb : ∀ b k,zb b k→bu b k) (hG : ∀ t b k,(G t).fp b k→bu b k) : ∀ l : List C,(∀ x∈l,dG w zl zb G x)→∃ l' : List C,l'.map C.er = eM s (l.map C.er)∧l'.map C.val = l.map C.val∧∀ x∈l',eY w zl bu x
 | [],hl=>⟨[],rfl,rfl,fun _ hx=>(by cases hx)⟩
 | y :: l,hl=>by
  obtain ⟨l',l1,l2,l3⟩:=IX h hb hG l fun x hx=>hl x (List.mem_cons_of_mem _ hx)
  have hy:=hl y (List.mem_cons_self ..)
  have done : ∀ x : C,x.val = y.val→eY w zl bu x→(eM s ((y :: l).map C.er)) = x.er :: eM s (l.map C.er)→∃ l' : List C,l'.map C.er = eM s ((y :: l).map C.er)∧l'.map C.val = (y :: l).map C.val∧∀ x∈l',eY w zl bu x:=fun x x1 x2 x3 =>
   ⟨x :: l',by rw [x3,List.map_cons,l1],by simp [x1,l2],fun z hz=>(List.mem_cons.1 hz).elim (fun e=>e ▸ x2) (l3 z)⟩
  have iw : (eM s ((y :: l).map C.er)) = jY s y.er :: eM s (l.map C.er)→∃ l' : List C,l'.map C.er = eM s ((y :: l).map C.er)∧l'.map C.val = (y :: l).map C.val∧∀ x∈l',eY w zl bu x:=fun e=>by
   obtain ⟨x,x1,x2,x3,_⟩:=DK h hb hG hy
   exact done x x2 x3 (by rw [e,x1])
  cases y with
  | aA v r p i k =>
   cases hc : fB s (.aA r p i k) with
   | none=>exact done (.dead v) rfl (yx v) (by simp only [List.map_cons,C.er,eM,hc])
   | some cs =>
    cases cs with
    | nil=>exact done (.dead v) rfl (yx v) (by simp only [List.map_cons,C.er,eM,hc])
    | cons a cs =>
     obtain ⟨x,x1,x2,x3⟩:=O5 (iQ s) (O4 h hb hG) h hb hG hy hc (by simp) (a :: cs).length (by simp)
     refine done x x2 x3 ?_
     rw [x1,List.take_length]
     simp only [List.map_cons,C.er,eM,hc]
  | _=>exact iw rfl
theorem adM (h : Inv w zl zb G s) (hb : ∀ b k,zb b k→bu b k) (hG : ∀ t b k,(G t).fp b k→bu b k) {y : C} (hy : dG w zl zb G y) : ∃ x : C,x.er = res s y.er∧x.val = y.val∧eY w zl bu x:=by
 have iw : res s y.er = jY s y.er→∃ x : C,x.er = res s y.er∧x.val = y.val∧eY w zl bu x:=fun e=>by
  obtain ⟨x,x1,x2,x3,_⟩:=DK h hb hG hy
  exact ⟨x,by rw [x1,e],x2,x3⟩
 cases y with
 | agg n f =>
  obtain ⟨l',l1,l2,l3⟩:=IY h hb hG ((List.range n).map f) fun x hx=>by
   obtain ⟨j,hj,rfl⟩:=List.mem_map.1 hx
   have hj' : j < n:=by simpa using hj
   exact ⟨Kz hy hj',(hy.ok.1 j hj').1⟩
  refine ⟨fL l',?_,?_,⟨⟨fun j hj=>⟨(l3 _ (cv hj _)).2.1,(l3 _ (cv hj _)).1.ok⟩,fun j hj b k hf=>((l3 _ (cv hj _)).1.cz b k hf).elim⟩,fun j hj=>(l3 _ (cv hj _)).1.bare,fun b k hf=>?_⟩⟩
  ·rw [sI,l1,List.map_map]; rfl
  ·rw [vN,l2,List.map_map]; rfl
  ·obtain ⟨x,hx,hf⟩:=(oB _ _ _).1 hf
   exact (l3 x hx).1.cz b k hf
 | fn g n f =>
  obtain ⟨l',l1,l2,l3⟩:=IX h hb hG ((List.range n).map f) fun x hx=>by
   obtain ⟨j,hj,rfl⟩:=List.mem_map.1 hx
   have hj' : j < n:=by simpa using hj
   exact ⟨(hy.ok j hj').1,hy.rf j hj',(hy.ok j hj').2⟩
  refine ⟨.fn g l'.length fun j=>l'.getD j (.dead undef),?_,?_,⟨fun j hj=>⟨(l3 _ (cv hj _)).ok,(l3 _ (cv hj _)).cz⟩,fun j hj=>(l3 _ (cv hj _)).bare,fun b k hf=>hf⟩⟩
  ·show X.fn _ _ = _
   rw [kI l' _ C.er,l1,List.map_map]
   rfl
  ·show Value.func _ _ _ = _
   rw [kI l' _ C.val,l2,List.map_map]
   rfl
 | _=>exact iw rfl
theorem adL (h : Inv w zl zb G s) (hb : ∀ b k,zb b k→bu b k) (hG : ∀ t b k,(G t).fp b k→bu b k) {y : C} (hy : dG w zl zb G y) (n : Nat) (hn : 0 < n) : ∃ x : C,x.er = uT n s y.er∧x.val = y.val∧eY w zl bu x:=by
 cases hc : fB s y.er with
 | none=>exact ⟨.dead y.val,by simp only [uT,hc,C.er],rfl,yx _⟩
 | some cs =>
  cases cs with
  | nil=>exact ⟨.dead y.val,by simp only [uT,hc,C.er],rfl,yx _⟩
  | cons a cs =>
   obtain ⟨x,x1,x2,x3⟩:=O6 h hb hG hy hc (by simp) n hn
   exact ⟨x,by rw [x1]; simp only [uT,hc],x2,x3⟩
end
section
variable {P : Program} {c : Ctx} {G : Nat→C} {zl : Nat→Nat→Prop} {s : ah} {a : Act} {w : World} {o : Oper} {K : ah→Prop}
def fN : List Operand→List (AV×PM)→Bool
 | [],[]=>true
 | x' :: l',(x,m) :: l=>aK x' x && (match m with | .gD n=>decide (0 < n) | .mut _=>(di l).isNone | _=>true) && fN l' l
 | _,_=>false
def MV (a : Act) : List Operand→List (AV×PM)→List C→Prop
 | [],[],[]=>True
 | x' :: l',(_,.mv) :: l,m :: ms=>m.val = a.eval x'∧MV a l' l ms
 | _ :: l',(_,.af) :: l,_ :: ms=>MV a l' l ms
 | _ :: l',(_,.gD _) :: l,_ :: ms=>MV a l' l ms
 | _ :: l',(_,.mut _) :: l,_ :: ms=>MV a l' l ms
 | _,_,_=>False
theorem Du : ∀ {l' : List Operand} {l : List (AV×PM)},fN l' l = true→∀ {G : Nat→C} {s : ah},St c G zl s a w →
  ∃ ms G',ms.map C.er = (bJ l s).1∧MV a l' l ms∧bx w zl c.zb G ms G' (bJ l s).2
 | [],[],_,G,s,h=>⟨[],G,rfl,trivial,bx.nil h.inv⟩
 | x' :: l',(x,pm) :: l,hc,G,s,h=>by
  simp only [fN,Bool.and_eq_true] at hc
  have other : (bJ ((x,pm) :: l) s = (.dead :: (bJ l s).1,(bJ l s).2))→(∀ m ms,MV a l' l ms→MV a (x' :: l') ((x,pm) :: l) (m :: ms))→∃ ms G',ms.map C.er = (bJ ((x,pm) :: l) s).1∧MV a (x' :: l') ((x,pm) :: l) ms∧bx w zl c.zb G ms G' (bJ ((x,pm) :: l) s).2:=fun e hm=>by
   obtain ⟨ms,G',g1,g2,g3⟩:=Du hc.2 h
   rw [e]
   exact ⟨.dead undef :: ms,G',by simp [C.er,g1],hm _ _ g2,bx.cons (ey.self h.inv trivial trivial fun _ _ h=>h) g3⟩
  cases pm with
  | mv =>
   obtain ⟨p,p1,p2,p3⟩:=bQ h hc.1.1
   obtain ⟨y,G1,f1,f2,f3,f4⟩:=oo .mv h.inv p3
   obtain ⟨ms,G',g1,g2,g3⟩:=Du hc.2 (h.vw f4)
   rw [p1] at f1 g1 g3 f4
   exact ⟨y :: ms,G',by simp [bJ,f1,g1],⟨by rw [f2,p2],g2⟩,bx.cons f4 g3⟩
  | af=>exact other rfl fun _ _ h=>h
  | gD n=>exact other rfl fun _ _ h=>h
  | «mut» n=>exact other rfl fun _ _ h=>h
 | [],_ :: _,hc,_,_,_=>by cases hc
 | _ :: _,[],hc,_,_,_=>by cases hc
theorem AJ {G2 : Nat→C} {s2 : ah} {bu : Nat→Nat→Prop} (h : St c G2 zl s2 a w) (hb : ∀ b k,c.zb b k→bu b k) (hG : ∀ t b k,(G2 t).fp b k→bu b k) {y : C} (hy : y.ok w (Zf zl bu)) (BQ : y.bare) : ∀ {l' : List Operand} {l : List (AV×PM)},fN l' l = true→∀ {ms : List C},MV a l' l ms →
  (∀ x∈ms,x.ok w (Zf zl bu)∧x.bare∧∀ b k,x.fp b k→¬ y.fp b k)→(ms.Pairwise fun a b=>∀ x k,a.fp x k→¬ b.fp x k)→(∀ (i : Nat) (x : AV) (n : Nat) (x' : Operand),l[i]? = some (x,PM.mut n)→l'[i]? = some x'→y.val = a.eval x') →
  ∃ cs : List C,cs.map C.er = fy s2 y.er l (ms.map C.er)∧cs.map C.val = l'.map a.eval∧(∀ x∈cs,x.ok w (Zf zl bu)∧x.bare∧∀ b k,x.fp b k→(∃ m∈ms,m.fp b k)∨((di l).isSome = true∧y.fp b k))∧cs.Pairwise fun a b=>∀ x k,a.fp x k→¬ b.fp x k
 | [],[],_,[],_,_,_,_=>⟨[],rfl,rfl,fun _ hx=>(by cases hx),List.Pairwise.nil⟩
 | x' :: l',(x,pm) :: l,hc,[],hm,_,_,_=>by cases pm <;> exact hm.elim
 | x' :: l',(x,pm) :: l,hc,m :: ms,hm,qX,fT,mo=>by
  simp only [fN,Bool.and_eq_true] at hc
  have tE:=List.pairwise_cons.1 fT
  have ih:=fun (hm : MV a l' l ms)=>AJ h hb hG hy BQ hc.2 hm (fun x hx=>qX x (List.mem_cons_of_mem _ hx)) tE.2 (fun i x n x' h1 h2=>mo (i + 1) x n x' (by simpa using h1) (by simpa using h2))
  have NY : ∀ z : C,z.val = a.eval x'→eY w zl bu z→MV a l' l ms→fy s2 y.er ((x,pm) :: l) ((m :: ms).map C.er) = z.er :: fy s2 y.er l (ms.map C.er)→((di l).isSome = true→(di ((x,pm) :: l)).isSome = true)→∃ cs : List C,cs.map C.er = fy s2 y.er ((x,pm) :: l) ((m :: ms).map C.er)∧cs.map C.val = (x' :: l').map a.eval ∧
    (∀ z∈cs,z.ok w (Zf zl bu)∧z.bare∧∀ b k,z.fp b k→(∃ m'∈m :: ms,m'.fp b k)∨((di ((x,pm) :: l)).isSome = true∧y.fp b k))∧cs.Pairwise fun a b=>∀ x k,a.fp x k→¬ b.fp x k:=fun z z1 z2 hm' he hmo=>by
   obtain ⟨cs,c1,c2,c3,c4⟩:=ih hm'
   refine ⟨z :: cs,by rw [he,List.map_cons,c1],by simp [z1,c2],fun u hu=>?_,List.pairwise_cons.2 ⟨fun u _ b k hf=>(z2.cz b k hf).elim,c4⟩⟩
   rcases List.mem_cons.1 hu with rfl | hu
   ·exact ⟨z2.ok,z2.bare,fun b k hf=>(z2.cz b k hf).elim⟩
   ·obtain ⟨u1,u2,u3⟩:=c3 u hu
    exact ⟨u1,u2,fun b k hf=>(u3 b k hf).imp (fun ⟨m',hm',hf⟩=>⟨m',List.mem_cons_of_mem _ hm',hf⟩) fun hh=>⟨hmo hh.1,hh.2⟩⟩
  obtain ⟨p,p1,p2,p3⟩:=bQ h hc.1.1
  cases pm with
  | af =>
   obtain ⟨z,z1,z2,z3⟩:=adM h.inv hb hG p3
   rw [p1] at z1
   exact NY z (by rw [z2,p2]) z3 hm (by simp only [List.map_cons,fy,z1]) fun hh=>hh
  | gD n =>
   obtain ⟨z,z1,z2,z3⟩:=adL h.inv hb hG p3 n (by simpa using hc.1.2)
   rw [p1] at z1
   exact NY z (by rw [z2,p2]) z3 hm (by simp only [List.map_cons,fy,z1]) fun hh=>hh
  | mv =>
   obtain ⟨hv,hm⟩:=hm
   obtain ⟨cs,c1,c2,c3,c4⟩:=ih hm
   obtain ⟨m1,m2,m3⟩:=qX m (List.mem_cons_self ..)
   refine ⟨m :: cs,by simp only [List.map_cons,fy,c1],by simp [hv,c2],fun u hu=>?_,List.pairwise_cons.2 ⟨fun u hu b k hf hf'=>?_,c4⟩⟩
   ·rcases List.mem_cons.1 hu with rfl | hu
    ·exact ⟨m1,m2,fun b k hf=>.inl ⟨u,List.mem_cons_self ..,hf⟩⟩
    ·obtain ⟨u1,u2,u3⟩:=c3 u hu
     exact ⟨u1,u2,fun b k hf=>(u3 b k hf).imp (fun ⟨m',hm',hf⟩=>⟨m',List.mem_cons_of_mem _ hm',hf⟩) id⟩
   ·rcases (c3 u hu).2.2 b k hf' with ⟨m',hm',iI⟩ | ⟨_,iI⟩
    ·exact tE.1 m' hm' b k hf iI
    ·exact m3 b k hf iI
  | «mut» n =>
   obtain ⟨cs,c1,c2,c3,c4⟩:=ih hm
   have hno : di l = none:=by simpa using hc.1.2
   have hv:=mo 0 x n x' rfl rfl
   refine ⟨y :: cs,by simp only [List.map_cons,fy,c1],by simp [hv,c2],fun u hu=>?_,List.pairwise_cons.2 ⟨fun u hu b k hf hf'=>?_,c4⟩⟩
   ·rcases List.mem_cons.1 hu with rfl | hu
    ·exact ⟨hy,BQ,fun b k hf=>.inr ⟨rfl,hf⟩⟩
    ·obtain ⟨u1,u2,u3⟩:=c3 u hu
     refine ⟨u1,u2,fun b k hf=>(u3 b k hf).imp (fun ⟨m',hm',hf⟩=>⟨m',List.mem_cons_of_mem _ hm',hf⟩) fun hh=>⟨rfl,hh.2⟩⟩
   ·rcases (c3 u hu).2.2 b k hf' with ⟨m',hm',iI⟩ | ⟨hh,_⟩
    ·exact (qX m' (List.mem_cons_of_mem _ hm')).2.2 b k iI hf
    ·rw [hno] at hh; cases hh
 | [],_ :: _,hc,_,_,_,_,_=>by cases hc
 | _ :: _,[],hc,_,_,_,_,_=>by cases hc
 | [],[],_,_ :: _,hm,_,_,_=>hm.elim
theorem Vv {G2 : Nat→C} {s2 : ah} {bu : Nat→Nat→Prop} (h : St c G2 zl s2 a w) (hb : ∀ b k,c.zb b k→bu b k) (hG : ∀ t b k,(G2 t).fp b k→bu b k) {x : AV} {x' : Operand} (hx : aK x' x = true) {f : FuncId} {cs : List X} (he : ax s2 x = .fn f cs) :
  ∃ l : List C,l.map C.er = l6 s2 (some x)∧a.eval x' = .func (.func f) #[] (l.map C.val).toArray∧∀ x∈l,eY w zl bu x:=by
 obtain ⟨p,p1,p2,p3⟩:=bQ h hx
 rw [he] at p1
 cases p with
 | fn g n fc =>
  simp only [C.er,X.fn.injEq] at p1
  obtain ⟨rfl,p1⟩:=p1
  obtain ⟨l',l1,l2,l3⟩:=IX h.inv hb hG ((List.range n).map fc) fun x hx=>by
   obtain ⟨j,hj,rfl⟩:=List.mem_map.1 hx
   have hj' : j < n:=by simpa using hj
   exact ⟨(p3.ok j hj').1,p3.rf j hj',(p3.ok j hj').2⟩
  refine ⟨l',?_,?_,l3⟩
  ·rw [l1,l6,he,← p1,List.map_map]
   rfl
  ·rw [← p2,l2,List.map_map]
   rfl
 | _=>simp [C.er] at p1
end
end M
namespace M
open Go Go.RowKit
variable [Bs]
theorem iW {l : List X} : X.clean.ck l = true↔∀ x∈l,x.clean = true:=by
 induction l with
 | nil=>simp [X.clean.ck]
 | cons a l ih=>simp [X.clean.ck,ih]
theorem LB {l : List (List X)} : X.clean.bw l = true↔∀ x∈l,∀ y∈x,y.clean = true:=by
 induction l with
 | nil=>simp [X.clean.bw]
 | cons a l ih=>simp [X.clean.bw,ih,iW]
namespace C
def dB : C→C
 | .row _ sz A len cap e=>.row .sl sz A len cap fun i j=>(e i j).dB
 | .ptr _ g o n c=>.ptr .sl g o n fun j=>(c j).dB
 | .agg n c=>.agg n fun j=>(c j).dB
 | .au n c=>.au n fun j=>(c j).dB
 | .fn f n c=>.fn f n fun j=>(c j).dB
 | .ref v _ _=>.dead v
 | .aA v _ _ _ _=>.dead v
 | .cut v _ _ _ _=>.dead v
 | .dead v=>.dead v
 | .int k n=>.int k n
 | .bool b=>.bool b
 | .str s=>.str s
theorem uD : ∀ c : C,c.dB.er = c.er.md .sl
 | .row m sz A len cap e=>by
  simp only [dB,er,X.md]
  rw [X.Dq .sl (fun _=>List.range sz) (fun i j=>(e i j).er)]
  congr 1
  exact List.map_congr_left fun i _=>List.map_congr_left fun j _=>uD (e i j)
 | .ptr m g o n c=>by simp only [dB,er,X.md,X.lI]; congr 1; exact List.map_congr_left fun j _=>uD (c j)
 | .agg n c=>by simp only [dB,er,X.md,X.lI]; congr 1; exact List.map_congr_left fun j _=>uD (c j)
 | .au n c=>by simp only [dB,er,X.md,X.lI]; congr 1; exact List.map_congr_left fun j _=>uD (c j)
 | .fn f n c=>by simp only [dB,er,X.md,X.lI]; congr 1; exact List.map_congr_left fun j _=>uD (c j)
 | .ref _ _ _=>by simp only [dB,er,X.md]
 | .aA _ _ _ _ _=>by simp only [dB,er,X.md]
 | .cut _ _ _ _ _=>by simp only [dB,er,X.md]
 | .dead _=>by simp only [dB,er,X.md]
 | .int _ _=>by simp only [dB,er,X.md]
 | .bool _=>by simp only [dB,er,X.md]
 | .str _=>by simp only [dB,er,X.md]
theorem uF : ∀ c : C,c.dB.val = c.val
 | .row m sz A len cap e=>rfl
 | .ptr m g o n c=>rfl
 | .agg n c=>by simp only [dB,val]; congr 2; exact List.map_congr_left fun j _=>uF (c j)
 | .au n c=>by simp only [dB,val]; congr 2; exact List.map_congr_left fun j _=>uF (c j)
 | .fn f n c=>by simp only [dB,val]; congr 2; exact List.map_congr_left fun j _=>uF (c j)
 | .ref _ _ _=>rfl
 | .aA _ _ _ _ _=>rfl
 | .cut _ _ _ _ _=>rfl
 | .dead _=>rfl
 | .int _ _=>rfl
 | .bool _=>rfl
 | .str _=>rfl
theorem pX : ∀ (c : C) (b k : Nat),¬ c.dB.fp b k
 | .row m sz A len cap e,b,k=>fun h=>by cases h.1
 | .ptr m g o n c,b,k=>fun h=>by cases h.1
 | .agg n c,b,k=>fun ⟨j,_,hf⟩=>pX (c j) b k hf
 | .au n c,b,k=>fun ⟨j,_,hf⟩=>pX (c j) b k hf
 | .fn f n c,b,k=>fun h=>h
 | .ref _ _ _,b,k=>fun h=>h
 | .aA _ _ _ _ _,b,k=>fun h=>h
 | .cut _ _ _ _ _,b,k=>fun h=>h
 | .dead _,b,k=>fun h=>h
 | .int _ _,b,k=>fun h=>h
 | .bool _,b,k=>fun h=>h
 | .str _,b,k=>fun h=>h
theorem Iy {c : C} (h : c.cell) : c.dB.cell:=by
 cases c <;> first | exact h | exact h.elim | trivial
theorem abZ {c : C} (h : c.ff) : c.dB.ff:=by
 cases c <;> first | exact h | exact h.elim | trivial
theorem ab1 {c : C} (h : c.cA) : c.dB.cA:=by
 cases c <;> first | exact h | exact h.elim | trivial
theorem Oh (c : C) : c.dB.fits .sl:=by
 cases c <;> first | trivial | exact .inr (.inl rfl)
theorem ab0 {c : C} (h : c.plain) : c.dB.plain:=by cases c <;> first | exact h | exact h.elim | trivial
variable {w : World} {zl aD zb : Nat→Nat→Prop}
theorem uE (hz : ∀ b k,zl b k→aD b k) : ∀ c : C,c.er.clean = true→(∀ b k,c.fp b k→aD b k)→c.ok w (Zf zl zb)→c.dB.ok w (Zf aD zb)
 | .row m sz A len cap e,hcl,hf,h=>by
  obtain ⟨h1,h2,h3,h4,h5⟩:=h
  simp only [er,X.clean,Bool.and_eq_true] at hcl
  refine ⟨h1,fun i j hi hj=>?_,fun i j hi hj=>?_,fun hm=>by (cases hm),fun i j hi hj b k hh=>(pX _ b k hh).elim⟩
  ·obtain ⟨g,o,hA,hc,q8⟩:=h2 i j hi hj
   refine ⟨g,o,hA,by rw [uF]; exact hc,fun _=>?_⟩
   cases m with
   | own=>exact hf _ _ ⟨rfl,.inl ⟨o,hA⟩⟩
   | sl=>exact hz _ _ (q8 (by simp))
   | af=>simp at hcl
  ·obtain ⟨a1,a2,a3,a4⟩:=h3 i j hi hj
   exact ⟨Iy a1,ab1 a2,Oh _,uE hz (e i j) (LB.1 hcl.2 _ (List.mem_map.2 ⟨i,by simpa using hi,rfl⟩) _ (List.mem_map.2 ⟨j,by simpa using hj,rfl⟩)) (fun b k hk=>hf b k (jd a1 a3 hi hj hk)) a4⟩
 | .ptr m g o n c,hcl,hf,h=>by
  obtain ⟨h1,h2,h3,h4⟩:=h
  simp only [er,X.clean,Bool.and_eq_true] at hcl
  refine ⟨fun j hj=>?_,h2,fun j hj=>?_,fun j hj b k hh=>(pX _ b k hh).elim⟩
  ·obtain ⟨a1,a2,a3⟩:=h1 j hj
   refine ⟨by rw [uF]; exact a1,fun _=>?_,fun hm=>by (cases hm)⟩
   cases m with
   | own=>exact hf _ _ ⟨rfl,.inl ⟨rfl,by omega,by omega⟩⟩
   | sl=>exact hz _ _ (a2 (by simp))
   | af=>simp at hcl
  ·obtain ⟨a1,a2,a3⟩:=h3 j hj
   exact ⟨Iy a1,Oh _,uE hz (c j) (iW.1 hcl.2 _ (List.mem_map.2 ⟨j,by simpa using hj,rfl⟩)) (fun b k hk=>hf b k (jy a1 a2 hj hk)) a3⟩
 | .agg n c,hcl,hf,h=>by
  simp only [er,X.clean] at hcl
  exact ⟨fun j hj=>⟨Iy (h.1 j hj).1,uE hz (c j) (iW.1 hcl _ (List.mem_map.2 ⟨j,by simpa using hj,rfl⟩)) (fun b k hk=>hf b k ⟨j,hj,hk⟩) (h.1 j hj).2⟩,fun j hj b k hh=>(pX _ b k hh).elim⟩
 | .au n c,hcl,hf,h=>by
  simp only [er,X.clean] at hcl
  exact ⟨fun j hj=>⟨abZ (h.1 j hj).1,uE hz (c j) (iW.1 hcl _ (List.mem_map.2 ⟨j,by simpa using hj,rfl⟩)) (fun b k hk=>hf b k ⟨j,hj,hk⟩) (h.1 j hj).2⟩,fun j hj b k hh=>(pX _ b k hh).elim⟩
 | .fn f n c,hcl,hf,h=>by
  simp only [er,X.clean] at hcl
  exact fun j hj=>⟨uE hz (c j) (iW.1 hcl _ (List.mem_map.2 ⟨j,by simpa using hj,rfl⟩)) (fun b k hk=>((h j hj).2 b k hk).elim) (h j hj).1,fun b k hh=>pX _ b k hh⟩
 | .ref _ _ _,_,_,_=>trivial
 | .aA _ _ _ _ _,_,_,_=>trivial
 | .cut _ _ _ _ _,_,_,_=>trivial
 | .dead _,_,_,_=>trivial
 | .int _ _,_,_,_=>trivial
 | .bool _,_,_,_=>trivial
 | .str _,_,_,h=>h
end C
variable {w : World} {zl zb : Nat→Nat→Prop} {G : Nat→C} {s : ah}
theorem Inv.more {aD : Nat→Nat→Prop} (h : Inv w zl zb G s) (h1 : ∀ b k,zl b k→aD b k) (h2 : ∀ b k,aD b k→(zl b k∨∀ t,¬ (G t).fp b k)∧b < w.heap.size) : Inv w aD zb G s where
 er:=h.er
 ok:=fun t=>C.fG (fun m b k hz=>by
  cases m with
  | own=>exact hz
  | sl=>exact h1 b k hz
  | af=>exact hz.imp (h1 b k) id) _ (h.ok t)
 sep:=h.sep
 fz:=fun t b k hf=>⟨fun hz=>by
  rcases (h2 b k hz).1 with hh | hh
  ·exact (h.fz t b k hf).1 hh
  ·exact hh t hf,(h.fz t b k hf).2⟩
 rf:=h.rf
 cm:=fun b k hz=>hz.elim (fun hz=>(h2 b k hz).2) fun hz=>h.cm b k (.inr hz)
section
variable {P : Program} {c : Ctx} {a : Act} {o : Oper} {K : ah→Prop}
theorem St.more {aD : Nat→Nat→Prop} (h : St c G zl s a w) (h1 : ∀ b k,zl b k→aD b k) (h2 : ∀ b k,aD b k→(zl b k∨∀ t,¬ (G t).fp b k)∧b < w.heap.size) (h3 : ∀ b k,aD b k→zl b k∨c.F0 b k∨c.w0.heap.size≤b) : St c G aD s a w where
 inv:=h.inv.more h1 h2
 val:=h.val
 size:=h.size
 small:=h.small
 defers:=h.defers
 tr:=⟨h.tr.ext,h.tr.dom,fun b k hz=>h1 b k (h.tr.mV b k hz),fun b k hz=>(h3 b k hz).elim (h.tr.zl b k) .inr,h.tr.gl,h.tr.wC⟩
 args:=h.args
theorem OY {d : Nat} {v : Value} (hd : a.tmps.getD d undef = v) (hn : d < a.tmps.size) : a.put (some d) v = a:=by
 unfold Act.put
 simp only
 congr 1
 apply Array.ext_getElem?
 intro i
 by_cases e : d = i
 ·subst e
  rw [Array.getElem?_setIfInBounds_self_of_lt hn,← hd,Array.getD_eq_getD_getElem?,Array.getElem?_eq_getElem hn]
  rfl
 ·rw [Array.getElem?_setIfInBounds_ne e]
theorem MD {d : Nat} {s' : ah} (h : St c G zl s a w) (hn : d < c.nt) (cs : List C) (hcs : ∀ x∈cs,vM w zl c.zb G x) (k : List C→C) (kx : List X→X) (hk : ∀ l : List C,l.length = cs.length→(k l).er = kx (l.map C.er))
  (hkv : ∀ l : List C,l.map C.val = cs.map C.val→(k l).val = a.tmps.getD d undef) (hko : ∀ {aD : Nat→Nat→Prop},∀ l : List C,l.length = cs.length→(∀ x∈l,x.plain∧x.ok w (Zf aD c.zb)∧∀ b k,¬ x.fp b k)→(k l).ok w (Zf aD c.zb)∧(∀ b q,¬ (k l).fp b q)∧∀ G,(k l).rf G)
  (hg : wB d (cs.map C.er) kx s = some s') : ∃ G' aD,St c G' aD s' a w:=by
 obtain ⟨l,G1,e1,e2,e3,e4,e5⟩:=Ab cs G s h.inv hcs
 unfold wB at hg
 rw [← e1] at hg
 cases hcl : X.clean.ck (l.map C.er) with
 | false=>rw [hcl] at hg; cases hg
 | true =>
  rw [hcl,cond_true] at hg
  have hlen : l.length = cs.length:=by have:=congrArg List.length e2; simpa using this
  let aD : Nat→Nat→Prop:=fun b k=>zl b k∨∃ y∈l,y.fp b k
  have h1 : St c G1 zl (bK (cs.map C.er) s).2 a w:=h.move e4.inv e4.val (Ext.refl (fun _ _=>False) w) (fun _ _ hs=>hs.elim) (fun t b k hf=>.inl ⟨t,e4.mono t b k hf⟩)
  have h2 : St c G1 aD (bK (cs.map C.er) s).2 a w:=h1.more (fun b k hz=>.inl hz) (fun b k hz=>by
   rcases hz with hz | ⟨y,hy,hf⟩
   ·exact ⟨.inl hz,h1.inv.cm b k (.inl hz)⟩
   ·exact ⟨.inr fun t=>(e4.all y hy).2.1 t b k hf,C.eC _ (e4.all y hy).1 b k hf⟩) (fun b k hz=>by
   rcases hz with hz | ⟨y,hy,hf⟩
   ·exact .inl hz
   ·obtain ⟨t,ht⟩:=(e4.all y hy).2.2.2 b k hf
    exact .inr (h.tr.dom t b k ht))
  let m:=l.map C.dB
  have hml : m.length = cs.length:=by simp [m,hlen]
  have aaD : m.map C.er = X.dz .sl (l.map C.er):=by
   rw [X.lI]
   simp only [m,List.map_map]
   exact List.map_congr_left fun x _=>C.uD x
  have Nk : m.map C.val = cs.map C.val:=by
   rw [← e2]
   simp only [m,List.map_map]
   exact List.map_congr_left fun x _=>C.uF x
  have hmem : ∀ x∈m,x.plain∧x.ok w (Zf aD c.zb)∧∀ b k,¬ x.fp b k:=fun x hx=>by
   obtain ⟨y,hy,rfl⟩:=List.mem_map.1 hx
   exact ⟨C.ab0 (e3 y hy),C.uE (fun b k hz=>.inl hz) y (iW.1 hcl _ (List.mem_map_of_mem hy)) (fun b k hf=>.inr ⟨y,hy,hf⟩) (e4.all y hy).1,C.pX y⟩
  rw [← aaD] at hg
  cases hb : kT (cs.map C.er) (m.map C.er) (bK (cs.map C.er) s).2 with
  | none=>rw [hb] at hg; cases hg
  | some s3 =>
   rw [hb] at hg
   simp only [Option.map_some,Option.some.injEq] at hg
   subst hg
   obtain ⟨G2,g1,g2,g3⟩:=AL cs m h2.inv hml (fun v r p hm=>e5 v r p ((hcs _ hm).weak v r p rfl)) (fun i x y hx hy=>by
    have hy':=hmem y (List.mem_of_getElem? hy)
    refine ⟨hy'.1,?_,hy'.2.1⟩
    have:=congrArg (fun t : List Value=>t[i]?) Nk
    simpa [List.getElem?_map,hx,hy] using this) (fun y hy=>⟨fun t b k hf=>((hmem y hy).2.2 b k hf).elim,fun b k hf=>((hmem y hy).2.2 b k hf).elim⟩) (oD fun x hx=>(hmem x hx).2.2) hb
   have h3 : St c G2 aD s3 a w:=h2.move g1 g2 (Ext.refl (fun _ _=>False) w) (fun _ _ hs=>hs.elim) (fun t b k hf=>by
    rcases g3 t b k hf with hh | ⟨y,hy,hh⟩
    ·exact .inl ⟨t,hh⟩
    ·exact ((hmem y hy).2.2 b k hh).elim)
   obtain ⟨o1,o2,o3⟩:=hko m hml hmem
   obtain ⟨G3,h4⟩:=h3.put hn o1 (fun t _ b k hf=>(o2 b k hf).elim) (fun b k hf=>(o2 b k hf).elim) (o3 G2) (fun b k hf=>(o2 b k hf).elim)
   rw [hk m hml,OY (hkv m Nk).symm (by rw [h.size]; exact hn)] at h4
   exact ⟨G3,aD,h4⟩
theorem ZU {fz : Bool} {d : Nat} {s' : ah} (h : St c G zl s a w) (hn : d < c.nt) (hg : ghost fz d s = some s') : ∃ G' aD,St c G' aD s' a w:=by
 obtain ⟨e1,e2,e3⟩:=OI h d
 have hd : d < base:=Nat.lt_of_lt_of_le hn h.small
 have hval : a.tmps.getD d undef = (G d).val:=(h.val d hd).symm
 unfold ghost at hg
 cases fz with
 | false =>
  obtain ⟨y,G1,f1,f2,f3,f4⟩:=oo .mv h.inv e3
  rw [e1] at f1 f4
  have mw : y.val = a.tmps.getD d undef:=by rw [f2,e2,hval]
  simp only [cond_false,Option.some.injEq] at hg
  subst hg
  obtain ⟨G2,h2⟩:=h.JT f4 hn
  rw [f1,OY mw.symm (by rw [h.size]; exact hn)] at h2
  exact ⟨G2,zl,h2⟩
 | true =>
  simp only [cond_true] at hg
  rw [← e1] at hg
  cases hx : (G d).alias d [] with
  | agg n f =>
   rw [hx] at hg e2 e3
   have er : (C.agg n f).er = .agg (((List.range n).map f).map C.er):=by simp only [C.er,List.map_map]; rfl
   rw [er] at hg
   have hlen : ((List.range n).map f).length = n:=by simp
   refine MD h hn ((List.range n).map f) (fun x hx=>?_) fL .agg (fun l _=>sI l) (fun l hl=>?_) (fun l hl hm=>⟨⟨fun j hj=>⟨C.jX (hm _ (cv hj _)).1,(hm _ (cv hj _)).2.1⟩,fun j hj b q hf=>((hm _ (cv hj _)).2.2 b q hf).elim⟩,fun b q hf=>?_,fun G j hj=>C.mI (hm _ (cv hj _)).1 G⟩) hg
   ·obtain ⟨j,hj,rfl⟩:=List.mem_map.1 hx
    have hj' : j < n:=by simpa using hj
    exact ⟨(e3.ok.1 j hj').1,(e3.ok.1 j hj').2,fun b k hf=>e3.cz b k ⟨j,hj',hf⟩,fun v r p e=>Ah (by rw [← e]; exact e3.rf j hj')⟩
   ·rw [vN,hl,hval,← e2]
    simp only [C.val,List.map_map]
    rfl
   ·obtain ⟨x,hx,hf⟩:=(oB _ _ _).1 hf
    exact (hm x hx).2.2 b q hf
  | ref v r p =>
   rw [hx] at hg e2 e3
   refine MD h hn [.ref v r p] (fun x hx=>?_) (fun l=>l.headD (.dead undef)) (fun l=>l.headD .dead) (fun l hl=>?_) (fun l hl=>?_) (fun l hl hm=>?_) hg
   ·obtain rfl:=List.mem_singleton.1 hx
    exact ⟨I2 e3.rf,trivial,fun b k hf=>hf,fun v' r' p' e=>by cases e; exact Ah e3.rf⟩
   ·cases l with
    | nil=>simp at hl
    | cons x l=>rfl
   ·cases l with
    | nil=>simp at hl
    | cons x l =>
     have : x.val = v:=by have:=congrArg List.head? hl; simpa [C.val] using this
     show x.val = _
     rw [this,hval,← e2]
     rfl
   ·cases l with
    | nil=>simp at hl
    | cons x l =>
     obtain ⟨a1,a2,a3⟩:=hm x (List.mem_cons_self ..)
     exact ⟨a2,a3,fun G=>C.mI a1 G⟩
  | _ =>
   rw [hx] at hg
   simp only [C.er,Option.some.injEq] at hg
   subst hg
   exact ⟨G,zl,h⟩
theorem ac9 (h : St c G zl s a w) {d sz : Nat} {fz agg : Bool} {ty : TypeId} {x : AV} {x' : Operand} (ho : o.op = .load ty x') (hsz : ∃ i,P.info? ty = some i∧i.size = sz) (k8 : ∃ dd,P.underlying ty = some dd∧(match dd with | .struct _=>true | .array _ _=>true | _=>false) = agg)
  (h1 : agg = true∨sz = 1) (hd : o.dst = some d) (hn : d < c.nt) (hx : aK x' x = true)
  (hK : aN P (.lE d fz sz agg x) s K) : cW P c o a w K:=by
 obtain ⟨cs,k1,k2,s',k3,k4⟩:=hK
 obtain ⟨v,hr,G1,qq,s1,q1,q2⟩:=OG (K:=fun t=>t = put d (bif agg then .agg (cs.take sz) else cs.headD .dead) s) h ho hsz k8 h1 hd hn hx ⟨cs,k1,k2,rfl⟩
 subst q1
 obtain ⟨G2,qt,h2⟩:=ZU q2 hn k3
 exact ⟨v,hr,G2,qt,s',k4,h2⟩
end
end M
namespace M
open Go Go.RowKit
variable [Bs]
section
variable {P : Program} {c : Ctx} {G : Nat→C} {zl : Nat→Nat→Prop} {s : ah} {a : Act} {w : World} {o : Oper} {K : ah→Prop}
def oz (P : Program) (c : Ctx) (o : Oper) (a : Act) (w : World) (K : ah→Prop) (q : Bool) : Prop :=
 ∃ f args,(execOp a.eval o).run P w = .ok (.enter f args) w∧Calls P f args w fun e w'=>∃ v,e = .returned v∧Rel q w w'∧∃ G' aD s',K s'∧St c G' aD s' (a.put o.dst v) w'
theorem I8 {f : FuncId} {fn : Func} (hf : P.funcs[f]? = some fn) (hname : (fn.name == "runtime.NumGoroutine") = false) (hb : fn.body.isNone = false) (args : Array Value) (w : World) : (callFunc f args).run P w = .ok (.enter f args) w:=by
 simp only [callFunc,Sem.run_bind,run_program,Result.andThen_ok,hf,hname,hb,Bool.false_eq_true,if_false,Sem.run_pure]
theorem St.result {aD : Nat→Nat→Prop} (h : St c G aD s a w) {x : C} (d : Option Nat) (hn : ∀ n,d = some n→n < c.nt) (hok : x.ok w (Zf aD fun _ _=>False)) (hb : x.bare) (hsep : ∀ t b k,x.fp b k→¬ (G t).fp b k) (hfz : ∀ b k,x.fp b k→¬ aD b k∧¬ c.zb b k)
  (hdom : ∀ b k,x.fp b k→c.F0 b k∨c.w0.heap.size≤b) : ∃ G',St c G' aD (eR d x.er s) (a.put d x.val) w:=by
 cases d with
 | none=>exact ⟨G,h⟩
 | some n =>
  refine h.put (hn n rfl) (C.fG (fun m b k hz=>?_) _ hok) (fun t _=>hsep t) hfz (C.oG G _ hb) hdom
  cases m with
  | own=>exact hz
  | sl=>exact hz
  | af=>exact hz.imp id fun h=>h.elim
theorem St.after {aD : Nat→Nat→Prop} {w' : World} {G1 : Nat→C} {s1 : ah} {S : Nat→Nat→Prop} (h : St c G zl s a w) (hi : Inv w' aD c.zb G1 s1) (hv : ∀ t,(G1 t).val = (G t).val) (hE : Ext S w w') (hS : ∀ b k,S b k→∃ t,(G t).fp b k)
  (hd : ∀ t b k,(G1 t).fp b k→(∃ u,(G u).fp b k)∨w.heap.size≤b) (hz1 : ∀ b k,zl b k→aD b k) (hz2 : ∀ b k,aD b k→zl b k∨(∃ t,(G t).fp b k)∨w.heap.size≤b) : St c G1 aD s1 a w' where
 inv:=hi
 val:=fun t ht=>(hv t).trans (h.val t ht)
 size:=h.size
 small:=h.small
 defers:=h.defers
 tr:=⟨h.tr.ext.trans hE (fun b k hs hb=>by
   obtain ⟨t,ht⟩:=hS b k hs
   rcases h.tr.dom t b k ht with hh | hh
   ·exact hh
   ·omega),fun t b k hf=>by
   rcases hd t b k hf with ⟨u,hu⟩ | hb
   ·exact h.tr.dom u b k hu
   ·exact .inr (Nat.le_trans h.tr.ext.size hb),fun b k hz=>hz1 b k (h.tr.mV b k hz),fun b k hz=>by
   rcases hz2 b k hz with hz | ⟨t,ht⟩ | hb
   ·exact h.tr.zl b k hz
   ·exact .inr (h.tr.dom t b k ht)
   ·exact .inr (.inr (Nat.le_trans h.tr.ext.size hb)),h.tr.gl,h.tr.wC⟩
 args:=fun i v hi=>(hv _).trans (h.args i v hi)
theorem St.GF (h : St c G zl s a w) (bu : Nat→Nat→Prop) (hz : ∀ b k,c.zb b k→bu b k) : AA w zl bu:=fun b hb=>by
 obtain ⟨h1,h2⟩:=h.tr.gl b hb
 refine ⟨?_,fun k=>(h2 k).imp (h.tr.mV b k) (hz b k)⟩
 rw [← h1]
 have hlt : b < c.w0.heap.size:=by
  rcases Nat.lt_or_ge b c.w0.heap.size with h | h
  ·exact h
  ·rw [Array.getElem?_eq_none h] at h1
   have:=Array.getElem?_eq_none_iff.1 h1.symm
   omega
 rcases h.tr.ext.block b hlt with e | ⟨arr,eZ,t,fz,e1,e2,e3,e4⟩
 ·exact e
 ·have : eZ = arr:=by
   apply Array.ext_getElem?
   intro i
   exact e4 i (h.tr.wC b i hb)
  rw [e1,e2,this]
theorem EN {G1 : Nat→C} {s1 : ah} {l : List C} (h : St c G zl s a w) (hT : bx w zl c.zb G l G1 s1) : St c G1 zl s1 a w :=
 h.move hT.inv hT.val (Ext.refl (fun _ _=>False) w) (fun _ _ hs=>hs.elim) (fun t b k hf=>.inl ⟨t,hT.mono t b k hf⟩)
structure qu (P : Program) (c : Ctx) (zl : Nat→Nat→Prop) (o : Oper) (a : Act) (w : World) (l' : List Operand) (f : FuncId) (fv : Option AV) : Prop where
 run : ∃ ng : List Value,(execOp a.eval o).run P w = .ok (.enter f ((l'.map a.eval) ++ ng).toArray) w ∧
  ∀ {G2 : Nat→C} {s2 : ah} {bu : Nat→Nat→Prop},St c G2 zl s2 a w→(∀ b k,c.zb b k→bu b k)→(∀ t b k,(G2 t).fp b k→bu b k)→oJ s2 fv f→∃ l : List C,l.map C.er = l6 s2 fv∧l.map C.val = ng∧∀ x∈l,eY w zl bu x
def iy : List (AV×PM)→Bool
 | []=>true
 | (_,.af) :: l=>iy l
 | (_,.gD _) :: l=>iy l
 | _ :: _=>false
theorem IA : ∀ {l : List (AV×PM)} (s : ah),iy l = true→∀ x∈(bJ l s).1,x = .dead
 | [],s,_,x,hx=>by cases hx
 | (_,.af) :: l,s,h,x,hx=>(List.mem_cons.1 hx).elim id (IA (l:=l) s h x)
 | (_,.gD _) :: l,s,h,x,hx=>(List.mem_cons.1 hx).elim id (IA (l:=l) s h x)
 | (_,.mv) :: l,s,h,x,hx=>by cases h
 | (_,.mut _) :: l,s,h,x,hx=>by cases h
theorem uI : ∀ {l : List (AV×PM)},iy l = true→di l = none
 | [],_=>rfl
 | (_,.af) :: l,h=>uI (l:=l) h
 | (_,.gD _) :: l,h=>uI (l:=l) h
 | (_,.mv) :: l,h=>by cases h
 | (_,.mut _) :: l,h=>by cases h
theorem Ls (q : Bool) (h : St c G zl s a w) {l' : List Operand} {as : List (AV×PM)} (hc : fN l' as = true) (hno : di as = none) {f : FuncId} {fv : Option AV} (hop : qu P c zl o a w l' f fv) (hq : q = true→iy as = true) (hn : ∀ n,o.dst = some n→n < c.nt) (hK : qG P f o.dst as fv s K) : oz P c o a w K q:=by
 obtain ⟨k1,k2⟩:=hK
 rw [hno] at k2
 obtain ⟨k2,k3⟩:=k2
 obtain ⟨ms,G1,g1,g2,hT⟩:=Du hc h
 obtain ⟨ng,hrun,wI⟩:=hop.run
 have h1:=EN h hT
 rw [← g1] at k1 k3
 have iJ : ∀ b k,c.zb b k→(c.zb b k∨∃ t,(G1 t).fp b k):=fun b k hz=>.inl hz
 have pF : ∀ t b k,(G1 t).fp b k→(c.zb b k∨∃ t,(G1 t).fp b k):=fun t b k hf=>.inr ⟨t,hf⟩
 obtain ⟨l,l1,l2,l3⟩:=wI (bu:=fun b k=>c.zb b k∨∃ t,(G1 t).fp b k) h1 iJ pF k2
 have aaE : ∀ x∈ms,x.ok w (Zf zl fun b k=>c.zb b k∨∃ t,(G1 t).fp b k)∧x.bare∧∀ b k,x.fp b k→¬ (C.dead undef).fp b k:=fun x hx=>by
  refine ⟨C.fG (fun m b k hz=>?_) _ (hT.all x hx).1,(C.ke x).1 (C.sR.1 k1 _ (List.mem_map_of_mem hx)),fun _ _ _ h=>h⟩
  cases m with
  | own=>exact hz
  | sl=>exact hz
  | af=>exact hz.imp id .inl
 obtain ⟨cs,c1,c2,c3,c4⟩:=AJ (bu:=fun b k=>c.zb b k∨∃ t,(G1 t).fp b k) h1 iJ pF (y:=.dead undef) trivial trivial hc g2 aaE hT.apart (fun i x n x' hi _=>by
  exfalso
  have : ∀ {l : List (AV×PM)} {i : Nat},l[i]? = some (x,PM.mut n)→di l≠none:=by
   intro l
   induction l with
   | nil=>intro i hi; simp at hi
   | cons p l ih =>
    intro i hi
    obtain ⟨y,pm⟩:=p
    cases i with
    | zero =>
     simp only [List.getElem?_cons_zero,Option.some.injEq,Prod.mk.injEq] at hi
     obtain ⟨_,rfl⟩:=hi
     simp [di]
    | succ i =>
     have:=ih (by simpa using hi)
     cases pm <;> simp [di] <;> first | exact this | skip
  exact this hi hno)
 have bV : ∀ x∈cs ++ l,∀ b k,x.fp b k→∃ m∈ms,m.fp b k:=fun x hx b k hf=>by
  rcases List.mem_append.1 hx with hx | hx
  ·rcases (c3 x hx).2.2 b k hf with hh | hh
   ·exact hh
   ·exact hh.2.elim
  ·exact ((l3 x hx).cz b k hf).elim
 have hA : ou w zl (fun b k=>c.zb b k∨∃ t,(G1 t).fp b k) (cs ++ l):={
  ok:=fun x hx=>(List.mem_append.1 hx).elim (fun hx=>(c3 x hx).1) fun hx=>(l3 x hx).ok
  bare:=fun x hx=>(List.mem_append.1 hx).elim (fun hx=>(c3 x hx).2.1) fun hx=>(l3 x hx).bare
  fz:=fun x hx b k hf=>by
   obtain ⟨m,hm,hf⟩:=bV x hx b k hf
   exact ⟨((hT.all m hm).2.2.1 b k hf).1,fun hz=>hz.elim ((hT.all m hm).2.2.1 b k hf).2 fun ⟨t,ht⟩=>(hT.all m hm).2.1 t b k hf ht⟩
  cm:=fun b k hz=>by
   rcases hz with hz | hz | ⟨t,ht⟩
   ·exact hT.inv.cm b k (.inl hz)
   ·exact hT.inv.cm b k (.inr hz)
   ·exact C.eC _ (hT.inv.ok t) b k ht
  apart:=List.pairwise_append.2 ⟨c4,oD fun x hx=>(l3 x hx).cz,fun x _ y hy b k _ hf=>(l3 y hy).cz b k hf⟩ }
 have o9:=k3 w zl _ (cs ++ l) (by rw [List.map_append,c1,l1]; rfl) hA (h.GF _ fun b k hz=>.inl hz)
 have q6 : (cs ++ l).map C.val = l'.map a.eval ++ ng:=by rw [List.map_append,c2,l2]
 rw [q6] at o9
 refine ⟨f,_,hrun,o9.mono ?_⟩
 rintro e w' ⟨r,ps,aD,hD,hk⟩
 have hin : ∀ b k,aD b k→b < w'.heap.size:=fun b k hz=>hD.all.cm b k (.inl hz)
 have jv : ∀ b k,(∃ m∈ms,m.fp b k)→(∀ t,¬ (G1 t).fp b k)∧¬ zl b k∧¬ c.zb b k:=fun b k ⟨m,hm,hf⟩=>⟨fun t=>(hT.all m hm).2.1 t b k hf,(hT.all m hm).2.2.1 b k hf⟩
 have jH : ∀ b k,(∃ x∈cs ++ l,x.fp b k)→∃ m∈ms,m.fp b k:=fun b k ⟨x,hx,hf⟩=>bV x hx b k hf
 have w9 : ∀ b k,aD b k→zl b k∨(∃ m∈ms,m.fp b k)∨w.heap.size≤b:=fun b k hz=>(hD.qt b k hz).imp id fun hh=>hh.imp (jH b k) id
 have hi:=hT.inv.KH hD.ext (fun b k hs=>jv b k (jH b k hs)) hD.qq (fun b k hz=>⟨hin b k hz,fun t hf=>by
  rcases w9 b k hz with hz | hm | hb
  ·exact (hT.inv.fz t b k hf).1 hz
  ·exact (jv b k hm).1 t hf
  ·have:=C.eC _ (hT.inv.ok t) b k hf; omega⟩)
 have jw : ∀ b k,(∃ m∈ms,m.fp b k)→∃ t,(G t).fp b k:=fun b k ⟨m,hm,hf⟩=>(hT.all m hm).2.2.2 b k hf
 have h2 : St c G1 aD (bJ as s).2 a w':=h.after hi hT.val hD.ext (fun b k hs=>jw b k (jH b k hs)) (fun t b k hf=>.inl ⟨t,hT.mono t b k hf⟩) hD.qq (fun b k hz=>(w9 b k hz).imp id fun hh=>hh.imp (jw b k) id)
 have hrd : ∀ b k,r.fp b k→(∃ m∈ms,m.fp b k)∨w.heap.size≤b:=fun b k hf=>(hD.dom r (List.mem_cons_self ..) b k hf).imp (jH b k) id
 obtain ⟨G3,h3⟩:=h2.result (x:=r) o.dst hn (hD.all.ok r (List.mem_cons_self ..)) (hD.all.bare r (List.mem_cons_self ..)) (fun t b k hf hf'=>by
   rcases hrd b k hf with hm | hb
   ·exact (jv b k hm).1 t hf'
   ·have:=C.eC _ (hT.inv.ok t) b k hf'; omega) (fun b k hf=>⟨(hD.all.fz r (List.mem_cons_self ..) b k hf).1,fun hz=>by
   rcases hrd b k hf with hm | hb
   ·exact (jv b k hm).2.2 hz
   ·have:=hT.inv.cm b k (.inr hz); omega⟩) (fun b k hf=>by
   rcases hrd b k hf with hm | hb
   ·obtain ⟨t,ht⟩:=jw b k hm
    exact h.tr.dom t b k ht
   ·exact .inr (Nat.le_trans h.tr.ext.size hb))
 refine ⟨r.val,hD.ends,fun G9=>hD.ext.mono fun b k hs _=>?_,G3,aD,_,hk,h3⟩
 obtain ⟨m,hm,hf⟩:=jH b k hs
 have hd:=IA s (hq G9) m.er (by rw [← g1]; exact List.mem_map_of_mem hm)
 cases m <;> first | exact hf | (simp [C.er] at hd)
end
end M
namespace M
open Go Go.RowKit
variable [Bs]
structure dV (w w' : World) (zl aD zb : Nat→Nat→Prop) (G : Nat→C) (r : Nat) (p : Path) (D y q : C) (S M : Nat→Nat→Prop) : Prop where
 sub : (G r).sub p = some D
 yD : ∀ b k,y.fp b k→D.fp b k
 ext : Ext S w w'
 pJ : ∀ b k,S b k→M b k∨y.fp b k
 uP : ∀ b k,M b k→(∀ t,¬ (G t).fp b k)∧¬ zl b k∧¬ zb b k
 DE : q.ok w' (Zf aD zb)
 bare : q.bare
 val : q.val = y.val
 fp : ∀ b k,q.fp b k→S b k∨w.heap.size≤b
 qz : ∀ b k,q.fp b k→¬ aD b k
 z1 : ∀ b k,zl b k→aD b k
 z2 : ∀ b k,aD b k→zl b k∨S b k∨w.heap.size≤b
 cm : ∀ b k,aD b k→b < w'.heap.size
section
variable {w w' : World} {zl aD zb : Nat→Nat→Prop} {G : Nat→C} {s : ah} {r : Nat} {p : Path} {D y q : C} {S M : Nat→Nat→Prop}
theorem dV.DG (h : dV w w' zl aD zb G r p D y q S M) (hi : Inv w zl zb G s) {b k : Nat} (hf : D.fp b k) : (G r).fp b k:=C.fJ p h.sub (hi.ok r) hf
theorem dV.notM (h : dV w w' zl aD zb G r p D y q S M) (hi : Inv w zl zb G s) {b k : Nat} (hf : D.fp b k) : ¬ M b k:=fun hm=>(h.uP b k hm).1 r (h.DG hi hf)
theorem dV.Om (h : dV w w' zl aD zb G r p D y q S M) (hi : Inv w zl zb G s) {b k : Nat} (hf : D.fp b k) : ¬ w.heap.size≤b:=fun hb=>by have:=C.eC _ (hi.ok r) b k (h.DG hi hf); omega
theorem dV.qD (h : dV w w' zl aD zb G r p D y q S M) (hi : Inv w zl zb G s) {b k : Nat} (hq : q.fp b k) (hf : D.fp b k) : y.fp b k:=by
 rcases h.fp b k hq with hs | hb
 ·exact (h.pJ b k hs).resolve_left (h.notM hi hf)
 ·exact (h.Om hi hf hb).elim
theorem dV.zD (h : dV w w' zl aD zb G r p D y q S M) (hi : Inv w zl zb G s) {b k : Nat} (hz : aD b k) (hf : D.fp b k) : y.fp b k:=by
 rcases h.z2 b k hz with hz | hs | hb
 ·exact ((hi.fz r b k (h.DG hi hf)).1 hz).elim
 ·exact (h.pJ b k hs).resolve_left (h.notM hi hf)
 ·exact (h.Om hi hf hb).elim
theorem dV.SD (h : dV w w' zl aD zb G r p D y q S M) (hi : Inv w zl zb G s) {b k : Nat} (hs : S b k) (hf : D.fp b k) : y.fp b k:=(h.pJ b k hs).resolve_left (h.notM hi hf)
theorem dV.Z (h : dV w w' zl aD zb G r p D y q S M) (hi : Inv w zl zb G s) : ∀ m b k,Zf zl zb m b k→¬ S b k:=fun m b k hz hs=>by
 rcases h.pJ b k hs with hm | hy
 ·obtain ⟨_,a1,a2⟩:=h.uP b k hm
  cases m with
  | own=>exact hz
  | sl=>exact a1 hz
  | af=>exact hz.elim a1 a2
 ·exact hi.vI r m b k hz (h.DG hi (h.yD b k hy))
theorem dV.mono (h : dV w w' zl aD zb G r p D y q S M) : ∀ m b k,Zf zl zb m b k→Zf aD zb m b k:=fun m b k hz=>by
 cases m with
 | own=>exact hz
 | sl=>exact h.z1 b k hz
 | af=>exact hz.imp (h.z1 b k) id
theorem dV.back (h : dV w w' zl aD zb G r p D y q S M) (hi : Inv w zl zb G s) {d0 : C} (hok : d0.ok w' (Zf aD zb)) (hF : C.fu D d0) (hl : C.gi D d0) (hrf : (d0.ay (C.belows r p)).rf fun t=>(G t).ay (C.belows r p)) (bV : ∀ b k,d0.fp b k→q.fp b k∨(D.fp b k∧¬ y.fp b k)) (hz : ∀ b k,d0.fp b k→¬ aD b k) :
  ∃ G',Inv w' aD zb G' (gA r p d0.er s)∧(∀ t,(G' t).val = (G t).val)∧∀ t b k,(G' t).fp b k→q.fp b k∨((∃ u,(G u).fp b k)∧¬ y.fp b k):=by
 have h1:=hi.dY r p
 have hs1 : ((G r).ay (C.belows r p)).sub p = some (D.ay (C.belows r p)):=C.iq _ p _ _ (hi.ok r) h.sub
 have wN : ∀ t b k,((G t).ay (C.belows r p)).fp b k↔(G t).fp b k:=fun t b k=>C.cu _ _ b k
 have Z7 : C.fu (D.ay (C.belows r p)) (d0.ay (C.belows r p)):=by
  cases hF with
  | row=>exact .row ..
  | ptr=>exact .ptr ..
 have pn : C.gi (D.ay (C.belows r p)) (d0.ay (C.belows r p)):=by
  cases hF with
  | row m m' sz A len cap e e'=>exact ⟨rfl,fun h=>h,fun h=>h,fun h=>h,hl.fits⟩
  | ptr m m' g o n c c'=>exact ⟨rfl,fun h=>h,fun h=>h,fun h=>h,hl.fits⟩
 obtain ⟨i1,i2,i3⟩:=h1.Fk r p (fun t=>C.fF _ _) hs1 Z7 pn ⟨hrf,C.fF _ _⟩ h.ext (fun b k hs=>by
   rcases h.pJ b k hs with hm | hy
   ·obtain ⟨a1,a2,a3⟩:=h.uP b k hm
    exact .inr ⟨fun t hf=>a1 t ((wN t b k).1 hf),a2,a3⟩
   ·exact .inl ((C.cu _ D b k).2 (h.yD b k hy))) (C.kH _ _ hok) h.z1 (fun b k q8=>⟨fun hf=>hz b k ((C.cu _ d0 b k).1 hf) q8,h.cm b k q8,fun t hf=>by
   refine (C.cu _ D b k).2 ?_
   have hf:=(wN t b k).1 hf
   rcases h.z2 b k q8 with eH | hs | hb
   ·exact ((hi.fz t b k hf).1 eH).elim
   ·rcases h.pJ b k hs with hm | hy
    ·exact ((h.uP b k hm).1 t hf).elim
    ·exact h.yD b k hy
   ·have:=C.eC _ (hi.ok t) b k hf; omega⟩) (fun b k hf=>by
   rcases (bV b k ((C.cu _ d0 b k).1 hf)).symm with hf | hf
   ·exact .inl ((C.cu _ D b k).2 hf.1)
   ·rcases h.fp b k hf with hs | hb
    ·rcases h.pJ b k hs with hm | hy
     ·obtain ⟨a1,a2,a3⟩:=h.uP b k hm
      exact .inr ⟨fun t hf=>a1 t ((wN t b k).1 hf),a3⟩
     ·exact .inl ((C.cu _ D b k).2 (h.yD b k hy))
    ·exact .inr ⟨fun t hf=>by have:=C.eC _ (hi.ok t) b k ((wN t b k).1 hf); omega,fun hz=>by have:=hi.cm b k (.inr hz); omega⟩)
 rw [C.tZ] at i1
 refine ⟨_,i1,fun t=>(i2 t).trans (C.iu _ _),fun t b k hf=>?_⟩
 rcases i3 t b k hf with hf | hf
 ·rcases bV b k ((C.cu _ d0 b k).1 hf) with hf | hf
  ·exact .inl hf
  ·exact .inr ⟨⟨r,h.DG hi hf.1⟩,hf.2⟩
 ·exact .inr ⟨⟨t,(wN t b k).1 hf.1⟩,fun hy=>hf.2 ((C.cu _ D b k).2 (h.yD b k hy))⟩
end
end M
namespace M
open Go Go.RowKit
variable [Bs]
theorem PA {α : Type} (f g : Nat→α) {nn c n : Nat} (h : c + n≤nn) : ((List.range nn).map fun j=>if c≤j∧j < c + n then g (j - c) else f j) = ((List.range nn).map f).take c ++ (List.range n).map g ++ ((List.range nn).map f).drop (c + n):=by
 apply List.ext_getElem?
 intro i
 rw [C.cD]
 have qT : (((List.range nn).map f).take c).length = c:=by simp; omega
 have k9 : (((List.range nn).map f).take c ++ (List.range n).map g).length = c + n:=by rw [List.length_append,qT]; simp
 by_cases h0 : i < nn
 ·rw [if_pos h0]
  by_cases h1 : i < c
  ·rw [if_neg (by omega),List.getElem?_append_left (by omega),List.getElem?_append_left (by omega),List.getElem?_take_of_lt h1,C.cD,if_pos h0]
  ·by_cases h2 : i < c + n
   ·rw [if_pos ⟨by omega,h2⟩,List.getElem?_append_left (by omega),List.getElem?_append_right (by omega),qT,C.cD,if_pos (by omega)]
   ·rw [if_neg (by omega),List.getElem?_append_right (by omega),k9,List.getElem?_drop,C.cD,show c + n + (i - (c + n)) = i by omega,if_pos h0]
 ·rw [if_neg h0,List.getElem?_append_right (by omega),k9,List.getElem?_drop,C.cD,if_neg (by omega)]
section
variable {w w' : World} {zl aD zb : Nat→Nat→Prop} {G : Nat→C} {s : ah} {r : Nat} {p : Path} {S M : Nat→Nat→Prop}
theorem dV.ptr {g o nn n c : Nat} {f qf : Nat→C} (h : dV w w' zl aD zb G r p (.ptr .own g o nn f) (.ptr .own g (o + c) n fun j=>f (j + c)) (.ptr .own g (o + c) n qf) S M) (hi : Inv w zl zb G s) (hn : c + n≤nn) :
  ∃ G',Inv w' aD zb G' (gA r p (.ptr .own (((List.range nn).map fun j=>(f j).er).take c ++ ((List.range n).map fun j=>(qf j).er) ++ ((List.range nn).map fun j=>(f j).er).drop (c + n))) s)∧(∀ t,(G' t).val = (G t).val)∧∀ t b k,(G' t).fp b k→(C.ptr .own g (o + c) n qf).fp b k∨((∃ u,(G u).fp b k)∧¬ (C.ptr .own g (o + c) n fun j=>f (j + c)).fp b k):=by
 obtain ⟨D1,D2,D3,D4⟩:=C.gd p h.sub (hi.ok r)
 obtain ⟨q1,q2,q3,q4⟩:=h.DE
 have ld : ∀ j,j < n→∀ b k,(qf j).fp b k→(C.ptr .own g (o + c) n qf).fp b k:=fun j hj b k hf=>C.jy (q3 j hj).1 (q3 j hj).2.1 hj hf
 have k7 : ∀ j,j < nn→∀ b k,(f j).fp b k→(C.ptr .own g o nn f).fp b k:=fun j hj b k hf=>C.jy (D3 j hj).1 (D3 j hj).2.1 hj hf
 have nu : ∀ k,o≤k→k < o + nn→(C.ptr .own g o nn f).fp g k:=fun k h1 h2=>⟨rfl,.inl ⟨rfl,h1,h2⟩⟩
 have kC : ∀ k,o≤k→k < o + nn→(C.ptr .own g (o + c) n fun j=>f (j + c)).fp g k→o + c≤k∧k < o + c + n:=fun k h1 h2 ⟨_,hf⟩=>by
  rcases hf with hf | ⟨j,hj,hf⟩
  ·exact hf.2
  ·exact ((D4 (j + c) (by omega) g k hf).1 rfl ⟨rfl,h1,h2⟩).elim
 have lg : ∀ j,j < nn→¬ (c≤j∧j < c + n)→∀ b k,(f j).fp b k→¬ (C.ptr .own g (o + c) n fun j=>f (j + c)).fp b k:=fun j hj hne b k hf ⟨_,hf'⟩=>by
  rcases hf' with hf' | ⟨j',hj',hf'⟩
  ·exact (D4 j hj b k hf).1 rfl ⟨hf'.1,by omega,by omega⟩
  ·exact (D4 j hj b k hf).2 (j' + c) (by omega) (by omega) hf'
 let d : Nat→C:=fun j=>if c≤j∧j < c + n then qf (j - c) else f j
 have gE : ∀ j,c≤j∧j < c + n→d j = qf (j - c):=fun j hj=>if_pos hj
 have gF : ∀ j,¬ (c≤j∧j < c + n)→d j = f j:=fun j hj=>if_neg hj
 have hok : (C.ptr .own g o nn d).ok w' (Zf aD zb):=by
  refine ⟨fun j hj=>⟨?_,fun hm=>(hm rfl).elim,fun _=>(h.ext.frozen D2).trans ((D1 j hj).2.2 rfl)⟩,Nat.lt_of_lt_of_le D2 h.ext.size,fun j hj=>?_,fun j hj b k hf=>⟨fun _ hb=>?_,fun j' hj' hne=>?_⟩⟩
  ·by_cases hr : c≤j∧j < c + n
   ·rw [gE j hr]
    have:=(q1 (j - c) (by omega)).1
    rwa [show o + c + (j - c) = o + j by omega] at this
   ·rw [gF j hr]
    exact h.ext.cell (fun hs=>hr (by have:=kC (o + j) (by omega) (by omega) (h.SD hi hs (nu _ (by omega) (by omega))); omega)) (D1 j hj).1
  ·by_cases hr : c≤j∧j < c + n
   ·rw [gE j hr]
    obtain ⟨a1,a2,a3⟩:=q3 (j - c) (by omega)
    exact ⟨a1,a2,a3⟩
   ·rw [gF j hr]
    obtain ⟨a1,a2,a3⟩:=D3 j hj
    exact ⟨a1,a2,C.fG h.mono _ (C.eL h.ext (h.Z hi) _ (fun b k hf hs=>lg j hj hr b k hf (h.SD hi hs (k7 j hj b k hf))) a3)⟩
  ·obtain ⟨rfl,dh,fQ⟩:=hb
   by_cases hr : c≤j∧j < c + n
   ·rw [gE j hr] at hf
    have:=kC k dh fQ (h.qD hi (ld _ (by omega) _ _ hf) (nu k dh fQ))
    exact (q4 (j - c) (by omega) _ k hf).1 rfl ⟨rfl,this.1,this.2⟩
   ·rw [gF j hr] at hf
    exact (D4 j hj _ k hf).1 rfl ⟨rfl,dh,fQ⟩
  ·by_cases hr : c≤j∧j < c + n
   ·rw [gE j hr] at hf
    by_cases hr' : c≤j'∧j' < c + n
    ·rw [gE j' hr']
     exact (q4 (j - c) (by omega) b k hf).2 (j' - c) (by omega) (by omega)
    ·rw [gF j' hr']
     exact fun hf'=>lg j' hj' hr' b k hf' (h.qD hi (ld _ (by omega) _ _ hf) (k7 j' hj' b k hf'))
   ·rw [gF j hr] at hf
    by_cases hr' : c≤j'∧j' < c + n
    ·rw [gE j' hr']
     exact fun hf'=>lg j hj hr b k hf (h.qD hi (ld _ (by omega) _ _ hf') (k7 j hj b k hf))
    ·rw [gF j' hr']
     exact (D4 j hj b k hf).2 j' hj' hne
 have Z5:=Inv.sA.z8 p ((hi.dY r p).ok r) (C.iq (C.belows r p) p _ _ (hi.ok r) h.sub) ((hi.dY r p).rf r)
 obtain ⟨G',i1,i2,i3⟩:=h.back hi (d0:=.ptr .own g o nn d) hok (.ptr ..) ⟨rfl,fun h=>h,fun h=>h,fun h=>h,fun _ h=>h⟩ (fun j hj=>by
   by_cases hr : c≤j∧j < c + n
   ·show ((d j).ay _).rf _
    rw [gE j hr]
    exact C.lN _ _ (C.oG _ _ (h.bare (j - c) (by omega)))
   ·show ((d j).ay _).rf _
    rw [gF j hr]
    exact Z5 j hj) (fun b k hf=>by
   obtain ⟨_,hf | ⟨j,hj,hf⟩⟩:=hf
   ·obtain ⟨rfl,h1,h2⟩:=hf
    by_cases hr : o + c≤k∧k < o + c + n
    ·exact .inl ⟨rfl,.inl ⟨rfl,hr.1,hr.2⟩⟩
    ·exact .inr ⟨nu k h1 h2,fun hy=>hr (kC k h1 h2 hy)⟩
   ·by_cases hr : c≤j∧j < c + n
    ·rw [gE j hr] at hf
     exact .inl (ld _ (by omega) _ _ hf)
    ·rw [gF j hr] at hf
     exact .inr ⟨k7 j hj b k hf,lg j hj hr b k hf⟩) (fun b k hf hz=>by
   obtain ⟨_,hf | ⟨j,hj,hf⟩⟩:=hf
   ·obtain ⟨rfl,h1,h2⟩:=hf
    have:=kC k h1 h2 (h.zD hi hz (nu k h1 h2))
    exact h.qz _ k ⟨rfl,.inl ⟨rfl,this.1,this.2⟩⟩ hz
   ·by_cases hr : c≤j∧j < c + n
    ·rw [gE j hr] at hf
     exact h.qz b k (ld _ (by omega) _ _ hf) hz
    ·rw [gF j hr] at hf
     exact lg j hj hr b k hf (h.zD hi hz (k7 j hj b k hf)))
 have js : (C.ptr .own g o nn d).er = .ptr .own (((List.range nn).map fun j=>(f j).er).take c ++ ((List.range n).map fun j=>(qf j).er) ++ ((List.range nn).map fun j=>(f j).er).drop (c + n)):=by
  rw [← PA (fun j=>(f j).er) (fun j=>(qf j).er) hn]
  simp only [C.er]
  congr 1
  refine List.map_congr_left fun j _=>?_
  show (if _ then _ else _ : C).er = _
  split <;> rfl
 rw [js] at i1
 exact ⟨G',i1,i2,i3⟩
theorem dV.row {z len cap : Nat} {A : Option Ad} {e qe : Nat→Nat→C} (h : dV w w' zl aD zb G r p (.row .own z A len cap e) (.row .own z A len cap e) (.row .own z A len cap qe) S M) (hi : Inv w zl zb G s) :
  ∃ G',Inv w' aD zb G' (gA r p (.row .own z (cU z len qe)) s)∧(∀ t,(G' t).val = (G t).val)∧∀ t b k,(G' t).fp b k→(C.row .own z A len cap qe).fp b k∨((∃ u,(G u).fp b k)∧¬ (C.row .own z A len cap e).fp b k) :=
 h.back hi (d0:=.row .own z A len cap qe) h.DE (.row ..) ⟨rfl,fun h=>h,fun h=>h,fun h=>h,fun _ h=>h⟩ trivial (fun b k hf=>.inl hf) (fun b k hf=>h.qz b k hf)
theorem dV.elem {z g o len cap n c i : Nat} {e : Nat→Nat→C} {qf : Nat→C} (h : dV w w' zl aD zb G r p (.row .own z (some (g,o,none)) len cap e) (.ptr .own g (o + i * z + c) n fun j=>e i (j + c)) (.ptr .own g (o + i * z + c) n qf) S M) (hi : Inv w zl zb G s) (wQ : i < len) (hn : c + n≤z) (hqs : ∀ j,j < n→(qf j).cA) :
  ∃ G',Inv w' aD zb G' (gA r p (.row .own z ((cU z len e).set i (((List.range z).map fun j=>(e i j).er).take c ++ ((List.range n).map fun j=>(qf j).er) ++ ((List.range z).map fun j=>(e i j).er).drop (c + n)))) s)∧(∀ t,(G' t).val = (G t).val)∧∀ t b k,(G' t).fp b k→(C.ptr .own g (o + i * z + c) n qf).fp b k∨((∃ u,(G u).fp b k)∧¬ (C.ptr .own g (o + i * z + c) n fun j=>e i (j + c)).fp b k):=by
 obtain ⟨D1,D2,D3,D4,D5⟩:=C.gd p h.sub (hi.ok r)
 obtain ⟨q1,q2,q3,q4⟩:=h.DE
 have ld : ∀ j,j < n→∀ b k,(qf j).fp b k→(C.ptr .own g (o + i * z + c) n qf).fp b k:=fun j hj b k hf=>C.jy (q3 j hj).1 (q3 j hj).2.1 hj hf
 have k7 : ∀ i' j,i' < len→j < z→∀ b k,(e i' j).fp b k→(C.row .own z (some (g,o,none)) len cap e).fp b k:=fun i' j hi' hj b k hf=>C.jd (D3 i' j hi' hj).1 (D3 i' j hi' hj).2.2.1 hi' hj hf
 have nu : ∀ k,(C.row .own z (some (g,o,none)) len cap e).fp g k:=fun k=>⟨rfl,.inl ⟨o,rfl⟩⟩
 have kC : ∀ k,(C.ptr .own g (o + i * z + c) n fun j=>e i (j + c)).fp g k→o + i * z + c≤k∧k < o + i * z + c + n:=fun k ⟨_,hf⟩=>by
  rcases hf with hf | ⟨j,hj,hf⟩
  ·exact hf.2
  ·exact ((D5 i (j + c) wQ (by omega) g k hf).1 rfl o rfl).elim
 have lg : ∀ i' j,i' < len→j < z→¬ (i' = i∧c≤j∧j < c + n)→∀ b k,(e i' j).fp b k→¬ (C.ptr .own g (o + i * z + c) n fun j=>e i (j + c)).fp b k:=fun i' j hi' hj hne b k hf ⟨_,hf'⟩=>by
  rcases hf' with hf' | ⟨j',hj',hf'⟩
  ·exact (D5 i' j hi' hj b k hf).1 rfl o (by rw [hf'.1])
  ·exact (D5 i' j hi' hj b k hf).2 i (j' + c) wQ (by omega) (fun e=>by simp only [Prod.mk.injEq] at e; exact hne ⟨e.1,by omega,by omega⟩) hf'
 let d : Nat→Nat→C:=fun i' j=>if i' = i∧c≤j∧j < c + n then qf (j - c) else e i' j
 have gE : ∀ i' j,i' = i∧c≤j∧j < c + n→d i' j = qf (j - c):=fun i' j hj=>if_pos hj
 have gF : ∀ i' j,¬ (i' = i∧c≤j∧j < c + n)→d i' j = e i' j:=fun i' j hj=>if_neg hj
 have hok : (C.row .own z (some (g,o,none)) len cap d).ok w' (Zf aD zb):=by
  refine ⟨D1,fun i' j hi' hj=>⟨g,o,rfl,?_,fun hm=>(hm rfl).elim⟩,fun i' j hi' hj=>?_,fun _=>?_,fun i' j hi' hj b k hf=>⟨fun _ o' hA=>?_,fun i2 j2 hi2 hj2 hne=>?_⟩⟩
  ·by_cases hr : i' = i∧c≤j∧j < c + n
   ·rw [gE i' j hr]
    obtain ⟨rfl,h1,h2⟩:=hr
    have:=(q1 (j - c) (by omega)).1
    rwa [show o + i' * z + c + (j - c) = o + i' * z + j by omega] at this
   ·rw [gF i' j hr]
    obtain ⟨g',o',hA,hcl,_⟩:=D2 i' j hi' hj
    injection hA with hA
    injection hA with e1 e2
    injection e2 with e2
    subst e1; subst e2
    refine h.ext.cell (fun hs=>hr ?_) hcl
    have:=kC _ (h.SD hi hs (nu _))
    have hj0 : o + i' * z + j - (o + i * z) < z:=by omega
    have:=IJ hj hj0 (show i' * z + j = i * z + (o + i' * z + j - (o + i * z)) by omega)
    exact ⟨this.1,by omega,by omega⟩
  ·by_cases hr : i' = i∧c≤j∧j < c + n
   ·rw [gE i' j hr]
    obtain ⟨a1,a2,a3⟩:=q3 (j - c) (by omega)
    exact ⟨a1,hqs _ (by omega),a2,a3⟩
   ·rw [gF i' j hr]
    obtain ⟨a1,a2,a3,a4⟩:=D3 i' j hi' hj
    exact ⟨a1,a2,a3,C.fG h.mono _ (C.eL h.ext (h.Z hi) _ (fun b k hf hs=>lg i' j hi' hj hr b k hf (h.SD hi hs (k7 i' j hi' hj b k hf))) a4)⟩
  ·rcases D4 rfl with ⟨hA,_⟩ | ⟨g',o',arr,t,fz,hA,hh,hsz,hfr⟩
   ·cases hA
   ·injection hA with hA
    injection hA with e1 e2
    injection e2 with e2
    subst e1; subst e2
    have hg : g < w.heap.size:=(Array.getElem?_eq_some_iff.1 hh).1
    rcases h.ext.block g hg with e' | ⟨a1,a2,t',kq,r1,r2,r3,r4⟩
    ·exact .inr ⟨g,o,arr,t,fz,rfl,e'.trans hh,hsz,fun k hk hk'=>(h.ext.frozen hg).trans (hfr k hk hk')⟩
    ·rw [hh] at r1
     injection r1 with r1
     injection r1 with s1 s2 s3
     subst s1
     exact .inr ⟨g,o,a2,t',kq,rfl,r2,by omega,fun k hk hk'=>(h.ext.frozen hg).trans (hfr k hk hk')⟩
  ·injection hA with hA
   injection hA with e1 e2
   subst e1
   by_cases hr : i' = i∧c≤j∧j < c + n
   ·rw [gE i' j hr] at hf
    have:=kC k (h.qD hi (ld _ (by omega) _ _ hf) (nu k))
    exact (q4 (j - c) (by omega) _ k hf).1 rfl ⟨rfl,this.1,this.2⟩
   ·rw [gF i' j hr] at hf
    exact (D5 i' j hi' hj _ k hf).1 rfl o rfl
  ·by_cases hr : i' = i∧c≤j∧j < c + n
   ·rw [gE i' j hr] at hf
    by_cases hr' : i2 = i∧c≤j2∧j2 < c + n
    ·rw [gE i2 j2 hr']
     exact (q4 (j - c) (by omega) b k hf).2 (j2 - c) (by omega) (fun e=>hne (by simp only [Prod.mk.injEq]; exact ⟨by rw [hr.1,hr'.1],by omega⟩))
    ·rw [gF i2 j2 hr']
     exact fun hf'=>lg i2 j2 hi2 hj2 hr' b k hf' (h.qD hi (ld _ (by omega) _ _ hf) (k7 i2 j2 hi2 hj2 b k hf'))
   ·rw [gF i' j hr] at hf
    by_cases hr' : i2 = i∧c≤j2∧j2 < c + n
    ·rw [gE i2 j2 hr']
     exact fun hf'=>lg i' j hi' hj hr b k hf (h.qD hi (ld _ (by omega) _ _ hf') (k7 i' j hi' hj b k hf))
    ·rw [gF i2 j2 hr']
     exact (D5 i' j hi' hj b k hf).2 i2 j2 hi2 hj2 hne
 obtain ⟨G',i1,i2,i3⟩:=h.back hi (d0:=.row .own z (some (g,o,none)) len cap d) hok (.row ..) ⟨rfl,fun h=>h,fun h=>h,fun h=>h,fun _ h=>h⟩ trivial (fun b k hf=>by
   obtain ⟨_,hf | ⟨i',j,hi',hj,hf⟩⟩:=hf
   ·obtain ⟨o',hA⟩:=hf
    injection hA with hA
    injection hA with e1 e2
    subst e1
    by_cases hr : o + i * z + c≤k∧k < o + i * z + c + n
    ·exact .inl ⟨rfl,.inl ⟨rfl,hr.1,hr.2⟩⟩
    ·exact .inr ⟨nu k,fun hy=>hr (kC k hy)⟩
   ·by_cases hr : i' = i∧c≤j∧j < c + n
    ·rw [gE i' j hr] at hf
     exact .inl (ld _ (by omega) _ _ hf)
    ·rw [gF i' j hr] at hf
     exact .inr ⟨k7 i' j hi' hj b k hf,lg i' j hi' hj hr b k hf⟩) (fun b k hf hz=>by
   obtain ⟨_,⟨o',hA⟩ | ⟨i',j,hi',hj,hf⟩⟩:=hf
   ·injection hA with hA
    injection hA with e1 e2
    subst e1
    have:=kC k (h.zD hi hz (nu k))
    exact h.qz _ k ⟨rfl,.inl ⟨rfl,this.1,this.2⟩⟩ hz
   ·by_cases hr : i' = i∧c≤j∧j < c + n
    ·rw [gE i' j hr] at hf
     exact h.qz b k (ld _ (by omega) _ _ hf) hz
    ·rw [gF i' j hr] at hf
     exact lg i' j hi' hj hr b k hf (h.zD hi hz (k7 i' j hi' hj b k hf)))
 have js : (C.row .own z (some (g,o,none)) len cap d).er = .row .own z ((cU z len e).set i (((List.range z).map fun j=>(e i j).er).take c ++ ((List.range n).map fun j=>(qf j).er) ++ ((List.range z).map fun j=>(e i j).er).drop (c + n))):=by
  rw [← PA (fun j=>(e i j).er) (fun j=>(qf j).er) hn]
  simp only [C.er]
  congr 1
  symm
  refine C.yE _ _ len i _ fun i' hi'=>?_
  split
  ·rename_i hii
   subst hii
   refine List.map_congr_left fun j _=>?_
   show (if _ then _ else _ : C).er = _
   simp only [true_and]
   split <;> rfl
  ·rename_i hii
   refine List.map_congr_left fun j _=>?_
   show (if _ then _ else _ : C).er = _
   rw [if_neg (fun hh=>hii hh.1)]
 rw [js] at i1
 exact ⟨G',i1,i2,i3⟩
end
end M
namespace M
open Go Go.RowKit
variable [Bs]
section
variable {P : Program} {c : Ctx} {G : Nat→C} {zl : Nat→Nat→Prop} {s : ah} {a : Act} {w : World} {o : Oper} {K : ah→Prop}
theorem IB : ∀ {l' : List Operand} {l : List (AV×PM)} {x : AV} {n : Nat},fN l' l = true→di l = some (x,n)→∃ i x',l[i]? = some (x,PM.mut n)∧l'[i]? = some x'∧aK x' x = true∧(∀ (j : Nat) (x2 : AV) (n2 : Nat),l[j]? = some (x2,PM.mut n2)→j = i)∧∀ ps : List X,jA l ps = ps.getD i .dead
 | [],[],x,n,_,h=>by cases h
 | Ql :: l',(x0,pm) :: l,x,n,hc,h=>by
  simp only [fN,Bool.and_eq_true] at hc
  have other : di l = some (x,n)→(∀ n2,pm≠PM.mut n2)→(∀ (y : X) ps,jA ((x0,pm) :: l) (y :: ps) = jA l ps)→(jA ((x0,pm) :: l) [] = .dead)→∃ i x',((x0,pm) :: l)[i]? = some (x,PM.mut n)∧(Ql :: l')[i]? = some x'∧aK x' x = true∧(∀ (j : Nat) (x2 : AV) (n2 : Nat),((x0,pm) :: l)[j]? = some (x2,PM.mut n2)→j = i)∧∀ ps : List X,jA ((x0,pm) :: l) ps = ps.getD i .dead:=fun hm hpm h1 h2=>by
   obtain ⟨i,x',i1,i2,i3,i4,i5⟩:=IB hc.2 hm
   refine ⟨i + 1,x',by simpa using i1,by simpa using i2,i3,fun j x2 n2 hj=>?_,fun ps=>?_⟩
   ·cases j with
    | zero =>
     simp only [List.getElem?_cons_zero,Option.some.injEq,Prod.mk.injEq] at hj
     exact (hpm n2 hj.2).elim
    | succ j=>rw [i4 j x2 n2 (by simpa using hj)]
   ·cases ps with
    | nil=>rw [h2]; rfl
    | cons y ps=>rw [h1,i5]; rfl
  cases pm with
  | mv=>exact other h (fun _ e=>by cases e) (fun _ _=>rfl) rfl
  | af=>exact other h (fun _ e=>by cases e) (fun _ _=>rfl) rfl
  | gD m=>exact other h (fun _ e=>by cases e) (fun _ _=>rfl) rfl
  | «mut» m =>
   simp only [di,Option.some.injEq,Prod.mk.injEq] at h
   obtain ⟨rfl,rfl⟩:=h
   refine ⟨0,Ql,rfl,rfl,hc.1.1,fun j x2 n2 hj=>?_,fun ps=>?_⟩
   ·cases j with
    | zero=>rfl
    | succ j =>
     exfalso
     have hno : di l = none:=by simpa using hc.1.2
     have : ∀ {l : List (AV×PM)} {i : Nat},l[i]? = some (x2,PM.mut n2)→di l≠none:=by
      intro l
      induction l with
      | nil=>intro i hi; simp at hi
      | cons p l ih =>
       intro i hi
       obtain ⟨y,pm⟩:=p
       cases i with
       | zero =>
        simp only [List.getElem?_cons_zero,Option.some.injEq,Prod.mk.injEq] at hi
        obtain ⟨_,rfl⟩:=hi
        simp [di]
       | succ i =>
        have:=ih (by simpa using hi)
        cases pm <;> simp [di] <;> first | exact this | skip
     exact this (by simpa using hj) hno
   ·cases ps <;> rfl
 | [],_ :: _,_,_,hc,_=>by cases hc
 | _ :: _,[],_,_,hc,_=>by cases hc
theorem IC (h : St c G zl s a w) {l' : List Operand} {as : List (AV×PM)} (hc : fN l' as = true) {x : AV} {n : Nat} (mo : di as = some (x,n)) {f : FuncId} {fv : Option AV} (hop : qu P c zl o a w l' f fv) (hn : ∀ n,o.dst = some n→n < c.nt)
  {ms : List C} {G1 : Nat→C} {sm : ah} (hT : bx w zl c.zb G ms G1 sm) (g2 : MV a l' as ms) (hmb : ∀ m∈ms,m.bare) {r : Nat} {p : Path} {D y : C} (hsub : (G1 r).sub p = some D) (nE : y.ok w (Zf zl c.zb)) (BQ : y.bare) (mw : ∀ (i : Nat) (x' : Operand),as[i]? = some (x,PM.mut n)→l'[i]? = some x'→y.val = a.eval x') (Hh : ∀ b k,y.fp b k→D.fp b k)
  (wI : oJ (gM r p .dead sm) fv f) {back : X→(ah→Prop)→Prop} (hk : AC P f (fy (gM r p .dead sm) y.er as (ms.map C.er) ++ l6 (gM r p .dead sm) fv) fun q ps=>back (jA as ps) fun s'=>K (eR o.dst q s'))
  (aaf : ∀ {w' : World} {aD : Nat→Nat→Prop} {S M : Nat→Nat→Prop} {q : C},dV w w' zl aD c.zb G1 r p D y q S M→∀ Kx,back q.er Kx→∃ s',Kx s'∧∃ G',Inv w' aD c.zb G' s'∧(∀ t,(G' t).val = (G1 t).val)∧∀ t b k,(G' t).fp b k→q.fp b k∨((∃ u,(G1 u).fp b k)∧¬ y.fp b k)) : oz P c o a w K false:=by
 obtain ⟨ng,hrun,aaj⟩:=hop.run
 have h1:=EN h hT
 obtain ⟨D',G2,t1,t2,t3,t4,t5,t6,t7,t8,t9,t10,t11,t12⟩:=h1.inv.sA r p D hsub
 have h2 : St c G2 zl (gM r p .dead sm) a w:=h1.move t3 t10 (Ext.refl (fun _ _=>False) w) (fun _ _ hs=>hs.elim) (fun t b k hf=>.inl ⟨t,t11 t b k hf⟩)
 have aaZ : ∀ b k,y.fp b k→∀ t,¬ (G2 t).fp b k:=fun b k hf t=>t8 t b k ((t12 b k).2 (Hh b k hf))
 have BP : ∀ b k,y.fp b k→(G1 r).fp b k:=fun b k hf=>C.fJ p hsub (hT.inv.ok r) (Hh b k hf)
 have iJ : ∀ b k,c.zb b k→(c.zb b k∨∃ t,(G2 t).fp b k):=fun b k hz=>.inl hz
 have pF : ∀ t b k,(G2 t).fp b k→(c.zb b k∨∃ t,(G2 t).fp b k):=fun t b k hf=>.inr ⟨t,hf⟩
 obtain ⟨l,l1,l2,l3⟩:=aaj (bu:=fun b k=>c.zb b k∨∃ t,(G2 t).fp b k) h2 iJ pF wI
 have Nu : ∀ m b k,Zf zl c.zb m b k→Zf zl (fun b k=>c.zb b k∨∃ t,(G2 t).fp b k) m b k:=fun m b k hz=>by
  cases m with
  | own=>exact hz
  | sl=>exact hz
  | af=>exact hz.imp id .inl
 obtain ⟨i,x',i1,i2,i3,i4,i5⟩:=IB hc mo
 have NB:=mw i x' i1 i2
 obtain ⟨cs,c1,c2,c3,c4⟩:=AJ (bu:=fun b k=>c.zb b k∨∃ t,(G2 t).fp b k) h2 iJ pF (y:=y) (C.fG Nu _ nE) BQ hc g2 (fun x hx=>⟨C.fG Nu _ (hT.all x hx).1,hmb x hx,fun b k hf hf'=>(hT.all x hx).2.1 r b k hf (BP b k hf')⟩) hT.apart (fun j x2 n2 x2' hj hj'=>by
  have:=i4 j x2 n2 hj
  subst this
  rw [i2] at hj'
  injection hj' with hj'
  rw [← hj']; exact NB)
 have bV : ∀ x∈cs ++ l,∀ b k,x.fp b k→(∃ m∈ms,m.fp b k)∨y.fp b k:=fun x hx b k hf=>by
  rcases List.mem_append.1 hx with hx | hx
  ·exact ((c3 x hx).2.2 b k hf).imp id fun hh=>hh.2
  ·exact ((l3 x hx).cz b k hf).elim
 have jv : ∀ b k,(∃ m∈ms,m.fp b k)→(∀ t,¬ (G1 t).fp b k)∧¬ zl b k∧¬ c.zb b k:=fun b k ⟨m,hm,hf⟩=>⟨fun t=>(hT.all m hm).2.1 t b k hf,(hT.all m hm).2.2.1 b k hf⟩
 have hA : ou w zl (fun b k=>c.zb b k∨∃ t,(G2 t).fp b k) (cs ++ l):={
  ok:=fun x hx=>(List.mem_append.1 hx).elim (fun hx=>(c3 x hx).1) fun hx=>(l3 x hx).ok
  bare:=fun x hx=>(List.mem_append.1 hx).elim (fun hx=>(c3 x hx).2.1) fun hx=>(l3 x hx).bare
  fz:=fun x hx b k hf=>by
   rcases bV x hx b k hf with hm | hy
   ·obtain ⟨a1,a2,a3⟩:=jv b k hm
    exact ⟨a2,fun hz=>hz.elim a3 fun ⟨t,ht⟩=>a1 t (t11 t b k ht)⟩
   ·have:=hT.inv.fz r b k (BP b k hy)
    exact ⟨this.1,fun hz=>hz.elim this.2 fun ⟨t,ht⟩=>aaZ b k hy t ht⟩
  cm:=fun b k hz=>by
   rcases hz with hz | hz | ⟨t,ht⟩
   ·exact hT.inv.cm b k (.inl hz)
   ·exact hT.inv.cm b k (.inr hz)
   ·exact C.eC _ (t3.ok t) b k ht
  apart:=List.pairwise_append.2 ⟨c4,oD fun x hx=>(l3 x hx).cz,fun x _ y hy b k _ hf=>(l3 y hy).cz b k hf⟩ }
 have o9:=hk w zl _ (cs ++ l) (by rw [List.map_append,c1,l1]) hA (h.GF _ fun b k hz=>.inl hz)
 have q6 : (cs ++ l).map C.val = l'.map a.eval ++ ng:=by rw [List.map_append,c2,l2]
 rw [q6] at o9
 refine ⟨f,_,hrun,o9.mono ?_⟩
 rintro e w' ⟨r0,ps,aD,hD,hkk⟩
 have wQ : i < ps.length:=by
  have h1:=congrArg List.length hD.vals
  have h2:=congrArg List.length q6
  simp only [List.length_map,List.length_append] at h1 h2
  have h3:=(List.getElem?_eq_some_iff.1 i2).1
  omega
 have hq : ps[i]? = some ps[i]:=List.getElem?_eq_getElem wQ
 have Nr : ps[i]∈ps:=List.getElem_mem wQ
 have hqv : (ps[i]).val = y.val:=by
  have : (ps.map C.val)[i]? = (l'.map a.eval ++ ng)[i]?:=by rw [hD.vals,q6]
  rw [List.getElem?_map,hq,List.getElem?_append_left (by simpa using (List.getElem?_eq_some_iff.1 i2).1),List.getElem?_map,i2] at this
  simp only [Option.map_some,Option.some.injEq] at this
  rw [this,NB]
 have hmp : jA as (ps.map C.er) = (ps[i]).er:=by
  rw [i5]
  exact nk (by rw [List.getElem?_map,hq]; rfl) _
 rw [hmp] at hkk
 have BM:=List.mem_cons_of_mem r0 Nr
 have M1 : dV w w' zl aD c.zb G1 r p D y ps[i] (fun b k=>∃ x∈cs ++ l,x.fp b k) (fun b k=>∃ m∈ms,m.fp b k):={
  sub:=hsub
  yD:=Hh
  ext:=hD.ext
  pJ:=fun b k ⟨x,hx,hf⟩=>bV x hx b k hf
  uP:=jv
  DE:=C.fG (fun m b k hz=>by
   cases m with
   | own=>exact hz
   | sl=>exact hz
   | af=>exact hz.imp id fun h=>h.elim) _ (hD.all.ok _ BM)
  bare:=hD.all.bare _ BM
  val:=hqv
  fp:=fun b k hf=>hD.dom _ BM b k hf
  qz:=fun b k hf=>(hD.all.fz _ BM b k hf).1
  z1:=hD.qq
  z2:=hD.qt
  cm:=fun b k hz=>hD.all.cm b k (.inl hz) }
 obtain ⟨s',hKs,G',j1,j2,j3⟩:=aaf M1 _ hkk
 have jw : ∀ b k,(∃ m∈ms,m.fp b k)→∃ t,(G t).fp b k:=fun b k ⟨m,hm,hf⟩=>(hT.all m hm).2.2.2 b k hf
 have o6 : ∀ b k,(∃ x∈cs ++ l,x.fp b k)→∃ t,(G t).fp b k:=fun b k ⟨x,hx,hf⟩=>by
  rcases bV x hx b k hf with hm | hy
  ·exact jw b k hm
  ·exact ⟨r,hT.mono r b k (BP b k hy)⟩
 have h3 : St c G' aD s' a w':=h.after j1 (fun t=>(j2 t).trans (hT.val t)) hD.ext o6 (fun t b k hf=>by
   rcases j3 t b k hf with hq | ⟨⟨u,hu⟩,_⟩
   ·exact (M1.fp b k hq).imp (o6 b k) id
   ·exact .inl ⟨u,hT.mono u b k hu⟩) hD.qq (fun b k hz=>(hD.qt b k hz).imp id fun hh=>hh.imp (o6 b k) id)
 have hrm:=List.mem_cons_self (a:=r0) (l:=ps)
 obtain ⟨G3,h4⟩:=h3.result (x:=r0) o.dst hn (hD.all.ok r0 hrm) (hD.all.bare r0 hrm) (fun t b k hf hf'=>by
   rcases j3 t b k hf' with hq | ⟨⟨u,hu⟩,hny⟩
   ·exact (List.pairwise_cons.1 hD.all.apart).1 _ Nr b k hf hq
   ·rcases hD.dom r0 hrm b k hf with ⟨x,hx,hf⟩ | hb
    ·rcases bV x hx b k hf with hm | hy
     ·exact (jv b k hm).1 u hu
     ·exact hny hy
    ·have:=C.eC _ (hT.inv.ok u) b k hu; omega) (fun b k hf=>⟨(hD.all.fz r0 hrm b k hf).1,fun hz=>by
   rcases hD.dom r0 hrm b k hf with ⟨x,hx,hf⟩ | hb
   ·rcases bV x hx b k hf with hm | hy
    ·exact (jv b k hm).2.2 hz
    ·exact (hT.inv.fz r b k (BP b k hy)).2 hz
   ·have:=hT.inv.cm b k (.inr hz); omega⟩) (fun b k hf=>by
   rcases hD.dom r0 hrm b k hf with hs | hb
   ·obtain ⟨t,ht⟩:=o6 b k hs
    exact h.tr.dom t b k ht
   ·exact .inr (Nat.le_trans h.tr.ext.size hb))
 exact ⟨r0.val,hD.ends,(fun h=>by cases h),G3,aD,_,hKs,h4⟩
end
end M
namespace M
open Go Go.RowKit
variable [Bs]
section
variable {P : Program} {c : Ctx} {G : Nat→C} {zl : Nat→Nat→Prop} {s : ah} {a : Act} {w : World} {o : Oper} {K : ah→Prop}
theorem Gl {x : C} {m : Md} {xs : List X} (h : x.er = .ptr m xs) : ∃ g o n f,x = .ptr m g o n f∧xs = (List.range n).map fun j=>(f j).er:=by
 cases x with
 | ptr m' g o n f =>
  simp only [C.er] at h
  injection h with h1 h2
  subst h1
  exact ⟨g,o,n,f,rfl,h2.symm⟩
 | _=>simp [C.er] at h
theorem adU {m m' : Md} {z z' len len' cap cap' : Nat} {A A' : Option Ad} {e e' : Nat→Nat→C} (h : (C.row m z A len cap e).val = (C.row m' z' A' len' cap' e').val) : A = A'∧len = len'∧cap = cap':=by
 simp only [C.val] at h
 injection h with h1 h2 h3
 refine ⟨?_,h2,h3⟩
 cases A with
 | none=>cases A' with
  | none=>rfl
  | some q=>simp at h1
 | some q=>cases A' with
  | none=>simp at h1
  | some q' =>
   simp only [Option.map_some,Option.some.injEq,Addr.mk.injEq,and_true] at h1
   rw [show q = q' from Prod.ext h1.1 (Prod.ext h1.2.1 h1.2.2)]
theorem OS (n : Nat) (f : Nat→C) {k sz : Nat} (h : k + sz≤n) : ((List.range sz).map fun j=>(f (j + k)).er) = (((List.range n).map fun j=>(f j).er).drop k).take sz:=by
 rw [← List.map_drop,mJ,← List.map_take,← List.map_take,List.take_range,Nat.min_eq_left (by omega),List.map_map]
 rfl
theorem Lr (h : St c G zl s a w) {l' : List Operand} {as : List (AV×PM)} (hc : fN l' as = true) {x : AV} {n : Nat} (mo : di as = some (x,n)) {f : FuncId} {fv : Option AV} (hop : qu P c zl o a w l' f fv) (hn : ∀ n,o.dst = some n→n < c.nt) (hK : qG P f o.dst as fv s K) : oz P c o a w K false:=by
 obtain ⟨k1,k2⟩:=hK
 rw [mo] at k2
 simp only at k2
 obtain ⟨ms,G1,g1,g2,hT⟩:=Du hc h
 have h1:=EN h hT
 rw [← g1] at k1 k2
 have hmb : ∀ m∈ms,m.bare:=fun m hm=>(C.ke m).1 (C.sR.1 k1 _ (List.mem_map_of_mem hm))
 obtain ⟨i,x',i1,i2,i3,i4,i5⟩:=IB hc mo
 obtain ⟨u,u1,u2,u3⟩:=bQ h1 i3
 rw [← u1] at k2
 have hval : ∀ y : C,y.val = u.val→∀ (j : Nat) (x2 : Operand),as[j]? = some (x,PM.mut n)→l'[j]? = some x2→y.val = a.eval x2:=fun y hy j x2 hj hj'=>by
  have:=i4 j x n hj
  subst this
  rw [i2] at hj'
  injection hj' with hj'
  rw [hy,u2,hj']
 cases u with
 | ref v r p =>
  obtain ⟨y',z',hs,hF,hv,m,z1,A,len,cap,e,rfl⟩:=u3.rf
  cases hF with
  | row m m' sz' A len cap e e' =>
   simp only [C.er,placeOf,uH] at k2
   split at k2
   ·rename_i z xs hlk
    obtain ⟨k2,k3,k4⟩:=k2
    simp only [look] at hlk
    rw [← h1.inv.er,C.fI,hs] at hlk
    simp only [Option.map_some,Option.some.injEq] at hlk
    obtain ⟨A2,akO,cap2,e2,he,rfl⟩:=wo hlk
    injection he with b1 b2 b3 b4 b5 b6
    subst b1; subst b2; subst b3; subst b4; subst b5; subst b6
    have hok:=C.gd p hs (h1.inv.ok r)
    refine IC h hc mo hop hn hT g2 hmb hs (y:=.row .own z1 A len cap e') (back:=fun y Kx=>match y with
     | .row .own z' ys=>z' = z1∧Kx (gA r p (.row .own z1 ys) (bJ as s).2)
     | _=>False) hok trivial (hval _ hv) (fun b k hf=>hf) k3 (by rw [hlk]; exact k4) fun {w' aD S M q} hM Kx hb=>?_
    split at hb
    ·rename_i z' ys hq
     obtain ⟨rfl,hb⟩:=hb
     obtain ⟨A3,akP,ajc,e3,rfl,rfl⟩:=wo hq
     obtain ⟨c1,c2,c3⟩:=adU hM.val
     subst c1; subst c2; subst c3
     obtain ⟨G',j1,j2,j3⟩:=hM.row h1.inv
     exact ⟨_,hb,G',j1,j2,j3⟩
    ·exact hb.elim
   ·exact k2.elim
 | aA v r p i k =>
  obtain ⟨D,hs,hp⟩:=u3.rf
  have hok:=C.gd p hs (h1.inv.ok r)
  simp only [C.er,placeOf,uH] at k2
  have hlk : look (bJ as s).2 r p = some D.er:=by
   simp only [look]
   rw [← h1.inv.er,C.fI,hs]
   rfl
  rw [hlk] at k2
  rcases hp with ⟨m,z,g,o',len,cap,e,rfl,rfl⟩ | ⟨m,g,o',nn,f',rfl,rfl,rfl⟩
  ·simp only [C.er] at k2
   cases m with
   | own =>
    simp only [C.cD] at k2
    split at k2
    ·rename_i e0 jK
     split at jK
     ·rename_i hi
      injection jK with jK
      obtain ⟨k0,k2,k3,k4⟩:=k2
      have hkn : k + n≤z:=by rw [← jK] at k0; simpa using k0
      obtain ⟨D1,D2,D3,D4,D5⟩:=hok
      have w6 : (C.ptr .own g (o' + i * z + k) n fun j=>e i (j + k)).er = .ptr .own ((e0.drop k).take n):=by
       rw [← jK,← OS z (fun j=>e i j) hkn]
       rfl
      have hfr : ∀ j,j < z→w.frozen? ⟨g,o' + i * z + j,none⟩ = false∧g < w.heap.size:=fun j hj=>by
       rcases D4 rfl with ⟨hA,_⟩ | ⟨g',o2,arr,t,fz,hA,hh,hsz,hfr⟩
       ·cases hA
       ·injection hA with hA
        injection hA with e1 e2
        injection e2 with e2
        subst e1; subst e2
        refine ⟨hfr _ (by omega) ?_,(Array.getElem?_eq_some_iff.1 hh).1⟩
        have : (i + 1) * z≤cap * z:=Nat.mul_le_mul_right _ (by omega)
        rw [Nat.add_mul] at this
        omega
      have kz : g < w.heap.size:=by
       rcases D4 rfl with ⟨hA,_⟩ | ⟨g',o2,arr,t,fz,hA,hh,hsz,hfr⟩
       ·cases hA
       ·injection hA with hA
        injection hA with e1 e2
        subst e1
        exact (Array.getElem?_eq_some_iff.1 hh).1
      have nE : (C.ptr .own g (o' + i * z + k) n fun j=>e i (j + k)).ok w (Zf zl c.zb):=by
       refine ⟨fun j hj=>⟨?_,fun hm=>(hm rfl).elim,fun _=>?_⟩,kz,fun j hj=>?_,fun j hj b k' hf=>⟨fun _ hb=>?_,fun j' hj' hne=>?_⟩⟩
       ·obtain ⟨g',o2,hA,hcl,_⟩:=D2 i (j + k) hi (by omega)
        injection hA with hA
        injection hA with e1 e2
        injection e2 with e2
        subst e1; subst e2
        rw [show o' + i * z + k + j = o' + i * z + (j + k) by omega]
        exact hcl
       ·rw [show o' + i * z + k + j = o' + i * z + (j + k) by omega]
        exact (hfr (j + k) (by omega)).1
       ·obtain ⟨a1,a2,a3,a4⟩:=D3 i (j + k) hi (by omega)
        exact ⟨a1,a3,a4⟩
       ·exact (D5 i (j + k) hi (by omega) b k' hf).1 rfl o' (by rw [hb.1])
       ·exact (D5 i (j + k) hi (by omega) b k' hf).2 i (j' + k) hi (by omega) (fun e=>by simp only [Prod.mk.injEq] at e; omega)
      refine IC h hc mo hop hn hT g2 hmb hs (back:=fun y Kx=>match y with
       | .ptr .own ys=>ys.length = n∧ga ys = true∧Kx (gA r p (.row .own z ((cU z len e).set i (e0.take k ++ ys ++ e0.drop (k + n)))) (bJ as s).2)
       | _=>False) nE ((C.ke _).1 (by rw [w6]; exact k2)) (hval _ rfl) (fun b k' hf=>?_) k3 (by rw [w6]; exact k4) fun {w' aD S M q} hM Kx hb=>?_
      ·obtain ⟨_,hf | ⟨j,hj,hf⟩⟩:=hf
       ·exact ⟨rfl,.inl ⟨o',by rw [hf.1]⟩⟩
       ·exact ⟨rfl,.inr ⟨i,j + k,hi,by omega,hf⟩⟩
      ·split at hb
       ·rename_i ys hq
        obtain ⟨dh,fQ,GM⟩:=hb
        obtain ⟨g3,o3,n3,f3,rfl,rfl⟩:=Gl hq
        have jO:=hM.val
        simp only [C.val] at jO
        injection jO with jO
        injection jO with jO
        injection jO with c1 c2 c3
        subst c1; subst c2
        have tC : n3 = n:=by simpa using dh
        subst tC
        obtain ⟨G',j1,j2,j3⟩:=hM.elem h1.inv hi hkn (fun j hj=>Py (EA fQ _ (List.mem_map.2 ⟨j,by simpa using hj,rfl⟩)))
        rw [jK] at j1
        exact ⟨_,GM,G',j1,j2,j3⟩
       ·exact hb.elim
     ·cases jK
    ·exact k2.elim
   | sl=>exact k2.elim
   | af=>exact k2.elim
  ·simp only [C.er] at k2
   cases m with
   | own =>
    obtain ⟨k0,k2,k3,k4⟩:=k2
    have hkn : k + n≤nn:=by simpa using k0
    obtain ⟨D1,D2,D3,D4⟩:=hok
    have w6 : (C.ptr .own g (o' + k) n fun j=>f' (j + k)).er = .ptr .own ((((List.range nn).map fun j=>(f' j).er).drop k).take n):=by
     rw [← OS nn f' hkn]
     rfl
    have nE : (C.ptr .own g (o' + k) n fun j=>f' (j + k)).ok w (Zf zl c.zb):=by
     refine ⟨fun j hj=>⟨?_,fun hm=>(hm rfl).elim,fun _=>?_⟩,D2,fun j hj=>D3 (j + k) (by omega),fun j hj b k' hf=>⟨fun _ hb=>?_,fun j' hj' hne=>?_⟩⟩
     ·rw [show o' + k + j = o' + (j + k) by omega]
      exact (D1 (j + k) (by omega)).1
     ·rw [show o' + k + j = o' + (j + k) by omega]
      exact (D1 (j + k) (by omega)).2.2 rfl
     ·exact (D4 (j + k) (by omega) b k' hf).1 rfl ⟨hb.1,by omega,by omega⟩
     ·exact (D4 (j + k) (by omega) b k' hf).2 (j' + k) (by omega) (by omega)
    refine IC h hc mo hop hn hT g2 hmb hs (back:=fun y Kx=>match y with
     | .ptr .own ys=>ys.length = n∧Kx (gA r p (.ptr .own (((List.range nn).map fun j=>(f' j).er).take k ++ ys ++ ((List.range nn).map fun j=>(f' j).er).drop (k + n))) (bJ as s).2)
     | _=>False) nE ((C.ke _).1 (by rw [w6]; exact k2)) (hval _ rfl) (fun b k' hf=>?_) k3 (by rw [w6]; exact k4) fun {w' aD S M q} hM Kx hb=>?_
    ·obtain ⟨_,hf | ⟨j,hj,hf⟩⟩:=hf
     ·exact ⟨rfl,.inl ⟨hf.1,by omega,by omega⟩⟩
     ·exact ⟨rfl,.inr ⟨j + k,by omega,hf⟩⟩
    ·split at hb
     ·rename_i ys hq
      obtain ⟨dh,GM⟩:=hb
      obtain ⟨g3,o3,n3,f3,rfl,rfl⟩:=Gl hq
      have jO:=hM.val
      simp only [C.val] at jO
      injection jO with jO
      injection jO with jO
      injection jO with c1 c2 c3
      subst c1; subst c2
      have tC : n3 = n:=by simpa using dh
      subst tC
      obtain ⟨G',j1,j2,j3⟩:=hM.ptr h1.inv hkn
      exact ⟨_,GM,G',j1,j2,j3⟩
     ·exact hb.elim
   | sl=>exact k2.elim
   | af=>exact k2.elim
 | _=>exact k2.elim
theorem Gw {f : FuncId} (h : ak P f = true) : ∃ fn,P.funcs[f]? = some fn∧(fn.name == "runtime.NumGoroutine") = false∧fn.body.isNone = false:=by
 unfold ak at h
 split at h
 ·rename_i fn hf
  simp only [Bool.and_eq_true,Bool.not_eq_true'] at h
  exact ⟨fn,hf,h.1,h.2⟩
 ·cases h
theorem acX (h : St c G zl s a w) {f : FuncId} {fn : Func} {as' : Array Operand} {as : List (AV×PM)} {ts : Array TypeId} (ho : o.op = .call { callee:=.value (.func f),args:=as',argTypes:=ts }) (hf : P.funcs[f]? = some fn) (hname : (fn.name == "runtime.NumGoroutine") = false) (hb : fn.body.isNone = false)
  (hn : ∀ n,o.dst = some n→n < c.nt) (hc : fN as'.toList as = true) (hK : aN P (.call o.dst f as) s K) : oz P c o a w K (iy as):=by
 have hop : qu P c zl o a w as'.toList f none:=⟨[],by
  simp only [execOp,ho,resolve,Act.eval,Deferred.ofValue,Sem.run_bind,Sem.run_pure,Result.andThen_ok,invoke,I8 hf hname hb]
  congr 2
  apply Array.ext'
  simp,fun _ _ _ _=>⟨[],rfl,rfl,fun _ hx=>(by cases hx)⟩⟩
 cases hm : di as with
 | none=>exact Ls _ h hc hm hop (fun h=>h) hn hK
 | some q =>
  have hq : iy as = false:=by
   cases hq : iy as with
   | false=>rfl
   | true=>rw [uI hq] at hm; cases hm
  rw [hq]
  exact Lr h hc hm hop hn hK
theorem acZ (h : St c G zl s a w) {x : AV} {x' : Operand} {as' : Array Operand} {as : List (AV×PM)} {ts : Array TypeId} (ho : o.op = .call { callee:=.value x',args:=as',argTypes:=ts }) (hx : aK x' x = true)
  (hn : ∀ n,o.dst = some n→n < c.nt) (hc : fN as'.toList as = true) (hK : aN P (.jl o.dst x as) s K) : oz P c o a w K (iy as):=by
 simp only [aN] at hK
 split at hK
 ·rename_i f cs he
  obtain ⟨hf,hK⟩:=hK
  obtain ⟨fn,hf1,iI,hf3⟩:=Gw hf
  obtain ⟨p,p1,p2,p3⟩:=bQ h hx
  rw [he] at p1
  cases p with
  | fn g n fc =>
   simp only [C.er,X.fn.injEq] at p1
   obtain ⟨rfl,p1⟩:=p1
   have hop : qu P c zl o a w as'.toList g (some x):=⟨(List.range n).map fun j=>(fc j).val,by
    simp only [execOp,ho,resolve,← p2,C.val,Deferred.ofValue,Sem.run_bind,Sem.run_pure,Result.andThen_ok,invoke,I8 hf1 iI hf3]
    congr 2
    apply Array.ext'
    simp,fun {G2 s2 bu} h2 hb hG hi=>by
    simp only [oJ] at hi
    split at hi
    ·rename_i g' cs' he'
     subst hi
     obtain ⟨l,l1,l2,l3⟩:=Vv h2 hb hG hx he'
     refine ⟨l,l1,?_,l3⟩
     rw [← p2] at l2
     simp only [C.val,Value.func.injEq,true_and] at l2
     exact (Array.mk.injEq _ _ ▸ l2 : _).symm
    ·exact hi.elim⟩
   cases hm : di as with
   | none=>exact Ls _ h hc hm hop (fun h=>h) hn hK
   | some q =>
    have hq : iy as = false:=by
     cases hq : iy as with
     | false=>rfl
     | true=>rw [uI hq] at hm; cases hm
    rw [hq]
    exact Lr h hc hm hop hn hK
  | _=>simp [C.er] at p1
 ·exact hK.elim
end
end M
namespace M
open Go Go.RowKit
variable [Bs]
section
variable {P : Program} {c : Ctx} {G : Nat→C} {zl : Nat→Nat→Prop} {s : ah} {a : Act} {w : World} {o : Oper} {K : ah→Prop}
theorem aec {x : C} (hc : x.cell) (hs : M.cA x.er = true) : x.plain:=by
 cases x <;> first | trivial | exact hc | (simp [C.er,M.cA] at hs)
theorem adx {x : C} (h : x.plain) : x.bare:=by
 cases x <;> first | trivial | exact h.elim
theorem aeb {l : List X} (h : ga l = true) : ∀ x∈l,M.cA x = true:=by
 induction l with
 | nil=>intro x hx; cases hx
 | cons a l ih =>
  simp only [ga,Bool.and_eq_true] at h
  intro x hx
  rcases List.mem_cons.1 hx with rfl | hx
  ·exact h.1
  ·exact ih h.2 x hx
theorem E7 : ∀ {l' : List Operand} {l : List (AV×PM)},fN l' l = true→iy l = true→MV a l' l (l.map fun _=>.dead undef)
 | [],[],_,_=>trivial
 | x' :: l',(x,.af) :: l,hc,hq=>E7 (l':=l') (l:=l) (by simp only [fN,Bool.and_eq_true] at hc; exact hc.2) hq
 | x' :: l',(x,.gD n) :: l,hc,hq=>E7 (l':=l') (l:=l) (by simp only [fN,Bool.and_eq_true] at hc; exact hc.2) hq
 | x' :: l',(x,.mv) :: l,hc,hq=>by cases hq
 | x' :: l',(x,.mut _) :: l,hc,hq=>by cases hq
 | [],_ :: _,hc,_=>by cases hc
 | _ :: _,[],hc,_=>by cases hc
theorem Vu (h : St c G zl s a w) {x' : Operand} {l' : List Operand} {x : AV} {as : List (AV×PM)} (hx : aK x' x = true) (hc : fN l' as = true) (hq : iy as = true) {f : FuncId} (hop : qu P c zl o a w (x' :: l') f none) (hn : ∀ n,o.dst = some n→n < c.nt) (hK : aN P (.oH o.dst f x as) s K) : oz P c o a w K false:=by
 obtain ⟨p,p1,p2,p3⟩:=bQ h hx
 simp only [aN] at hK
 rw [← p1] at hK
 cases p with
 | agg n f0 =>
  have per : (C.agg n f0).er = .agg (((List.range n).map f0).map C.er):=by simp only [C.er,List.map_map]; rfl
  rw [per] at hK
  simp only at hK
  obtain ⟨k1,k3⟩:=hK
  have hcells : ∀ c'∈(List.range n).map f0,vM w zl c.zb G c':=fun c' jb=>by
   obtain ⟨j,hj,rfl⟩:=List.mem_map.1 jb
   have hj' : j < n:=by simpa using hj
   exact ⟨(p3.ok.1 j hj').1,(p3.ok.1 j hj').2,fun b k hf=>p3.cz b k ⟨j,hj',hf⟩,fun v r p e=>Ah (by rw [← e]; exact p3.rf j hj')⟩
  obtain ⟨l0,G1,e1,e2,e3,e4,e5⟩:=Ab _ G s h.inv hcells
  obtain ⟨ng,hrun,wI⟩:=hop.run
  have h1:=EN h e4
  rw [← e1] at k1 k3
  have iJ : ∀ b k,c.zb b k→(c.zb b k∨∃ t,(G1 t).fp b k):=fun b k hz=>.inl hz
  have pF : ∀ t b k,(G1 t).fp b k→(c.zb b k∨∃ t,(G1 t).fp b k):=fun t b k hf=>.inr ⟨t,hf⟩
  obtain ⟨l,q1,q2,q3⟩:=wI h1 iJ pF trivial
  have hl0 : l = []:=by simpa [l6] using q1
  subst hl0
  have hcap : ng = []:=by simpa using q2.symm
  subst hcap
  obtain ⟨wg,r1,r2,r3,r4⟩:=AJ h1 iJ pF (y:=.dead undef) trivial trivial hc (E7 hc hq) (fun x hx=>by
   obtain ⟨_,_,rfl⟩:=List.mem_map.1 hx
   exact ⟨trivial,trivial,fun b k hf=>hf.elim⟩) (oD fun x hx=>by
   obtain ⟨_,_,rfl⟩:=List.mem_map.1 hx
   exact fun b k hf=>hf) (fun i x n x' hi _=>by
    exfalso
    have hno:=uI hq
    have : ∀ {l : List (AV×PM)} {i : Nat},l[i]? = some (x,PM.mut n)→di l≠none:=by
     intro l
     induction l with
     | nil=>intro i hi; simp at hi
     | cons y l ih =>
      intro i hi
      obtain ⟨y,pm⟩:=y
      cases i with
      | zero =>
       simp only [List.getElem?_cons_zero,Option.some.injEq,Prod.mk.injEq] at hi
       obtain ⟨_,rfl⟩:=hi
       simp [di]
      | succ i =>
       have:=ih (by simpa using hi)
       cases pm <;> simp [di] <;> first | exact this | skip
    exact this hi hno)
  have BI : ∀ x∈wg,∀ b k,¬ x.fp b k:=fun x hx b k hf=>by
   rcases (r3 x hx).2.2 b k hf with ⟨m,hm,hh⟩ | ⟨hh,_⟩
   ·obtain ⟨_,_,rfl⟩:=List.mem_map.1 hm
    exact hh
   ·rw [uI hq] at hh; cases hh
  have nD : l0.length = n:=by have:=congrArg List.length e2; simpa using this
  have NA : ∀ b k,(fL l0).fp b k→∃ m∈l0,m.fp b k:=fun b k hf=>(oB _ _ _).1 hf
  have hpl : ∀ x∈l0,x.ok w (Zf zl fun b k=>c.zb b k∨∃ t,(G1 t).fp b k):=fun x hx=>C.fG (fun m b k hz=>by
   cases m with
   | own=>exact hz
   | sl=>exact hz
   | af=>exact hz.imp id .inl) _ (e4.all x hx).1
  have hA : ou w zl (fun b k=>c.zb b k∨∃ t,(G1 t).fp b k) (fL l0 :: wg):={
   ok:=fun x hx=>by
    rcases List.mem_cons.1 hx with rfl | hx
    ·exact ⟨fun j hj=>⟨C.jX (e3 _ (cv hj _)),hpl _ (cv hj _)⟩,fun j hj b k hf j' hj' hne=>uR e4.apart _ hj hj' hne hf⟩
    ·exact (r3 x hx).1
   bare:=fun x hx=>by
    rcases List.mem_cons.1 hx with rfl | hx
    ·exact fun j hj=>adx (e3 _ (cv hj (C.dead undef)))
    ·exact (r3 x hx).2.1
   fz:=fun x hx b k hf=>by
    rcases List.mem_cons.1 hx with rfl | hx
    ·obtain ⟨m,hm,hf⟩:=NA b k hf
     exact ⟨((e4.all m hm).2.2.1 b k hf).1,fun hz=>hz.elim ((e4.all m hm).2.2.1 b k hf).2 fun ⟨t,ht⟩=>(e4.all m hm).2.1 t b k hf ht⟩
    ·exact (BI x hx b k hf).elim
   cm:=fun b k hz=>by
    rcases hz with hz | hz | ⟨t,ht⟩
    ·exact e4.inv.cm b k (.inl hz)
    ·exact e4.inv.cm b k (.inr hz)
    ·exact C.eC _ (e4.inv.ok t) b k ht
   apart:=List.pairwise_cons.2 ⟨fun x hx b k _ hf=>BI x hx b k hf,oD BI⟩ }
  have o9:=k3 w zl _ (fL l0 :: wg) (by
   rw [List.map_cons,r1,sI]
   simp only [List.map_map]
   rfl) hA (h1.GF _ fun b k hz=>.inl hz)
  have NC : (fL l0).val = a.eval x':=by rw [vN,e2,← p2]; simp only [C.val,List.map_map]; rfl
  have q6 : (fL l0 :: wg).map C.val = (x' :: l').map a.eval ++ []:=by rw [List.map_cons,NC,r2]; simp
  rw [q6] at o9
  refine ⟨f,_,hrun,o9.mono ?_⟩
  rintro e w' ⟨r,ps,aD,hD,hk⟩
  have hin : ∀ b k,aD b k→b < w'.heap.size:=fun b k hz=>hD.all.cm b k (.inl hz)
  have jv : ∀ b k,(∃ m∈l0,m.fp b k)→(∀ t,¬ (G1 t).fp b k)∧¬ zl b k∧¬ c.zb b k:=fun b k ⟨m,hm,hf⟩=>⟨fun t=>(e4.all m hm).2.1 t b k hf,(e4.all m hm).2.2.1 b k hf⟩
  have jH : ∀ b k,(∃ x∈fL l0 :: wg,x.fp b k)→∃ m∈l0,m.fp b k:=fun b k ⟨x,hx,hf⟩=>by
   rcases List.mem_cons.1 hx with rfl | hx
   ·exact NA b k hf
   ·exact (BI x hx b k hf).elim
  have w9 : ∀ b k,aD b k→zl b k∨(∃ m∈l0,m.fp b k)∨w.heap.size≤b:=fun b k hz=>(hD.qt b k hz).imp id fun hh=>hh.imp (jH b k) id
  have hi:=e4.inv.KH hD.ext (fun b k hs=>jv b k (jH b k hs)) hD.qq (fun b k hz=>⟨hin b k hz,fun t hf=>by
   rcases w9 b k hz with hz | hm | hb
   ·exact (e4.inv.fz t b k hf).1 hz
   ·exact (jv b k hm).1 t hf
   ·have:=C.eC _ (e4.inv.ok t) b k hf; omega⟩)
  have jw : ∀ b k,(∃ m∈l0,m.fp b k)→∃ t,(G t).fp b k:=fun b k ⟨m,hm,hf⟩=>(e4.all m hm).2.2.2 b k hf
  have BK : ∀ x∈r :: ps,∀ b k,x.fp b k→(∃ m∈l0,m.fp b k)∨w.heap.size≤b:=fun x hx b k hf=>(hD.dom x hx b k hf).imp (jH b k) id
  have Nn : ∀ x∈r :: ps,∀ t b k,x.fp b k→¬ (G1 t).fp b k:=fun x hx t b k hf hf'=>by
   rcases BK x hx b k hf with hm | hb
   ·exact (jv b k hm).1 t hf'
   ·have:=C.eC _ (e4.inv.ok t) b k hf'; omega
  have Nq : ∀ x∈r :: ps,∀ b k,x.fp b k→¬ aD b k∧¬ c.zb b k:=fun x hx b k hf=>⟨(hD.all.fz x hx b k hf).1,fun hz=>by
   rcases BK x hx b k hf with hm | hb
   ·exact (jv b k hm).2.2 hz
   ·have:=e4.inv.cm b k (.inr hz); omega⟩
  cases ps with
  | nil=>exact hk.elim
  | cons p0 ps =>
   cases p0 with
   | agg n0 g0 =>
    simp only [List.map_cons,C.er] at hk
    obtain ⟨j1,s',j2,j3⟩:=hk
    have BJ : (C.agg n0 g0)∈r :: C.agg n0 g0 :: ps:=List.mem_cons_of_mem _ (List.mem_cons_self ..)
    have hv0 : (C.agg n0 g0).val = (C.agg n f0).val:=by
     have:=congrArg List.head? hD.vals
     simp only [List.map_cons,List.head?_cons,Option.some.injEq] at this
     rw [this,NC,p2]
    simp only [C.val,Value.agg.injEq,Array.mk.injEq,List.toArray_inj] at hv0
    have ig : n0 = n:=by have:=congrArg List.length hv0; simpa using this
    subst ig
    have G8:=hD.all.ok _ BJ
    have BF : ∀ y∈(List.range n0).map g0,∀ b k,y.fp b k→(C.agg n0 g0).fp b k:=fun y hy b k hf=>by
     obtain ⟨j,hj,rfl⟩:=List.mem_map.1 hy
     exact ⟨j,by simpa using hj,hf⟩
    rw [show ((List.range n0).map fun j=>(g0 j).er) = ((List.range n0).map g0).map C.er by simp only [List.map_map]; rfl] at j1 j2
    obtain ⟨G2,g1,g2,g3⟩:=AL ((List.range n0).map f0) ((List.range n0).map g0) hi (by simp) (fun v r p hm=>e5 v r p ((hcells _ hm).weak v r p rfl)) (fun i cc y hi1 hi2=>by
     have hy : y∈(List.range n0).map g0:=List.mem_of_getElem? hi2
     obtain ⟨j,hj,rfl⟩:=List.mem_map.1 hy
     have hj' : j < n0:=by simpa using hj
     refine ⟨aec (G8.1 j hj').1 (aeb j1 _ (List.mem_map_of_mem hy)),?_,C.fG (fun m b k hz=>by
      cases m with
      | own=>exact hz
      | sl=>exact hz
      | af=>exact hz.imp id fun h=>h.elim) _ (G8.1 j hj').2⟩
     have:=congrArg (fun t : List Value=>t[i]?) hv0
     rw [show ((List.range n0).map fun j=>(g0 j).val) = ((List.range n0).map g0).map C.val by simp only [List.map_map]; rfl,show ((List.range n0).map fun j=>(f0 j).val) = ((List.range n0).map f0).map C.val by simp only [List.map_map]; rfl,List.getElem?_map (l:=(List.range n0).map g0),List.getElem?_map (l:=(List.range n0).map f0),hi1,hi2] at this
     simpa using this) (fun y hy=>⟨fun t b k hf=>Nn _ BJ t b k (BF y hy b k hf),fun b k hf=>Nq _ BJ b k (BF y hy b k hf)⟩) (by
     rw [List.pairwise_map]
     refine List.Pairwise.imp_of_mem ?_ List.nodup_range
     intro i j hi hj hne b k hf
     exact G8.2 i (by simpa using hi) b k hf j (by simpa using hj) hne) j2
    have w5 : ∀ b k,(∃ y∈(List.range n0).map g0,y.fp b k)→(∃ m∈l0,m.fp b k)∨w.heap.size≤b:=fun b k ⟨y,hy,hf⟩=>BK _ BJ b k (BF y hy b k hf)
    have h2 : St c G2 aD s' a w':=h.after g1 (fun t=>(g2 t).trans (e4.val t)) hD.ext (fun b k hs=>jw b k (jH b k hs)) (fun t b k hf=>by
     rcases g3 t b k hf with hh | hh
     ·exact .inl ⟨t,e4.mono t b k hh⟩
     ·exact (w5 b k hh).imp (jw b k) id) hD.qq (fun b k hz=>(w9 b k hz).imp id fun hh=>hh.imp (jw b k) id)
    have hr : r∈r :: C.agg n0 g0 :: ps:=List.mem_cons_self ..
    obtain ⟨G3,h3⟩:=h2.result (x:=r) o.dst hn (hD.all.ok r hr) (hD.all.bare r hr) (fun t b k hf hf'=>by
      rcases g3 t b k hf' with hh | ⟨y,hy,hh⟩
      ·exact Nn r hr t b k hf hh
      ·exact (List.pairwise_cons.1 hD.all.apart).1 _ (List.mem_cons_self ..) b k hf (BF y hy b k hh)) (Nq r hr) (fun b k hf=>by
      rcases BK r hr b k hf with hm | hb
      ·obtain ⟨t,ht⟩:=jw b k hm
       exact h.tr.dom t b k ht
      ·exact .inr (Nat.le_trans h.tr.ext.size hb))
    exact ⟨r.val,hD.ends,fun G9=>by (cases G9),G3,aD,_,j3,h3⟩
   | _=>exact hk.elim
 | _=>exact hK.elim
theorem acY (h : St c G zl s a w) {f : FuncId} {fn : Func} {as' : Array Operand} {x : AV} {x' : Operand} {l' : List Operand} {as : List (AV×PM)} {ts : Array TypeId} (ho : o.op = .call { callee:=.value (.func f),args:=as',argTypes:=ts }) (hl : as'.toList = x' :: l') (hf : P.funcs[f]? = some fn) (hname : (fn.name == "runtime.NumGoroutine") = false) (hb : fn.body.isNone = false)
  (hn : ∀ n,o.dst = some n→n < c.nt) (hx : aK x' x = true) (hc : fN l' as = true) (hq : iy as = true) (hK : aN P (.oH o.dst f x as) s K) : oz P c o a w K false:=by
 have hop : qu P c zl o a w (x' :: l') f none:=⟨[],by
  simp only [execOp,ho,resolve,Act.eval,Deferred.ofValue,Sem.run_bind,Sem.run_pure,Result.andThen_ok,invoke,I8 hf hname hb]
  rw [← hl]
  congr 2
  apply Array.ext'
  simp,fun _ _ _ _=>⟨[],rfl,rfl,fun _ hx=>(by cases hx)⟩⟩
 exact Vu h hx hc hq hop hn hK
end
end M
namespace M
open Go Go.RowKit
variable [Bs]
section
variable {P : Program} {ops : Array Oper} {Q : Exit→Act→World→Prop}
def wpAnyQ (P : Program) (ops : Array Oper) (quiet : Nat→Bool) (Q : Exit→Act→World→Prop) : Nat→Array Bool→Act→World→Prop
 | 0,listed,a,w=>Region.ready .any ops listed = []∧Q .normal a w
 | fuel + 1,listed,a,w=>(Region.ready .any ops listed = []→Q .normal a w) ∧
  ∀ i∈Region.ready .any ops listed,wpOp P ops Q i (fun a' w'=>Rel (quiet i) w w'∧wpAnyQ P ops quiet Q fuel (listed.setIfInBounds i true) a' w') a w
theorem wpAnyQ.any {quiet : Nat→Bool} : ∀ {fuel : Nat} {listed : Array Bool} {a : Act} {w : World},wpAnyQ P ops quiet Q fuel listed a w→wpAny P .any ops Q fuel listed a w
 | 0,_,_,_,h=>h
 | fuel + 1,_,_,_,h=>⟨h.1,fun i hi=>wpOp_mono (fun _ _ h=>h.2.any) (h.2 i hi)⟩
def lZ (P : Program) (ops : Array Oper) (o : Oper) (v : Value) (a : Act) (w : World) : Prop :=
 (Region.wanted o (yielded ops a.tmps) = true∧∀ w',Ext (fun _ _=>False) w w'→(execOp a.eval o).run P w' = .ok (.value v) w') ∨
 (Region.wanted o (yielded ops a.tmps) = false∧v = undef)
theorem lZ.wpOp {i : Nat} {o : Oper} {v : Value} {a : Act} {w : World} (hi : ops[i]? = some o) (hy : lZ P ops o v a w) {K : Act→World→Prop} (h : K (a.put o.dst v) w) : wpOp P ops Q i K a w:=by
 unfold Go.wpOp
 simp only [hi]
 rcases hy with ⟨hw,hv⟩ | ⟨hw,rfl⟩
 ·simp only [hw,if_true,Oper.wp,hv w (Ext.refl _ _),Oper.upon]; exact .inl h
 ·simp only [hw,Bool.false_eq_true,if_false]; exact h
def ox (P : Program) (ops : Array Oper) (o : Oper) (v : Value) (a : Act) : Prop :=
 (Region.wanted o (yielded ops a.tmps) = true∧∀ w',(execOp a.eval o).run P w' = .ok (.value v) w') ∨
 (Region.wanted o (yielded ops a.tmps) = false∧v = undef)
theorem ox.later {o : Oper} {v : Value} {a : Act} (h : ox P ops o v a) (w : World) : lZ P ops o v a w:=h.imp (fun h=>⟨h.1,fun w' _=>h.2 w'⟩) id
def AB (ops : Array Oper) (o : Oper) (a a' : Act) : Prop:=execOp a'.eval o = execOp a.eval o∧Region.wanted o (yielded ops a'.tmps) = Region.wanted o (yielded ops a.tmps)
theorem lZ.same {o : Oper} {v : Value} {a a' : Act} {w w' : World} (hy : lZ P ops o v a w) (h : AB ops o a a') (hE : Ext (fun _ _=>False) w w') : lZ P ops o v a' w':=by
 unfold lZ
 rw [h.1,h.2]
 exact hy.imp (fun hh=>⟨hh.1,fun w2 h2=>hh.2 w2 (hE.trans h2 fun _ _ h _=>h)⟩) id
theorem ox.same {o : Oper} {v : Value} {a a' : Act} (hy : ox P ops o v a) (h : AB ops o a a') : ox P ops o v a':=by
 unfold ox
 rw [h.1,h.2]
 exact hy
theorem Qj {j : Nat} {oi oj : Oper} {v : Value} (hj : ops[j]? = some oj) (hap : oi.apart ops oj = true) (hsi : ∀ cs b,oi.op≠.select cs b) (hsj : ∀ cs b,oj.op≠.select cs b)
  (hQ : ∀ c a w,Q (.panic c) (a.put oi.dst v) w→Q (.panic c) a w) {K : Act→World→Prop} {a : Act} {w : World} (h : wpOp P ops Q j K (a.put oi.dst v) w) :
  wpOp P ops Q j (fun a' w'=>AB ops oi a a'∧K (a'.put oi.dst v) w') a w:=by
 obtain ⟨h1,h2,h3⟩:=Oper.apart_spec hap
 have keep : ∀ u,AB ops oi a (a.put oj.dst u):=fun u=>⟨execOp_put oi hsi a oj.dst u h3,wanted_put oi a oj.dst u h3⟩
 have put : ∀ u,(a.put oj.dst u).put oi.dst v = (a.put oi.dst v).put oj.dst u:=fun u=>(Act.put_comm a v u h2).symm
 unfold Go.wpOp at *
 simp only [hj] at *
 rw [wanted_put oj a oi.dst v h1] at h
 by_cases hw : Region.wanted oj (yielded ops a.tmps) = true
 ·rw [if_pos hw] at h ⊢
  have ku : execOp (a.put oi.dst v).eval oj = execOp a.eval oj:=execOp_put oj hsj a oi.dst v h1
  refine h.imp (fun h=>?_) fun h=>⟨?_,h.2⟩
  ·unfold Oper.wp at *
   rw [ku] at h
   generalize (execOp a.eval oj).run P w = r at h ⊢
   match r,h with
   | .ok (.value u) w',h=>exact ⟨keep u,by rw [put]; exact h⟩
   | .ok .skip w',h=>exact ⟨keep _,by rw [put]; exact h⟩
   | .ok (.defer d) w',h =>
    refine ⟨by
     have k:=keep undef
     unfold Act.put at *
     cases hd : oj.dst <;> rw [hd] at k <;> exact ⟨k.1,k.2⟩,?_⟩
    have h' : K (({ a.put oi.dst v with defers:=d :: (a.put oi.dst v).defers } : Act).put oj.dst undef) w':=h
    rw [Act.put_defers,Act.put_comm _ v undef h2] at h'
    exact h'
   | .ok (.enter f args) w',h =>
    refine Calls.mono h fun e w'' he=>?_
    match e,he with
    | .returned u,he=>exact ⟨keep u,by rw [put]; exact he⟩
    | .panicked c,he=>exact hQ _ _ _ he
    | .outgrown,he=>exact he
   | .ok (.row row args) w',h=>exact Rows.mono h fun u w'' he=>⟨keep u,by rw [put]; exact he⟩
   | .halt (.panic u) w',h=>exact hQ _ _ _ h
  ·have:=h.1
   unfold Oper.asks at this ⊢
   rwa [ku] at this
 ·rw [if_neg hw] at h ⊢
  exact ⟨keep _,by rw [put]; exact h⟩
def Down (ops : Array Oper) (listed : Array Bool) : Prop:=∀ k ok,ops[k]? = some ok→listed.getD k false = true→∀ e∈ok.after,Region.binds .any e = true→listed.getD e.on false = true
def s8 (ops : Array Oper) (t : Nat→Nat→Bool) : Bool:=(List.range ops.size).all fun j=>(List.range ops.size).all fun i=>!t j i || (match ops[j]? with
 | some oj=>oj.after.any fun e=>Region.binds .any e && (e.on == i || (decide (e.on < j) && t e.on i))
 | none=>false)
theorem IV {t : Nat→Nat→Bool} (jb : s8 ops t = true) {listed : Array Bool} (hd : Down ops listed) {i : Nat} (hi : listed.getD i false = false) : ∀ (n j : Nat),j < n→j < ops.size→i < ops.size→(∀ oj,ops[j]? = some oj→∀ e∈oj.after,Region.binds .any e = true→listed.getD e.on false = true)→t j i = false
 | 0,j,hj,_,_,_=>by omega
 | n + 1,j,hj,BG,Ni,hall=>by
  cases ht : t j i with
  | false=>rfl
  | true =>
   exfalso
   have hc:=jb
   simp only [s8,List.all_eq_true,List.mem_range] at hc
   have h1:=hc j BG i Ni
   rw [ht] at h1
   simp only [Bool.not_true,Bool.false_or] at h1
   split at h1
   ·rename_i oj fD
    obtain ⟨e,he,hb⟩:=Array.any_eq_true'.1 h1
    simp only [Bool.and_eq_true,Bool.or_eq_true,beq_iff_eq,decide_eq_true_eq] at hb
    have hl:=hall oj fD e he hb.1
    rcases hb.2 with h2 | ⟨h2,h3⟩
    ·rw [h2,hi] at hl; cases hl
    ·have:=IV jb hd hi n e.on (by omega) (by omega) Ni (fun oe hoe e' he' hb'=>hd e.on oe hoe hl e' he' hb')
     rw [this] at h3; cases h3
   ·cases h1
theorem Down.set {listed : Array Bool} (h : Down ops listed) {j : Nat} {oj : Oper} (hj : ops[j]? = some oj) (hall : ∀ e∈oj.after,Region.binds .any e = true→listed.getD e.on false = true) : Down ops (listed.setIfInBounds j true):=by
 intro k ok hk hl e he hb
 by_cases hjk : j = k
 ·subst hjk
  rw [hj] at hk
  injection hk with hk
  subst hk
  exact getD_set_true (hall e he hb)
 ·rw [getD_set_ne false hjk] at hl
  exact getD_set_true (h k ok hk hl e he hb)
theorem wpAnyQ_first {quiet : Nat→Bool} {i : Nat} {oi : Oper} {v : Value} (hi : ops[i]? = some oi) (hsel : ∀ (j : Nat) (o : Oper) cs b,ops[j]? = some o→o.op≠.select cs b) (hQ : ∀ c a w,Q (.panic c) (a.put oi.dst v) w→Q (.panic c) a w) {t : Nat→Nat→Bool} (jx : s8 ops t = true) :
  ∀ (fuel : Nat) (listed : Array Bool) (a : Act) (w : World),
   Down ops listed→(∀ j oj,ops[j]? = some oj→j≠i→listed.getD j true = false→t j i = false→oi.apart ops oj = true∧quiet j = true) →
   i∈Region.ready .any ops listed→lZ P ops oi v a w →
   wpAnyQ P ops quiet Q fuel (listed.setIfInBounds i true) (a.put oi.dst v) w→wpAnyQ P ops quiet Q (fuel + 1) listed a w:=by
 intro fuel
 induction fuel with
 | zero =>
  intro listed a w _ _ hr hy H
  refine ⟨fun h=>(by rw [h] at hr; cases hr),fun j hj=>?_⟩
  by_cases hji : j = i
  ·subst hji; exact hy.wpOp hi ⟨Rel.refl _ _,H⟩
  ·have:=ready_mono hj hji
   rw [H.1] at this
   cases this
 | succ fuel ih =>
  intro listed a w wK hfree hr hy H
  refine ⟨fun h=>(by rw [h] at hr; cases hr),fun j hj=>?_⟩
  by_cases hji : j = i
  ·subst hji; exact hy.wpOp hi ⟨Rel.refl _ _,H⟩
  ·have h1:=H.2 j (ready_mono hj hji)
   obtain ⟨wR,oj,fD,hall⟩:=mem_ready.1 hj
   have hi0 : listed.getD i false = false:=by
    have h0:=(mem_ready.1 hr).1
    rcases Nat.lt_or_ge i listed.size with h' | h'
    ·simpa [h'] using h0
    ·simp [Array.getElem?_eq_none h']
   have hnot : t j i = false:=IV jx wK hi0 (j + 1) j (by omega) (Array.getElem?_eq_some_iff.1 fD).1 (Array.getElem?_eq_some_iff.1 hi).1 (fun oj' nC e he hb=>by
    rw [fD] at nC
    injection nC with nC
    rw [← nC] at he
    exact hall e he hb)
   obtain ⟨hap,hqu⟩:=hfree j oj fD hji wR hnot
   have h2:=Qj fD hap (fun cs b=>hsel i oi cs b hi) (fun cs b=>hsel j oj cs b fD) hQ h1
   have GX : ∀ k ok,ops[k]? = some ok→k≠i→(listed.setIfInBounds j true).getD k true = false →
     t k i = false→oi.apart ops ok = true∧quiet k = true:=fun k ok hk hki hun hno=>by
    refine hfree k ok hk hki ?_ hno
    by_cases hjk : j = k
    ·subst hjk; exact wR
    ·rw [getD_set_ne true hjk] at hun; exact hun
   refine wpOp_mono (fun a' w' ⟨hsame,hrel,h3⟩=>⟨hrel,ih (listed.setIfInBounds j true) a' w' (wK.set fD hall) GX (ready_mono hr (Ne.symm hji)) (hy.same hsame (hrel hqu)) ?_⟩) h2
   rw [Array.setIfInBounds_comm _ _ hji]
   exact h3
theorem aih {quiet : Nat→Bool} {i : Nat} {oi : Oper} {v : Value} (hi : ops[i]? = some oi) (hsel : ∀ (j : Nat) (o : Oper) cs b,ops[j]? = some o→o.op≠.select cs b) (hQ : ∀ c a w,Q (.panic c) (a.put oi.dst v) w→Q (.panic c) a w) {t : Nat→Nat→Bool} (jx : s8 ops t = true) :
  ∀ (fuel : Nat) (listed : Array Bool) (a : Act) (w : World),
   Down ops listed→(∀ j oj,ops[j]? = some oj→j≠i→listed.getD j true = false→t j i = false→oi.apart ops oj = true) →
   i∈Region.ready .any ops listed→ox P ops oi v a →
   wpAnyQ P ops quiet Q fuel (listed.setIfInBounds i true) (a.put oi.dst v) w→wpAnyQ P ops quiet Q (fuel + 1) listed a w:=by
 intro fuel
 induction fuel with
 | zero =>
  intro listed a w _ _ hr hy H
  refine ⟨fun h=>(by rw [h] at hr; cases hr),fun j hj=>?_⟩
  by_cases hji : j = i
  ·subst hji; exact (hy.later w).wpOp hi ⟨Rel.refl _ _,H⟩
  ·have:=ready_mono hj hji
   rw [H.1] at this
   cases this
 | succ fuel ih =>
  intro listed a w wK hfree hr hy H
  refine ⟨fun h=>(by rw [h] at hr; cases hr),fun j hj=>?_⟩
  by_cases hji : j = i
  ·subst hji; exact (hy.later w).wpOp hi ⟨Rel.refl _ _,H⟩
  ·have h1:=H.2 j (ready_mono hj hji)
   obtain ⟨wR,oj,fD,hall⟩:=mem_ready.1 hj
   have hi0 : listed.getD i false = false:=by
    have h0:=(mem_ready.1 hr).1
    rcases Nat.lt_or_ge i listed.size with h' | h'
    ·simpa [h'] using h0
    ·simp [Array.getElem?_eq_none h']
   have hnot : t j i = false:=IV jx wK hi0 (j + 1) j (by omega) (Array.getElem?_eq_some_iff.1 fD).1 (Array.getElem?_eq_some_iff.1 hi).1 (fun oj' nC e he hb=>by
    rw [fD] at nC
    injection nC with nC
    rw [← nC] at he
    exact hall e he hb)
   have hap:=hfree j oj fD hji wR hnot
   have h2:=Qj fD hap (fun cs b=>hsel i oi cs b hi) (fun cs b=>hsel j oj cs b fD) hQ h1
   have GX : ∀ k ok,ops[k]? = some ok→k≠i→(listed.setIfInBounds j true).getD k true = false →
     t k i = false→oi.apart ops ok = true:=fun k ok hk hki hun hno=>by
    refine hfree k ok hk hki ?_ hno
    by_cases hjk : j = k
    ·subst hjk; exact wR
    ·rw [getD_set_ne true hjk] at hun; exact hun
   refine wpOp_mono (fun a' w' ⟨hsame,hrel,h3⟩=>⟨hrel,ih (listed.setIfInBounds j true) a' w' (wK.set fD hall) GX (ready_mono hr (Ne.symm hji)) (hy.same hsame) ?_⟩) h2
   rw [Array.setIfInBounds_comm _ _ hji]
   exact h3
end
end M
namespace M
open Go Go.RowKit
variable [Bs]
def j6 (P : Program) (t : TypeId) : Option TypeId:=match P.underlying t with
 | some (.slice e)=>some e
 | _=>none
def isStr (P : Program) (t : TypeId) : Bool:=match P.underlying t with
 | some .string=>true
 | _=>false
def HG (P : Program) (t : TypeId) : Bool:=match P.underlying t with
 | some .bool=>true
 | _=>false
def isInt (P : Program) (t : TypeId) (k : IntKind) : Bool:=match P.underlying t with
 | some (.int k')=>decide (k' = k)
 | _=>false
def jI (P : Program) (t : TypeId) (n : Nat) : Bool:=match P.info? t with
 | some i=>decide (i.size = n)
 | none=>false
def SP : TypeDesc→Bool
 | .struct _=>true
 | .array _ _=>true
 | _=>false
def rC (P : Program) (t : TypeId) (b : Bool) : Bool:=match P.underlying t with
 | some d=>SP d == b
 | none=>false
section
variable {P : Program} {t : TypeId}
theorem lU {e : TypeId} (h : j6 P t = some e) : P.underlying t = some (.slice e):=by
 unfold j6 at h
 split at h
 ·rename_i e' he; injection h with h; subst h; exact he
 ·cases h
theorem xN (h : isStr P t = true) : P.underlying t = some .string:=by
 unfold isStr at h
 split at h
 ·assumption
 ·cases h
theorem aa6 (h : HG P t = true) : P.underlying t = some .bool:=by
 unfold HG at h
 split at h
 ·assumption
 ·cases h
theorem HH {k : IntKind} (h : isInt P t k = true) : P.underlying t = some (.int k):=by
 unfold isInt at h
 split at h
 ·rename_i k' hk; rw [hk,of_decide_eq_true h]
 ·cases h
theorem o8 {n : Nat} (h : jI P t n = true) : ∃ i,P.info? t = some i∧i.size = n:=by
 unfold jI at h
 split at h
 ·rename_i i hi; exact ⟨i,hi,of_decide_eq_true h⟩
 ·cases h
theorem xM {b : Bool} (h : rC P t b = true) : ∃ dd,P.underlying t = some dd∧(match dd with | .struct _=>true | .array _ _=>true | _=>false) = b:=by
 unfold rC at h
 split at h
 ·rename_i d hd
  refine ⟨d,hd,?_⟩
  rw [beq_iff_eq] at h
  rw [← h]
  cases d <;> rfl
 ·cases h
end
def cN (nt : Nat) (o : Oper) (d : Nat) : Bool:=(match o.dst with | some d'=>d' == d | none=>false) && decide (d < nt)
theorem cX {nt : Nat} {o : Oper} {d : Nat} (h : cN nt o d = true) : o.dst = some d∧d < nt:=by
 simp only [cN,Bool.and_eq_true,decide_eq_true_eq] at h
 refine ⟨?_,h.2⟩
 have:=h.1
 split at this
 ·rename_i d' hd; rw [hd]; simpa using this
 ·cases this
def uS : bU→Bool
 | .mv _ _ | .pick _ _ _ _ | .un _ _ _ | .bin _ _ _ _ | .beq _ _ _ _ | .kS _ _ _ _ _ | .p6 _ _ _ | .conv _ _ _ | .text _ _ | .load _ _ _ _ | .cS _ _ | .ni _ _ _ | .me _ _ _ _ _ | .dX _ _ _ _ | .cM _ _ _ | .oC _ _ _ _ _ _
 | .ext _ _ _ | .fo _ _ _ _ | .kL _ _ _ _ _ | .lJ _ _ _ | .len _ _ | .qk _ _ | .mn _ _ | .mx _ _ | .lE _ _ _ _ _=>true
 | _=>false
def qa : bU→Bool
 | .aP _ _ _ | .box _ _ _ | .new _ _ | .make _ _ _ _ _ | .bytes _ _ | .lit _ _ _ _ | .build _ _ _ _=>true
 | .call _ _ as=>iy as
 | .jl _ _ as=>iy as
 | x=>uS x
def AY (P : Program) (nt : Nat) (o : Oper) : bU→Bool
 | .mv d x=>cN nt o d && (match o.op with | .move x'=>aK x' x | .assign x'=>aK x' x | _=>false)
 | .pick d c a b=>cN nt o d && (match o.op with | .pick c' a' b'=>aK c' c && aK a' a && aK b' b | _=>false)
 | .un d op x=>cN nt o d && (match o.op with | .unOp op' _ x'=>decide (op' = op) && aK x' x | _=>false)
 | .bin d op x y=>cN nt o d && (match o.op with | .binOp op' _ x' y' _=>decide (op' = op) && aK x' x && aK y' y | _=>false)
 | .beq d neg x y=>cN nt o d && (match o.op with | .binOp op' ty x' y' _=>decide (op' = bif neg then .neq else .eql) && HG P ty && aK x' x && aK y' y | _=>false)
 | .p6 d neg x=>cN nt o d && (match o.op with | .binOp op' ty x' (.const (.slice none 0 0)) _=>decide (op' = bif neg then .neq else .eql) && (j6 P ty).isSome && aK x' x | _=>false)
 | .kS d neg ks x y=>cN nt o d && (match o.op with | .binOp op' ty x' y' _=>decide (op' = bif neg then .neq else .eql) && Gv P ty ks && aK x' x && aK y' y | _=>false)
 | .conv d k x=>cN nt o d && (match o.op with | .convert src dst x'=>(P.underlying src).isSome && isInt P dst k && aK x' x | _=>false)
 | .text d x=>cN nt o d && (match o.op with | .convert src dst x'=>(match j6 P src with | some el=>isInt P el .u8 && isStr P dst && aK x' x | none=>false) | _=>false)
 | .load d sz agg x=>cN nt o d && (match o.op with | .load ty x'=>jI P ty sz && rC P ty agg && (agg || decide (sz = 1)) && aK x' x | _=>false)
 | .lE d fz sz agg x=>cN nt o d && (match o.op with | .load ty x'=>jI P ty sz && rC P ty agg && (agg || decide (sz = 1)) && aK x' x | _=>false)
 | .cS d x=>cN nt o d && (match o.op with | .nilCheck x'=>aK x' x | _=>false)
 | .ni d x off=>cN nt o d && (match o.op with | .fieldAddr ty x' fi=>(match P.underlying ty with | some (.struct fs)=>(match fs[fi]? with | some f=>decide (f.offset = off) && !jI P f.type 0 && (P.info? f.type).isSome && aK x' x | none=>false) | _=>false) | _=>false)
 | .me d x off sz agg=>cN nt o d && (match o.op with | .field ty x' fi=>(match P.underlying ty with | some (.struct fs)=>(match fs[fi]? with | some f=>decide (f.offset = off) && jI P f.type sz && rC P f.type agg && (agg || decide (sz = 1)) && aK x' x | none=>false) | _=>false) | _=>false)
 | .dX d sz x y=>cN nt o d && (match o.op with | .indexAddr ty x' y'=>(match j6 P ty with | some el=>jI P el sz && decide (0 < sz) && aK x' x && aK y' y | none=>false) | _=>false)
 | .cM d x y=>cN nt o d && (match o.op with | .index ty x' y'=>isStr P ty && aK x' x && aK y' y | _=>false)
 | .oC d n sz agg x y=>cN nt o d && (match o.op with | .index ty x' y'=>(match P.underlying ty with | some (.array n' el)=>decide (n' = n) && jI P el sz && rC P el agg && (agg || decide (sz = 1)) && aK x' x && aK y' y | _=>false) | _=>false)
 | .ext d x i=>cN nt o d && (match o.op with | .extract x' i'=>i' == i && aK x' x | _=>false)
 | .fo d x lo hi=>cN nt o d && (match o.op with | .slice ty x' lo' hi' none=>isStr P ty && aK x' x && kW lo' lo && kW hi' hi | _=>false)
 | .kL d sz x lo hi=>cN nt o d && (match o.op with | .slice ty x' lo' hi' none=>(match j6 P ty with | some el=>jI P el sz && aK x' x && kW lo' lo && kW hi' hi | none=>false) | _=>false)
 | .lJ d f cs=>cN nt o d && (match o.op with | .makeFunc (.func f') fs cs'=>f' == f && fs.toList.isEmpty && kf cs'.toList cs | _=>false)
 | .len d x=>cN nt o d && (match o.op with | .call ⟨.builtin .len,as,ts⟩=>(match as.toList,ts.toList with | [x'],[ty]=>(j6 P ty).isSome && aK x' x | _,_=>false) | _=>false)
 | .qk d x=>cN nt o d && (match o.op with | .call ⟨.builtin .len,as,ts⟩=>(match as.toList,ts.toList with | [x'],[ty]=>isStr P ty && aK x' x | _,_=>false) | _=>false)
 | .mn d [x,y]=>cN nt o d && (match o.op with | .call ⟨.builtin .min,as,_⟩=>(match as.toList with | [x',y']=>aK x' x && aK y' y | _=>false) | _=>false)
 | .mx d [x,y]=>cN nt o d && (match o.op with | .call ⟨.builtin .max,as,_⟩=>(match as.toList with | [x',y']=>aK x' x && aK y' y | _=>false) | _=>false)
 | _=>false
section
variable {P : Program} {c : Ctx} {G : Nat→C} {zl : Nat→Nat→Prop} {s : ah} {a : Act} {w : World} {o : Oper} {K : ah→Prop}
theorem MU (op : BinOp) (ty : TypeId) (p q : Operand) (a b : Option Addr) (l m n k : Nat) : eqGuard op ty p q (.slice a l m) (.slice b n k) = pure ():=by unfold eqGuard; cases op <;> rfl
theorem adP {sz len : Nat} {e : Nat→Nat→C} (h : kK (cU sz len e) = true) : 0 < len∧0 < sz:=by
 unfold cU at h
 cases len with
 | zero=>cases h
 | succ len =>
  cases sz with
  | zero=>rw [List.range_succ_eq_map] at h; cases h
  | succ sz=>exact ⟨Nat.succ_pos _,Nat.succ_pos _⟩
theorem adh (h : St c G zl s a w) {d : Nat} {neg : Bool} {ty ty' : TypeId} {e : TypeId} {x : AV} {x' : Operand} (ho : o.op = .binOp (bif neg then .neq else .eql) ty x' (.const (.slice none 0 0)) ty') (ht : P.underlying ty = some (.slice e)) (hd : o.dst = some d) (hn : d < c.nt) (hx : aK x' x = true)
  (hK : aN P (.p6 d neg x) s K) : cW P c o a w K:=by
 obtain ⟨p,p1,p2,p3⟩:=bQ h hx
 simp only [aN] at hK
 split at hK
 ·rename_i m z xs h1
  rw [← p1] at h1
  obtain ⟨A,len,cap,f,rfl,hxs⟩:=wo h1
  have hb : kK xs = true→(A.map fun q=>(⟨q.1,q.2.1,q.2.2⟩ : Addr)).isNone = false:=fun hc=>by
   rw [hxs] at hc
   obtain ⟨h1,h2⟩:=adP hc
   obtain ⟨g,o',hA,_⟩:=p3.ok.2.1 0 0 h1 h2
   rw [hA]; rfl
  have MY:=hK _ hb
  obtain ⟨nb,hnb⟩ : ∃ nb,(A.map fun q=>(⟨q.1,q.2.1,q.2.2⟩ : Addr)).isNone = nb:=⟨_,rfl⟩
  rw [hnb] at MY
  have hc : a.eval (.const (.slice none 0 0)) = .slice none 0 0:=rfl
  refine de h hd hn (x:=.bool (xor neg nb)) trivial (fun _ _ _ _ _ _ e=>(by cases e)) trivial (fun w' _=>?_) MY
  cases neg
  ·simp only [execOp,ho,hc,← p2,C.val,MU,Sem.run_bind,Sem.run_pure,Result.andThen_ok,cond_false,Lib.run_eql_slice_nil w' ty e _ _ _ _ _ ht,Bool.false_bne,hnb]
  ·simp only [execOp,ho,hc,← p2,C.val,MU,Sem.run_bind,Sem.run_pure,Result.andThen_ok,cond_true,run_neq_slice_nil w' ty e _ _ _ ht,Bool.true_bne,hnb]
 ·exact hK.elim
theorem DC {b : Bool} {n m : Nat} (h : (b || decide (n = m)) = true) : b = true∨n = m:=by simpa using h
theorem vu {α : Type} {xs : Array α} {x : α} (h : xs.toList = [x]) : xs = #[x]:=Array.ext' h
theorem EL {α : Type} {xs : Array α} {x y : α} (h : xs.toList = [x,y]) : xs = #[x,y]:=Array.ext' h
theorem F3 (h : St c G zl s a w) {x : bU} (hc : AY P c.nt o x = true) (hK : aN P x s K) : cW P c o a w K:=by
 unfold AY at hc
 split at hc
 ·simp only [Bool.and_eq_true] at hc
  obtain ⟨hd,hn⟩:=cX hc.1
  have hc:=hc.2
  split at hc
  ·rename_i ho; exact OH h (.inl ho) hd hn hc hK
  ·rename_i ho; exact OH h (.inr ho) hd hn hc hK
  ·cases hc
 ·simp only [Bool.and_eq_true] at hc
  obtain ⟨hd,hn⟩:=cX hc.1
  have hc:=hc.2
  split at hc
  ·rename_i ho
   simp only [Bool.and_eq_true] at hc
   exact adi h ho hd hn hc.1.1 hc.1.2 hc.2 hK
  ·cases hc
 ·simp only [Bool.and_eq_true] at hc
  obtain ⟨hd,hn⟩:=cX hc.1
  have hc:=hc.2
  split at hc
  ·rename_i ho
   simp only [Bool.and_eq_true,decide_eq_true_eq] at hc
   obtain ⟨rfl,hx⟩:=hc
   exact adq h ho hd hn hx hK
  ·cases hc
 ·simp only [Bool.and_eq_true] at hc
  obtain ⟨hd,hn⟩:=cX hc.1
  have hc:=hc.2
  split at hc
  ·rename_i ho
   simp only [Bool.and_eq_true,decide_eq_true_eq] at hc
   obtain ⟨⟨rfl,hx⟩,hy⟩:=hc
   exact acT h ho hd hn hx hy hK
  ·cases hc
 ·simp only [Bool.and_eq_true] at hc
  obtain ⟨hd,hn⟩:=cX hc.1
  have hc:=hc.2
  split at hc
  ·rename_i ho
   simp only [Bool.and_eq_true,decide_eq_true_eq] at hc
   obtain ⟨⟨⟨rfl,ht⟩,hx⟩,hy⟩:=hc
   exact acS h ho (aa6 ht) hd hn hx hy hK
  ·cases hc
 ·simp only [Bool.and_eq_true] at hc
  obtain ⟨hd,hn⟩:=cX hc.1
  have hc:=hc.2
  split at hc
  ·rename_i ho
   simp only [Bool.and_eq_true,decide_eq_true_eq] at hc
   obtain ⟨⟨rfl,ht⟩,hx⟩:=hc
   obtain ⟨el,ht⟩:=Option.isSome_iff_exists.1 ht
   exact adh h ho (lU ht) hd hn hx hK
  ·cases hc
 ·simp only [Bool.and_eq_true] at hc
  obtain ⟨hd,hn⟩:=cX hc.1
  have hc:=hc.2
  split at hc
  ·rename_i ho
   simp only [Bool.and_eq_true,decide_eq_true_eq] at hc
   obtain ⟨⟨⟨rfl,ht⟩,hx⟩,hy⟩:=hc
   exact acO h ho ht hd hn hx hy hK
  ·cases hc
 ·simp only [Bool.and_eq_true] at hc
  obtain ⟨hd,hn⟩:=cX hc.1
  have hc:=hc.2
  split at hc
  ·rename_i ho
   simp only [Bool.and_eq_true] at hc
   obtain ⟨⟨hs,ht⟩,hx⟩:=hc
   obtain ⟨sd,hs⟩:=Option.isSome_iff_exists.1 hs
   exact ac2 h ho hs (HH ht) hd hn hx hK
  ·cases hc
 ·simp only [Bool.and_eq_true] at hc
  obtain ⟨hd,hn⟩:=cX hc.1
  have hc:=hc.2
  split at hc
  ·rename_i ho
   split at hc
   ·rename_i el hel
    simp only [Bool.and_eq_true] at hc
    exact adp h ho (lU hel) (HH hc.1.1) (xN hc.1.2) hd hn hc.2 hK
   ·cases hc
  ·cases hc
 ·simp only [Bool.and_eq_true] at hc
  obtain ⟨hd,hn⟩:=cX hc.1
  have hc:=hc.2
  split at hc
  ·rename_i ho
   simp only [Bool.and_eq_true] at hc
   exact OG h ho (o8 hc.1.1.1) (xM hc.1.1.2) (DC hc.1.2) hd hn hc.2 hK
  ·cases hc
 ·simp only [Bool.and_eq_true] at hc
  obtain ⟨hd,hn⟩:=cX hc.1
  have hc:=hc.2
  split at hc
  ·rename_i ho
   simp only [Bool.and_eq_true] at hc
   exact ac9 h ho (o8 hc.1.1.1) (xM hc.1.1.2) (DC hc.1.2) hd hn hc.2 hK
  ·cases hc
 ·simp only [Bool.and_eq_true] at hc
  obtain ⟨hd,hn⟩:=cX hc.1
  have hc:=hc.2
  split at hc
  ·rename_i ho; exact ac0 h ho hd hn hc hK
  ·cases hc
 ·simp only [Bool.and_eq_true] at hc
  obtain ⟨hd,hn⟩:=cX hc.1
  have hc:=hc.2
  split at hc
  ·rename_i ho
   split at hc
   ·rename_i fs hfs
    split at hc
    ·rename_i f hf
     simp only [Bool.and_eq_true,decide_eq_true_eq,Bool.not_eq_true'] at hc
     obtain ⟨⟨⟨h1,h2⟩,h3⟩,h4⟩:=hc
     obtain ⟨i,hi⟩:=Option.isSome_iff_exists.1 h3
     refine ac4 h ho hfs hf h1 ⟨i,hi,fun h0=>?_⟩ hd hn h4 hK
     simp [jI,hi,h0] at h2
    ·cases hc
   ·cases hc
  ·cases hc
 ·simp only [Bool.and_eq_true] at hc
  obtain ⟨hd,hn⟩:=cX hc.1
  have hc:=hc.2
  split at hc
  ·rename_i ho
   split at hc
   ·rename_i fs hfs
    split at hc
    ·rename_i f hf
     simp only [Bool.and_eq_true,decide_eq_true_eq] at hc
     obtain ⟨⟨⟨⟨h1,h2⟩,h3⟩,h4⟩,h5⟩:=hc
     exact ac5 h ho hfs hf h1 (o8 h2) (xM h3) (DC h4) hd hn h5 hK
    ·cases hc
   ·cases hc
  ·cases hc
 ·simp only [Bool.and_eq_true] at hc
  obtain ⟨hd,hn⟩:=cX hc.1
  have hc:=hc.2
  split at hc
  ·rename_i ho
   split at hc
   ·rename_i el hel
    simp only [Bool.and_eq_true,decide_eq_true_eq] at hc
    obtain ⟨⟨⟨h1,h2⟩,h3⟩,h4⟩:=hc
    exact ac6 h ho (lU hel) (o8 h1) h2 hd hn h3 h4 hK
   ·cases hc
  ·cases hc
 ·simp only [Bool.and_eq_true] at hc
  obtain ⟨hd,hn⟩:=cX hc.1
  have hc:=hc.2
  split at hc
  ·rename_i ho
   simp only [Bool.and_eq_true] at hc
   exact adk h ho (xN hc.1.1) hd hn hc.1.2 hc.2 hK
  ·cases hc
 ·simp only [Bool.and_eq_true] at hc
  obtain ⟨hd,hn⟩:=cX hc.1
  have hc:=hc.2
  split at hc
  ·rename_i ho
   split at hc
   ·rename_i n' el hel
    simp only [Bool.and_eq_true,decide_eq_true_eq] at hc
    obtain ⟨⟨⟨⟨⟨rfl,h2⟩,h3⟩,h4⟩,h5⟩,h6⟩:=hc
    exact acP h ho hel (o8 h2) (xM h3) (DC h4) hd hn h5 h6 hK
   ·cases hc
  ·cases hc
 ·simp only [Bool.and_eq_true] at hc
  obtain ⟨hd,hn⟩:=cX hc.1
  have hc:=hc.2
  split at hc
  ·rename_i ho
   simp only [Bool.and_eq_true,beq_iff_eq] at hc
   obtain ⟨rfl,hx⟩:=hc
   exact ac3 h ho hd hn hx hK
  ·cases hc
 ·simp only [Bool.and_eq_true] at hc
  obtain ⟨hd,hn⟩:=cX hc.1
  have hc:=hc.2
  split at hc
  ·rename_i ho
   simp only [Bool.and_eq_true] at hc
   obtain ⟨⟨⟨h1,h2⟩,h3⟩,h4⟩:=hc
   exact adn h ho (xN h1) hd hn h2 h3 h4 hK
  ·cases hc
 ·simp only [Bool.and_eq_true] at hc
  obtain ⟨hd,hn⟩:=cX hc.1
  have hc:=hc.2
  split at hc
  ·rename_i ho
   split at hc
   ·rename_i el hel
    simp only [Bool.and_eq_true] at hc
    obtain ⟨⟨⟨h1,h2⟩,h3⟩,h4⟩:=hc
    exact adj h ho (lU hel) (o8 h1) hd hn h2 h3 h4 hK
   ·cases hc
  ·cases hc
 ·simp only [Bool.and_eq_true] at hc
  obtain ⟨hd,hn⟩:=cX hc.1
  have hc:=hc.2
  split at hc
  ·rename_i fs cs' ho
   simp only [Bool.and_eq_true,beq_iff_eq] at hc
   obtain ⟨⟨rfl,h2⟩,h3⟩:=hc
   have hfs : fs = #[]:=Array.ext' (List.isEmpty_iff.1 h2)
   subst hfs
   exact adb h ho hd hn h3 hK
  ·cases hc
 ·simp only [Bool.and_eq_true] at hc
  obtain ⟨hd,hn⟩:=cX hc.1
  have hc:=hc.2
  split at hc
  ·rename_i as ts ho
   split at hc
   ·rename_i x' ty has hts
    simp only [Bool.and_eq_true] at hc
    obtain ⟨el,hel⟩:=Option.isSome_iff_exists.1 hc.1
    rw [vu has,vu hts] at ho
    exact ac7 h ho (lU hel) hd hn hc.2 hK
   ·cases hc
  ·cases hc
 ·simp only [Bool.and_eq_true] at hc
  obtain ⟨hd,hn⟩:=cX hc.1
  have hc:=hc.2
  split at hc
  ·rename_i as ts ho
   split at hc
   ·rename_i x' ty has hts
    simp only [Bool.and_eq_true] at hc
    rw [vu has,vu hts] at ho
    exact adl h ho (xN hc.1) hd hn hc.2 hK
   ·cases hc
  ·cases hc
 ·simp only [Bool.and_eq_true] at hc
  obtain ⟨hd,hn⟩:=cX hc.1
  have hc:=hc.2
  split at hc
  ·rename_i as ts ho
   split at hc
   ·rename_i x' y' has
    simp only [Bool.and_eq_true] at hc
    rw [EL has] at ho
    exact ade h ho hd hn hc.1 hc.2 hK
   ·cases hc
  ·cases hc
 ·simp only [Bool.and_eq_true] at hc
  obtain ⟨hd,hn⟩:=cX hc.1
  have hc:=hc.2
  split at hc
  ·rename_i as ts ho
   split at hc
   ·rename_i x' y' has
    simp only [Bool.and_eq_true] at hc
    rw [EL has] at ho
    exact adf h ho hd hn hc.1 hc.2 hK
   ·cases hc
  ·cases hc
 ·cases hc
end
end M
namespace M
open Go Go.RowKit
variable [Bs]
def Step (P : Program) (c : Ctx) (o : Oper) (a : Act) (w : World) (K : ah→Prop) (q : Bool) : Prop :=
 (∃ v w',((execOp a.eval o).run P w = .ok (.value v) w'∨((execOp a.eval o).run P w = .ok .skip w'∧v = undef))∧Rel q w w'∧∃ G' aD s',K s'∧St c G' aD s' (a.put o.dst v) w')∨oz P c o a w K q
section
variable {P : Program} {c : Ctx} {G : Nat→C} {zl : Nat→Nat→Prop} {s : ah} {a : Act} {w : World} {o : Oper} {K : ah→Prop}
theorem Good.step (h : Good P c o a w K) : Step P c o a w K false:=by
 obtain ⟨v,w',hr,h⟩:=h
 exact .inl ⟨v,w',hr,fun hq=>by (cases hq),h⟩
theorem iU.step (h : iU P c o a w K) (q : Bool) : Step P c o a w K q:=by
 obtain ⟨v,w',hr,hE,h⟩:=h
 exact .inl ⟨v,w',.inl hr,fun _=>hE,h⟩
theorem Step.wp {q : Bool} (h : Step P c o a w K q) (Q : Exit→Act→World→Prop) : o.wp P a w (fun a' w'=>Rel q w w'∧∃ G' aD s',K s'∧St c G' aD s' a' w') Q:=by
 unfold Oper.wp
 rcases h with ⟨v,w',hr,hq,h⟩ | ⟨f,args,hr,hc⟩
 ·rcases hr with hr | ⟨hr,rfl⟩
  ·rw [hr]; exact ⟨hq,h⟩
  ·rw [hr]; exact ⟨hq,h⟩
 ·rw [hr]
  refine Calls.mono hc fun e w' he=>?_
  obtain ⟨v,rfl,hq,h⟩:=he
  exact ⟨hq,h⟩
def Kk (P : Program) (t : TypeId) (sz bytes : Nat) (z : List X) : Bool:=match P.info? t with
 | some i=>decide (i.size = sz) && decide (i.bytes = bytes) && (match i.zero with | some v=>kX v.cells.toList z | none=>false)
 | none=>false
theorem aiD {t : TypeId} {sz bytes : Nat} {z : List X} (h : Kk P t sz bytes z = true) : ∃ i v,P.info? t = some i∧i.size = sz∧i.bytes = bytes∧i.zero = some v∧kX v.cells.toList z = true:=by
 unfold Kk at h
 split at h
 ·rename_i i hi
  simp only [Bool.and_eq_true,decide_eq_true_eq] at h
  obtain ⟨⟨h1,h2⟩,h3⟩:=h
  split at h3
  ·rename_i v hv; exact ⟨i,v,hi,h1,h2,hv,h3⟩
  ·cases h3
 ·cases h
def Ko (P : Program) (t : TypeId) (sz bytes : Nat) : Bool:=match P.info? t with
 | some i=>decide (i.size = sz) && decide (i.bytes = bytes) && (match i.zero with | some v=>decide (v.cells.size = sz) | none=>false)
 | none=>false
theorem aiG {t : TypeId} {sz bytes : Nat} (h : Ko P t sz bytes = true) : ∃ i v,P.info? t = some i∧i.size = sz∧i.bytes = bytes∧i.zero = some v∧v.cells.size = sz:=by
 unfold Ko at h
 split at h
 ·rename_i i hi
  simp only [Bool.and_eq_true,decide_eq_true_eq] at h
  obtain ⟨⟨h1,h2⟩,h3⟩:=h
  split at h3
  ·rename_i v hv; exact ⟨i,v,hi,h1,h2,hv,of_decide_eq_true h3⟩
  ·cases h3
 ·cases h
def Km (P : Program) (t : TypeId) (sz : Nat) : Bool:=match P.info? t with
 | some i=>decide (i.size = sz) && (match i.zero with | some v=>decide (v.cells.size = sz) | none=>false)
 | none=>false
theorem aiF {t : TypeId} {sz : Nat} (h : Km P t sz = true) : ∃ i v,P.info? t = some i∧i.size = sz∧i.zero = some v∧v.cells.size = sz:=by
 unfold Km at h
 split at h
 ·rename_i i hi
  simp only [Bool.and_eq_true,decide_eq_true_eq] at h
  obtain ⟨h1,h3⟩:=h
  split at h3
  ·rename_i v hv; exact ⟨i,v,hi,h1,hv,of_decide_eq_true h3⟩
  ·cases h3
 ·cases h
def Aw (P : Program) (t : TypeId) (z : List X) : Bool:=match P.info? t with
 | some i=>(match i.zero with | some v=>kX v.cells.toList z | none=>false)
 | none=>false
theorem Kn {t : TypeId} {z : List X} (h : Aw P t z = true) : ∃ i v,P.info? t = some i∧i.zero = some v∧kX v.cells.toList z = true:=by
 unfold Aw at h
 split at h
 ·rename_i i hi
  split at h
  ·rename_i v hv; exact ⟨i,v,hi,hv,h⟩
  ·cases h
 ·cases h
def placesOf (P : Program) (t : TypeId) : Option (List (Nat×Nat)):=match P.underlying t with
 | some (.struct fs)=>fs.toList.mapM fun f=>(P.info? f.type).map fun i=>(f.offset,i.size)
 | some (.array n e)=>(P.info? e).map fun i=>(List.range n).map fun k=>(k * i.size,i.size)
 | _=>none
theorem Mi {p q : Nat→Option (Nat×Nat)} (h : ∀ i r,p i = some r→q i = some r) : ∀ (parts : List (Nat×Value)) (cells r : Array Value),Instr.fill p cells parts = some r→Instr.fill q cells parts = some r
 | [],cells,r,hf=>hf
 | (i,v) :: rest,cells,r,hf=>by
  unfold Instr.fill at hf ⊢
  cases hp : p i with
  | none=>rw [hp] at hf; cases hf
  | some pr =>
   rw [hp] at hf
   rw [h i pr hp]
   obtain ⟨off,size⟩:=pr
   simp only at hf ⊢
   split at hf
   ·cases hf
   ·rename_i hc
    rw [if_neg hc]
    exact Mi h rest _ r hf
theorem adw {t : TypeId} {places : List (Nat×Nat)} (hp : placesOf P t = some places) {i : TypeInfo} (hi : P.info? t = some i) {v : Value} (hz : i.zero = some v) : ∀ parts cells,Instr.fill (fun i=>places[i]?) v.cells parts = some cells→P.built t parts = some cells:=by
 intro parts cells hf
 unfold placesOf at hp
 unfold Program.built
 rw [hi]
 split at hp
 ·rename_i fs hfs
  rw [hfs]
  simp only [hz,hp]
  simpa using hf
 ·rename_i n e he
  rw [he]
  cases hie : P.info? e with
  | none=>rw [hie] at hp; cases hp
  | some ie =>
   rw [hie] at hp
   simp only [Option.map_some,Option.some.injEq] at hp
   simp only [hz,hie]
   refine Mi (fun k r hk=>?_) _ _ _ hf
   rw [← hp,C.cD] at hk
   split at hk
   ·exact hk
   ·cases hk
 ·cases hp
def wj (nt : Nat) (o : Oper) (d : Option Nat) : Bool:=match o.dst,d with
 | some d',some d=>d' == d && decide (d < nt)
 | none,none=>true
 | _,_=>false
theorem Gj {nt : Nat} {d : Option Nat} (h : wj nt o d = true) : o.dst = d∧∀ n,o.dst = some n→n < nt:=by
 unfold wj at h
 split at h
 ·rename_i d' d hd
  simp only [Bool.and_eq_true,beq_iff_eq,decide_eq_true_eq] at h
  rw [hd,h.1]
  exact ⟨rfl,fun n hn=>by injection hn with hn; rw [← hn]; exact h.2⟩
 ·rename_i hd
  rw [hd]
  exact ⟨rfl,fun n hn=>by cases hn⟩
 ·cases h
def F4 (P : Program) (nt : Nat) (o : Oper) : bU→Bool
 | .aP d h x=>cN nt o d && (match o.op with | .assign x'=>aK x' x | _=>false)
 | .box d h x=>cN nt o d && (match o.op with | .box _ x'=>aK x' x | _=>false)
 | .new d z=>cN nt o d && (match o.op with | .alloc ty=>Aw P ty z | _=>false)
 | .make d sz bytes z n=>cN nt o d && (match o.op with | .makeSlice ty n1 n2=>(match j6 P ty with | some el=>Kk P el sz bytes z && decide (0 < bytes) && decide (0 < sz) && decide (z.length = sz) && aK n1 n && aK n2 n | none=>false) | _=>false)
 | .bytes d x=>cN nt o d && (match o.op with | .convert src dst x'=>(match j6 P dst with | some el=>isInt P el .u8 && isStr P src && aK x' x | none=>false) | _=>false)
 | .lit d h sz ps=>cN nt o d && (match o.op with | .buildSlice ty n ps'=>(match j6 P ty with | some el=>Km P el sz && decide (0 < sz) && decide (ps'.toList.length = n) && decide (n * sz≤16777216) && vY 0 ps'.toList ps | none=>false) | _=>false)
 | .build d h z ps=>cN nt o d && (match o.op with | .build ty ps'=>(match placesOf P ty with | some places=>Aw P ty z && qJ places z.length ps'.toList ps | none=>false) | _=>false)
 | .store sz h y x=>(match o.dst with | none=>true | some _=>false) && (match o.op with | .store ty y' x'=>jI P ty sz && decide (0 < sz) && aK x' x && aK y' y | _=>false)
 | .app d h sz bytes x y=>cN nt o d && (match o.op with | .call ⟨.builtin .append,as,ts⟩=>(match as.toList,ts.toList with | [x',y'],[ty,ty']=>(match j6 P ty,j6 P ty' with | some el,some _=>Ko P el sz bytes && decide (0 < bytes) && decide (0 < sz) && aK x' x && aK y' y | _,_=>false) | _,_=>false) | _=>false)
 | .call d f as=>wj nt o d && (match o.op with | .call ⟨.value (.func f'),as',_⟩=>f' == f && ak P f && fN as'.toList as | _=>false)
 | .jl d x as=>wj nt o d && (match o.op with | .call ⟨.value x',as',_⟩=>aK x' x && fN as'.toList as | _=>false)
 | .s9 sz z x=>(match o.dst with | none=>true | some _=>false) && (match o.op with | .call ⟨.builtin .clear,as,ts⟩=>(match as.toList,ts.toList with | [x'],[ty]=>(match j6 P ty with | some el=>Aw P el z && decide (z.length = sz) && decide (0 < sz) && aK x' x | _=>false) | _,_=>false) | _=>false)
 | .oH d f x as=>wj nt o d && (match o.op with | .call ⟨.value (.func f'),as',_⟩=>f' == f && ak P f && (match as'.toList with | x' :: l'=>aK x' x && fN l' as && iy as | []=>false) | _=>false)
 | _=>false
theorem VA (h : St c G zl s a w) {x : bU} (hc : F4 P c.nt o x = true) (hK : aN P x s K) : Step P c o a w K (qa x):=by
 unfold F4 at hc
 split at hc
 ·simp only [Bool.and_eq_true] at hc
  obtain ⟨hd,hn⟩:=cX hc.1
  have hc:=hc.2
  split at hc
  ·rename_i ho; exact (acR h ho hd hn hc hK).step _
  ·cases hc
 ·simp only [Bool.and_eq_true] at hc
  obtain ⟨hd,hn⟩:=cX hc.1
  have hc:=hc.2
  split at hc
  ·rename_i ho; exact (acU h ho hd hn hc hK).step _
  ·cases hc
 ·simp only [Bool.and_eq_true] at hc
  obtain ⟨hd,hn⟩:=cX hc.1
  have hc:=hc.2
  split at hc
  ·rename_i ho
   obtain ⟨i,v,h1,h2,h3⟩:=Kn hc
   exact (adg h ho h1 h2 h3 hd hn hK).step _
  ·cases hc
 ·simp only [Bool.and_eq_true] at hc
  obtain ⟨hd,hn⟩:=cX hc.1
  have hc:=hc.2
  split at hc
  ·rename_i ho
   split at hc
   ·rename_i el hel
    simp only [Bool.and_eq_true,decide_eq_true_eq] at hc
    obtain ⟨⟨⟨⟨⟨h1,h2⟩,h3⟩,h4⟩,h5⟩,h6⟩:=hc
    obtain ⟨i,v,i1,i2,i3,i4,i5⟩:=aiD h1
    exact (ada h ho (lU hel) i1 i4 i2 i3 h2 h3 h4 i5 hd hn h5 h6 hK).step _
   ·cases hc
  ·cases hc
 ·simp only [Bool.and_eq_true] at hc
  obtain ⟨hd,hn⟩:=cX hc.1
  have hc:=hc.2
  split at hc
  ·rename_i ho
   split at hc
   ·rename_i el hel
    simp only [Bool.and_eq_true] at hc
    exact (acW h ho (xN hc.1.2) (lU hel) (HH hc.1.1) hd hn hc.2 hK).step _
   ·cases hc
  ·cases hc
 ·simp only [Bool.and_eq_true] at hc
  obtain ⟨hd,hn⟩:=cX hc.1
  have hc:=hc.2
  split at hc
  ·rename_i ho
   split at hc
   ·rename_i el hel
    simp only [Bool.and_eq_true,decide_eq_true_eq] at hc
    obtain ⟨⟨⟨⟨h1,h2⟩,h3⟩,h4⟩,h5⟩:=hc
    obtain ⟨i,v,i1,i2,i3,i4⟩:=aiF h1
    exact (ac8 h ho (lU hel) i1 i3 i2 h2 i4 h3 h4 hd hn h5 hK).step _
   ·cases hc
  ·cases hc
 ·simp only [Bool.and_eq_true] at hc
  obtain ⟨hd,hn⟩:=cX hc.1
  have hc:=hc.2
  split at hc
  ·rename_i ho
   split at hc
   ·rename_i places hp
    simp only [Bool.and_eq_true] at hc
    obtain ⟨i,v,i1,i2,i3⟩:=Kn hc.1
    exact (acV (i:=i) h ho (adw hp i1 i2) i3 hd hn hc.2 hK).step _
   ·cases hc
  ·cases hc
 ·simp only [Bool.and_eq_true] at hc
  obtain ⟨hd,hc⟩:=hc
  have hd : o.dst = none:=by
   split at hd
   ·assumption
   ·cases hd
  split at hc
  ·rename_i ho
   simp only [Bool.and_eq_true,decide_eq_true_eq] at hc
   obtain ⟨⟨⟨h1,h2⟩,h3⟩,h4⟩:=hc
   exact (ado h ho (o8 h1) h2 hd h3 h4 hK).step
  ·cases hc
 ·simp only [Bool.and_eq_true] at hc
  obtain ⟨hd,hn⟩:=cX hc.1
  have hc:=hc.2
  split at hc
  ·rename_i as ts ho
   split at hc
   ·rename_i x' y' ty ty' has hts
    split at hc
    ·rename_i el Ba hel aaq
     simp only [Bool.and_eq_true,decide_eq_true_eq] at hc
     obtain ⟨⟨⟨⟨h1,h2⟩,h3⟩,h4⟩,h5⟩:=hc
     obtain ⟨i,v,i1,i2,i3,i4,i5⟩:=aiG h1
     rw [EL has,EL hts] at ho
     exact (acQ h ho (lU hel) (lU aaq) i1 i4 i2 i3 h2 h3 i5 hd hn h4 h5 hK).step
    ·cases hc
   ·cases hc
  ·cases hc
 ·simp only [Bool.and_eq_true] at hc
  obtain ⟨hd,hc⟩:=hc
  obtain ⟨hd,hn⟩:=Gj hd
  subst hd
  split at hc
  ·rename_i f' as' ts ho
   simp only [Bool.and_eq_true,beq_iff_eq] at hc
   obtain ⟨⟨rfl,h2⟩,h3⟩:=hc
   obtain ⟨fn,f1,f2,f3⟩:=Gw h2
   exact .inr (acX h ho f1 f2 f3 hn h3 hK)
  ·cases hc
 ·simp only [Bool.and_eq_true] at hc
  obtain ⟨hd,hc⟩:=hc
  obtain ⟨hd,hn⟩:=Gj hd
  subst hd
  split at hc
  ·rename_i x' as' ts ho
   simp only [Bool.and_eq_true] at hc
   exact .inr (acZ h ho hc.1 hn hc.2 hK)
  ·cases hc
 ·simp only [Bool.and_eq_true] at hc
  obtain ⟨hd,hc⟩:=hc
  have hd : o.dst = none:=by
   split at hd
   ·assumption
   ·cases hd
  split at hc
  ·rename_i as ts ho
   split at hc
   ·rename_i x' ty has hts
    split at hc
    ·rename_i el hel
     simp only [Bool.and_eq_true,decide_eq_true_eq] at hc
     obtain ⟨⟨⟨h1,h2⟩,h3⟩,h4⟩:=hc
     obtain ⟨i,v,i1,i2,i3⟩:=Kn h1
     rw [vu has,vu hts] at ho
     exact (ac1 h ho (lU hel) i1 i2 i3 h2 h3 hd h4 hK).step
    ·cases hc
   ·cases hc
  ·cases hc
 ·simp only [Bool.and_eq_true] at hc
  obtain ⟨hd,hc⟩:=hc
  obtain ⟨hd,hn⟩:=Gj hd
  subst hd
  split at hc
  ·rename_i f' as' ts ho
   simp only [Bool.and_eq_true,beq_iff_eq] at hc
   obtain ⟨⟨rfl,h2⟩,h3⟩:=hc
   obtain ⟨fn,f1,f2,f3⟩:=Gw h2
   split at h3
   ·rename_i x' l' hl
    simp only [Bool.and_eq_true] at h3
    exact .inr (acY h ho hl f1 f2 f3 hn h3.1.1 h3.1.2 h3.2 hK)
   ·cases h3
  ·cases hc
 ·cases hc
def vX (P : Program) (nt : Nat) (o : Oper) (x : bU) : Bool:=bif uS x then AY P nt o x else F4 P nt o x
theorem Lz (h : St c G zl s a w) {x : bU} (hc : vX P c.nt o x = true) (hK : aN P x s K) : Step P c o a w K (qa x):=by
 unfold vX at hc
 cases hr : uS x with
 | true=>rw [hr] at hc; exact (F3 h hc hK).quiet.step _
 | false=>rw [hr] at hc; exact VA h hc hK
end
end M
namespace M
open Go Go.RowKit
variable [Bs]
section
variable {P : Program} {c : Ctx} {G : Nat→C} {zl : Nat→Nat→Prop} {s s' : ah} {a : Act} {w : World} {K : ah→Prop} {ops : Array Oper}
theorem St.congr (h : St c G zl s a w) (he : ∀ t,get s t = get s' t) : St c G zl s' a w :=
 { h with inv:={ h.inv with er:=fun t=>(h.inv.er t).trans (he t) } }
def nh (P : Program) (nt : Nat) (ops : Array Oper) (i : Nat) (g : M.G) : Bool:=match ops[i]? with
 | some o=>(match o.guard,g.g with
  | none,none=>true
  | some (j,b),some (t,b')=>b == b' && decide (t < base) && (match ops[j]? with | some oj=>decide (oj.dst = some t) | none=>false)
  | _,_=>false) && decide (o.dst = g.o.dst) && (match g.o.dst with | some d=>decide (d < nt) | none=>true) && vX P nt o g.o
 | none=>false
def sH (c : Ctx) (K : ah→Prop) (a : Act) (w : World) : Prop:=∃ G zl s,K s∧St c G zl s a w
theorem QD (h : St c G zl s a w) {t j : Nat} {v : Bool} (hv : get s t = .bool v) (ht : t < base) {oj : Oper} (hj : ops[j]? = some oj) (hd : oj.dst = some t) : yielded ops a.tmps j = some v:=by
 have hG:=h.inv.er t
 rw [hv] at hG
 have hc:=oT hG
 have:=h.val t ht
 rw [hc,C.val] at this
 unfold yielded
 simp only [hj,Option.bind_some,hd]
 rw [Array.getD_eq_getD_getElem?] at this
 cases ht : a.tmps[t]? with
 | none=>rw [ht] at this; simp [undef] at this
 | some u =>
  rw [ht] at this
  simp only [Option.getD_some] at this
  rw [← this]
theorem St.ER (h : St c G zl s a w) (d : Option Nat) (hn : ∀ n,d = some n→n < c.nt) : ∃ G',St c G' zl (eR d (.au []) s) (a.put d undef) w:=by
 cases d with
 | none=>exact ⟨G,h⟩
 | some n=>exact h.put (x:=.au 0 fun _=>.dead undef) (hn n rfl) ⟨fun j hj=>(by omega),fun j hj=>(by omega)⟩ (fun _ _ b k ⟨j,hj,_⟩=>(by omega)) (fun b k ⟨j,hj,_⟩=>(by omega)) (fun j hj=>(by omega)) (fun b k ⟨j,hj,_⟩=>(by omega))
theorem Bw {t : Nat} {v : Bool} (hv : get s t = .bool v) : ∀ u,get s u = get ((t,.bool v) :: s) u:=fun u=>by
 rw [tn]
 split
 ·rename_i e; subst e; exact hv
 ·rfl
theorem QE (h : St c G zl s a w) {t j : Nat} (hv : get s t = .au []) (ht : t < base) {oj : Oper} (hj : ops[j]? = some oj) (hd : oj.dst = some t) : yielded ops a.tmps j = none:=by
 have hG:=h.inv.er t
 rw [hv] at hG
 have hval:=h.val t ht
 have : (G t).val = .tuple #[]:=by
  cases hc : G t with
  | au n f =>
   rw [hc] at hG
   simp only [C.er,X.au.injEq,List.map_eq_nil_iff,List.range_eq_nil] at hG
   subst hG
   rfl
  | _=>rw [hc] at hG; simp [C.er] at hG
 rw [this] at hval
 unfold yielded
 simp only [hj,Option.bind_some,hd]
 rw [Array.getD_eq_getD_getElem?] at hval
 cases ht : a.tmps[t]? with
 | none=>rfl
 | some u =>
  rw [ht] at hval
  simp only [Option.getD_some] at hval
  rw [← hval]
theorem Lw {i : Nat} {g : M.G} (h : St c G zl s a w) (hc : nh P c.nt ops i g = true) (hK : mY P g s K) (Q : Exit→Act→World→Prop) :
  wpOp P ops Q i (fun a' w'=>Rel (qa g.o) w w'∧sH c K a' w') a w:=by
 unfold nh at hc
 split at hc
 ·rename_i o ho
  simp only [Bool.and_eq_true,decide_eq_true_eq] at hc
  obtain ⟨⟨⟨hg,hd⟩,hn⟩,hop⟩:=hc
  unfold wpOp
  simp only [ho]
  obtain ⟨gg,go⟩:=g
  split at hg
  ·rename_i h1 h2
   subst h2
   have hw : Region.wanted o (yielded ops a.tmps) = true:=by simp [Region.wanted,h1]
   rw [if_pos hw]
   exact .inl ((Lz h hop hK).wp Q)
  ·rename_i j b t b' h1 h2
   subst h2
   simp only [Bool.and_eq_true,beq_iff_eq,decide_eq_true_eq] at hg
   obtain ⟨⟨rfl,ht⟩,hj⟩:=hg
   split at hj
   ·rename_i oj fD
    have hj:=of_decide_eq_true hj
    simp only [mY] at hK
    split at hK
    ·rename_i v hv
     have hy:=QD h hv ht fD hj
     obtain ⟨k1,k2⟩:=hK
     have pE : Region.wanted o (yielded ops a.tmps) = (v == b):=by
      simp only [Region.wanted,h1,hy]
      cases v <;> cases b <;> rfl
     rw [pE]
     by_cases jN : v = b
     ·subst jN
      rw [if_pos (by simp)]
      exact .inl ((Lz (h.congr (Bw hv)) hop (k1 rfl)).wp Q)
     ·have hnb : v = !b:=by cases v <;> cases b <;> first | rfl | exact absurd rfl jN
      rw [if_neg (by simpa using jN)]
      subst hnb
      obtain ⟨G',h'⟩:=(h.congr (Bw hv)).ER o.dst (fun n ig=>by
       rw [hd] at ig
       simp only [ig] at hn
       simpa using hn)
      rw [hd] at h' ⊢
      exact ⟨Rel.refl _ _,G',zl,_,k2 rfl,h'⟩
    ·rename_i hv
     have hy:=QE h hv ht fD hj
     have pE : Region.wanted o (yielded ops a.tmps) = false:=by
      simp only [Region.wanted,h1,hy]
      rfl
     rw [pE,if_neg (by simp)]
     obtain ⟨G',h'⟩:=h.ER o.dst (fun n ig=>by
      rw [hd] at ig
      simp only [ig] at hn
      simpa using hn)
     rw [hd] at h' ⊢
     exact ⟨Rel.refl _ _,G',zl,_,hK,h'⟩
    ·exact hK.elim
   ·cases hj
  ·cases hg
 ·cases hc
theorem Vz {i : Nat} {g : M.G} (h : St c G zl s a w) (hc : nh P c.nt ops i g = true) (hr : uS g.o = true) (hK : mY P g s K) :
  ∃ o v,ops[i]? = some o∧lZ P ops o v a w∧sH c K (a.put o.dst v) w:=by
 unfold nh at hc
 split at hc
 ·rename_i o ho
  simp only [Bool.and_eq_true,decide_eq_true_eq] at hc
  obtain ⟨⟨⟨hg,hd⟩,hn⟩,hop⟩:=hc
  obtain ⟨gg,go⟩:=g
  unfold vX at hop
  simp only at hr hop
  rw [hr] at hop
  simp only [cond_true] at hop
  refine ⟨o,?_⟩
  split at hg
  ·rename_i h1 h2
   subst h2
   have hw : Region.wanted o (yielded ops a.tmps) = true:=by simp [Region.wanted,h1]
   obtain ⟨v,hv,G',aD,s',k1,k2⟩:=F3 h hop hK
   exact ⟨v,ho,.inl ⟨hw,hv⟩,G',aD,s',k1,k2⟩
  ·rename_i j b t b' h1 h2
   subst h2
   simp only [Bool.and_eq_true,beq_iff_eq,decide_eq_true_eq] at hg
   obtain ⟨⟨rfl,ht⟩,hj⟩:=hg
   split at hj
   ·rename_i oj fD
    have hj:=of_decide_eq_true hj
    simp only [mY] at hK
    split at hK
    ·rename_i v hv
     have hy:=QD h hv ht fD hj
     obtain ⟨k1,k2⟩:=hK
     have pE : Region.wanted o (yielded ops a.tmps) = (v == b):=by
      simp only [Region.wanted,h1,hy]
      cases v <;> cases b <;> rfl
     by_cases jN : v = b
     ·subst jN
      obtain ⟨u,hu,G',aD,s',k3,k4⟩:=F3 (h.congr (Bw hv)) hop (k1 rfl)
      exact ⟨u,ho,.inl ⟨by rw [pE]; simp,hu⟩,G',aD,s',k3,k4⟩
     ·have hnb : v = !b:=by cases v <;> cases b <;> first | rfl | exact absurd rfl jN
      subst hnb
      obtain ⟨G',h'⟩:=(h.congr (Bw hv)).ER o.dst (fun n ig=>by
       rw [hd] at ig
       simp only [ig] at hn
       simpa using hn)
      refine ⟨undef,ho,.inr ⟨by rw [pE]; simp,rfl⟩,G',zl,_,k2 rfl,?_⟩
      rw [hd] at h' ⊢
      exact h'
    ·rename_i hv
     have hy:=QE h hv ht fD hj
     have pE : Region.wanted o (yielded ops a.tmps) = false:=by
      simp only [Region.wanted,h1,hy]
      rfl
     obtain ⟨G',h'⟩:=h.ER o.dst (fun n ig=>by
      rw [hd] at ig
      simp only [ig] at hn
      simpa using hn)
     refine ⟨undef,ho,.inr ⟨pE,rfl⟩,G',zl,_,hK,?_⟩
     rw [hd] at h' ⊢
     exact h'
    ·exact hK.elim
   ·cases hj
  ·cases hg
 ·cases hc
def iT (c : Ctx) (Q : Ex→ah→Prop) : Exit→Act→World→Prop
 | .normal,a,w=>sH c (Q .normal) a w
 | .exit id,a,w=>sH c (Q (.exit id)) a w
 | .ret,a,w=>sH c (Q .ret) a w
 | _,_,_=>False
def oL (P : Program) (nt : Nat) (ops : Array Oper) : Nat→List M.G→Bool
 | k,[]=>decide (k = ops.size)
 | k,g :: l=>nh P nt ops k g && oL P nt ops (k + 1) l
theorem OJ {Q : Ex→ah→Prop} : ∀ (l : List M.G) (k : Nat) {G : Nat→C} {zl : Nat→Nat→Prop} {s : ah} {a : Act} {w : World},oL P c.nt ops k l = true→St c G zl s a w→jj P l s Q→wpOps P ops (iT c Q) (List.range' k l.length) a w
 | [],k,G,zl,s,a,w,hc,h,hK=>⟨G,zl,s,hK,h⟩
 | g :: l,k,G,zl,s,a,w,hc,h,hK=>by
  simp only [oL,Bool.and_eq_true] at hc
  rw [List.length_cons,List.range'_succ,wpOps_cons]
  refine wpOp_mono (fun a' w' ⟨_,G',aD,s',k1,k2⟩=>?_) (Lw h hc.1 hK (iT c Q))
  exact OJ l (k + 1) hc.2 k2 k1
theorem Lx : ∀ (l : List M.G) (k : Nat),oL P c.nt ops k l = true→k + l.length = ops.size
 | [],k,h=>by simpa [oL] using h
 | g :: l,k,h=>by
  simp only [oL,Bool.and_eq_true] at h
  have:=Lx l (k + 1) h.2
  simp only [List.length_cons]
  omega
theorem adJ {Q : Ex→ah→Prop} {l : List M.G} {id : Nat} (hc : oL P c.nt ops 0 l = true) (h : St c G zl s a w) (hK : jj P l s Q) : (Code.region id ops false).wp P (iT c Q) a w:=by
 refine wp_region ?_
 have hl:=Lx l 0 hc
 rw [List.range_eq_range',← hl,Nat.zero_add]
 exact OJ l 0 hc h hK
theorem MH (HQ : List Nat) (s : ah) (t : Nat) : ∀ ks : List Nat,get (ks.map fun k=>(k,(get s k).only HQ)) t = if ks.contains t then (get s t).only HQ else .dead
 | []=>rfl
 | k :: ks=>by
  simp only [List.map_cons,get]
  by_cases h : k = t
  ·subst h
   simp
  ·have h1 : (k == t) = false:=by simpa using h
   have h2 : (k :: ks).contains t = ks.contains t:=by
    simp only [List.contains_cons]
    have : (t == k) = false:=by simpa using fun e=>h e.symm
    rw [this,Bool.false_or]
   rw [h1,h2,cond_false]
   exact MH HQ s t ks
theorem St.keep (h : St c G zl s a w) (ks : List Nat) : ∃ G',St c G' zl (M.keep ks s) a w:=by
 let G' : Nat→C:=fun t=>if ks.contains t then (G t).ay (C.others ks) else .dead (G t).val
 have hin : ∀ t,ks.contains t = true→G' t = (G t).ay (C.others ks):=fun t ht=>if_pos ht
 have hout : ∀ t,ks.contains t = false→G' t = .dead (G t).val:=fun t ht=>if_neg (by rw [ht]; simp)
 have hv : ∀ t,(G' t).val = (G t).val:=fun t=>by
  cases ht : ks.contains t with
  | true=>rw [hin t ht,C.iu]
  | false=>rw [hout t ht]; rfl
 have bV : ∀ t b k,(G' t).fp b k→(G t).fp b k:=fun t b k hf=>by
  cases ht : ks.contains t with
  | true=>rw [hin t ht,C.cu] at hf; exact hf
  | false=>rw [hout t ht] at hf; exact hf.elim
 refine ⟨G',h.move ⟨fun t=>?_,fun t=>?_,fun t u hne b k hf hf'=>h.inv.sep t u hne b k (bV t b k hf) (bV u b k hf'),fun t b k hf=>h.inv.fz t b k (bV t b k hf),fun t=>?_,h.inv.cm⟩ hv (Ext.refl (fun _ _=>False) w) (fun _ _ hs=>hs.elim) (fun t b k hf=>.inl ⟨t,bV t b k hf⟩)⟩
 ·unfold M.keep
  rw [MH]
  cases ht : ks.contains t with
  | true=>rw [hin t ht,C.yT,h.inv.er]; rfl
  | false=>rw [hout t ht]; rfl
 ·cases ht : ks.contains t with
  | true=>rw [hin t ht]; exact C.kH _ _ (h.inv.ok t)
  | false=>rw [hout t ht]; trivial
 ·cases ht : ks.contains t with
  | true =>
   rw [hin t ht]
   refine C.jZ (C.others ks) (fun s' q y hk hs=>?_) _ (C.fF _ _) (C.lN _ _ (h.inv.rf t))
   have hs' : ks.contains s' = true:=by simpa [C.others] using hk
   rw [hin s' hs']
   rcases C.self y _ q hs with ⟨z,hz,hs2⟩ | hno
   ·exact .inl ⟨_,hz.off _,C.iq _ q _ _ (h.inv.ok s') hs2⟩
   ·exact .inr hno
  | false=>rw [hout t ht]; trivial
def Be : bU→Bool
 | .ni _ _ _=>true
 | _=>false
theorem Wg {ev : Operand→Value} {o : Oper} {ty : TypeId} {fi : Nat} {x' : Operand} {fs : Array Field} {f : Field} {i : TypeInfo} (ho : o.op = .fieldAddr ty x' fi) (hu : P.underlying ty = some (.struct fs)) (hf : fs[fi]? = some f) (hi : P.info? f.type = some i) (hi0 : i.size≠0) {v : Value} {w : World} (h : (execOp ev o).run P w = .ok (.value v) w) (w' : World) : (execOp ev o).run P w' = .ok (.value v) w':=by
 cases hv : ev x' with
 | pointer p =>
  cases p with
  | none=>simp [execOp,ho,hv,Instr.fieldAt,Instr.sureAddr,run_underlying hu,hf] at h
  | some a =>
   simp [execOp,ho,hv,Instr.fieldAt,Instr.sureAddr,run_underlying hu,hf,fieldPlace,Go.sizeOf,typeInfo,hi,hi0] at h ⊢
   exact h
 | _=>simp [execOp,ho,hv,Instr.fieldAt,Instr.sureAddr,run_underlying hu,hf] at h
theorem Vy {i : Nat} {g : M.G} (hc : nh P c.nt ops i g = true) (he : Be g.o = true) {o : Oper} {v : Value} (ho : ops[i]? = some o) (hl : lZ P ops o v a w) : ox P ops o v a:=by
 rcases hl with ⟨h1,h2⟩ | h
 ·refine .inl ⟨h1,?_⟩
  have h3:=h2 w (Ext.refl _ _)
  unfold nh at hc
  rw [ho] at hc
  simp only [Bool.and_eq_true] at hc
  obtain ⟨_,hop⟩:=hc
  obtain ⟨gg,go⟩:=g
  cases go <;> simp only [Be] at he <;> try (cases he)
  unfold vX at hop
  simp only [uS,cond_true] at hop
  unfold AY at hop
  simp only [Bool.and_eq_true] at hop
  have hc:=hop.2
  split at hc
  ·rename_i hfo
   split at hc
   ·rename_i fs hfs
    split at hc
    ·rename_i f hf
     simp only [Bool.and_eq_true,decide_eq_true_eq,Bool.not_eq_true'] at hc
     obtain ⟨⟨⟨h5,h6⟩,h7⟩,h8⟩:=hc
     obtain ⟨i,hi⟩:=Option.isSome_iff_exists.1 h7
     exact fun w'=>Wg hfo hfs hf hi (fun h0=>by simp [jI,hi,h0] at h6) h3 w'
    ·cases hc
   ·cases hc
  ·cases hc
 ·exact .inr h
def DT.jr : DT→List Nat
 | .nil _=>[]
 | .step i _ _=>[i]
 | .alt a b=>a.jr ++ b.jr
 | .kp _ t=>t.jr
def DT.quiet : DT→Nat→Bool
 | .nil _,_=>true
 | .step i g t,j=>(if i = j then qa g.o else true) && t.quiet j
 | .alt a b,j=>a.quiet j && b.quiet j
 | .kp _ t,j=>t.quiet j
def GA (ops : Array Oper) (q : Nat→Bool) (t : Nat→Nat→Bool) (listed : Array Bool) (e : Bool) (i : Nat) : Bool:=match ops[i]? with
 | some oi=>(List.range ops.size).all fun j=>j == i || listed.getD j true || t j i || ((e || q j) && (match ops[j]? with
  | some oj=>oi.apart ops oj
  | none=>true))
 | none=>false
def fC (P : Program) (nt : Nat) (ops : Array Oper) (q : Nat→Bool) (bf : Nat→Nat→Bool) : DT→Nat→Array Bool→Bool→Bool
 | .nil _,_,listed,alt=>!alt && decide (Region.ready .any ops listed = [])
 | .step i g t,fuel,listed,alt=>(match fuel with
  | 0=>false
  | fuel + 1=>nh P nt ops i g && (!q i || qa g.o) && (alt || decide (Region.ready .any ops listed = [i]) || (uS g.o && (Region.ready .any ops listed).contains i && GA ops q bf listed (Be g.o) i)) && fC P nt ops q bf t fuel (listed.setIfInBounds i true) false)
 | .alt a b,fuel,listed,alt=>(alt || decide (Region.ready .any ops listed = a.jr ++ b.jr)) && fC P nt ops q bf a fuel listed true && fC P nt ops q bf b fuel listed true
 | .kp _ t,fuel,listed,alt=>fC P nt ops q bf t fuel listed alt
theorem MC {q : Nat→Bool} {t : Nat→Nat→Bool} {listed : Array Bool} {i : Nat} {oi : Oper} {e : Bool} (hi : ops[i]? = some oi) (h : GA ops q t listed e i = true) (j : Nat) (oj : Oper) (hj : ops[j]? = some oj) (hne : j≠i) (hun : listed.getD j true = false) (hno : t j i = false) : oi.apart ops oj = true∧(e = true∨q j = true):=by
 simp only [GA,hi,List.all_eq_true,List.mem_range] at h
 have h1:=h j (Array.getElem?_eq_some_iff.1 hj).1
 simp only [hj,Bool.or_eq_true,beq_iff_eq,hne,false_or,hun,Bool.false_eq_true,hno,Bool.and_eq_true] at h1
 exact ⟨h1.2,h1.1⟩
theorem sB {q : Nat→Bool} {bf : Nat→Nat→Bool} (jx : s8 ops bf = true) (hns : Region.noSelect ops = true) {Q : Ex→ah→Prop} : ∀ (t : DT) (fuel : Nat) (listed : Array Bool) {G : Nat→C} {zl : Nat→Nat→Prop} {s : ah} {a : Act} {w : World},Down ops listed→St c G zl s a w→gj P t s Q →
  (fC P c.nt ops q bf t fuel listed false = true→wpAnyQ P ops q (iT c Q) fuel listed a w) ∧
  ((∀ i∈t.jr,i∈Region.ready .any ops listed)→fC P c.nt ops q bf t fuel listed true = true→∃ f,fuel = f + 1∧∀ i∈t.jr,wpOp P ops (iT c Q) i (fun a' w'=>Rel (q i) w w'∧wpAnyQ P ops q (iT c Q) f (listed.setIfInBounds i true) a' w') a w)
 | .nil ks,fuel,listed,G,zl,s,a,w,hdn,h,hK=>by
  obtain ⟨G',h'⟩:=h.keep ks
  constructor
  ·intro hc
   simp only [fC,Bool.not_false,Bool.true_and,decide_eq_true_eq] at hc
   cases fuel with
   | zero=>exact ⟨hc,G',zl,_,hK,h'⟩
   | succ f=>exact ⟨fun _=>⟨G',zl,_,hK,h'⟩,by rw [hc]; intro i hi; cases hi⟩
  ·intro _ hc
   simp [fC] at hc
 | .step i g t,fuel,listed,G,zl,s,a,w,hdn,h,hK=>by
  cases fuel with
  | zero=>exact ⟨fun hc=>by simp [fC] at hc,fun _ hc=>by simp [fC] at hc⟩
  | succ f =>
   have wX : i∈Region.ready .any ops listed→Down ops (listed.setIfInBounds i true):=fun hr=>by
    obtain ⟨_,o,ho,hall⟩:=mem_ready.1 hr
    exact hdn.set ho hall
   have one : i∈Region.ready .any ops listed→fC P c.nt ops q bf t f (listed.setIfInBounds i true) false = true→nh P c.nt ops i g = true→(q i = true→qa g.o = true) →
     wpOp P ops (iT c Q) i (fun a' w'=>Rel (q i) w w'∧wpAnyQ P ops q (iT c Q) f (listed.setIfInBounds i true) a' w') a w:=fun tF ht hg hq =>
    wpOp_mono (fun a' w' ⟨hr,G',aD,s',k1,k2⟩=>⟨fun hqi=>hr (hq hqi),(sB jx hns t f _ (wX tF) k2 k1).1 ht⟩) (Lw h hg hK (iT c Q))
   constructor
   ·intro hc
    have hc0:=hc
    simp only [fC,Bool.and_eq_true,Bool.or_eq_true,decide_eq_true_eq,Bool.false_eq_true,false_or] at hc
    obtain ⟨⟨⟨hg,hq⟩,hr⟩,ht⟩:=hc
    have mq : q i = true→qa g.o = true:=fun hqi=>by rw [hqi] at hq; simpa using hq
    rcases hr with hr | ⟨⟨hr,hrd⟩,GW⟩
    ·refine ⟨fun h0=>(by rw [hr] at h0; cases h0),fun j hj=>?_⟩
     rw [hr,List.mem_singleton] at hj
     subst hj
     exact one (by rw [hr]; exact List.mem_singleton.2 rfl) ht hg mq
    ·obtain ⟨o,v,ho,hl,G',aD,s',k1,k2⟩:=Vz h hg hr hK
     have tF : i∈Region.ready .any ops listed:=by simpa using hrd
     cases he : Be g.o with
     | true =>
      exact aih ho (Region.noSelect_spec hns) (fun _ _ _ hh=>hh.elim) jx f listed a w hdn (fun j oj hj hne hun hno=>(MC ho GW j oj hj hne hun hno).1) tF (Vy hg he ho hl) ((sB jx hns t f _ (wX tF) k2 k1).1 ht)
     | false =>
      rw [he] at GW
      exact wpAnyQ_first ho (Region.noSelect_spec hns) (fun _ _ _ hh=>hh.elim) jx f listed a w hdn (fun j oj hj hne hun hno=>(MC ho GW j oj hj hne hun hno).imp id fun h=>h.resolve_left (by simp)) tF hl ((sB jx hns t f _ (wX tF) k2 k1).1 ht)
   ·intro G0 hc
    have hc0:=hc
    simp only [fC,Bool.and_eq_true,Bool.or_eq_true,decide_eq_true_eq,true_or] at hc
    obtain ⟨⟨⟨hg,hq⟩,_⟩,ht⟩:=hc
    have mq : q i = true→qa g.o = true:=fun hqi=>by rw [hqi] at hq; simpa using hq
    refine ⟨f,rfl,fun j hj=>?_⟩
    rw [DT.jr,List.mem_singleton] at hj
    subst hj
    exact one (G0 j (List.mem_singleton.2 rfl)) ht hg mq
 | .alt t1 t2,fuel,listed,G,zl,s,a,w,hdn,h,hK=>by
  have both : (∀ i∈t1.jr ++ t2.jr,i∈Region.ready .any ops listed)→fC P c.nt ops q bf t1 fuel listed true = true→fC P c.nt ops q bf t2 fuel listed true = true→∃ f,fuel = f + 1∧∀ i∈t1.jr ++ t2.jr,wpOp P ops (iT c Q) i (fun a' w'=>Rel (q i) w w'∧wpAnyQ P ops q (iT c Q) f (listed.setIfInBounds i true) a' w') a w:=fun hh h1 h2=>by
   obtain ⟨f,hf,i1⟩:=(sB jx hns t1 fuel listed hdn h hK.1).2 (fun i hi=>hh i (List.mem_append_left _ hi)) h1
   obtain ⟨f',hf',i2⟩:=(sB jx hns t2 fuel listed hdn h hK.2).2 (fun i hi=>hh i (List.mem_append_right _ hi)) h2
   have : f' = f:=by omega
   subst this
   exact ⟨f',hf,fun i hi=>(List.mem_append.1 hi).elim (i1 i) (i2 i)⟩
  constructor
  ·intro hc
   simp only [fC,Bool.and_eq_true,Bool.or_eq_true,decide_eq_true_eq,Bool.false_eq_true,false_or] at hc
   obtain ⟨⟨hr,h1⟩,h2⟩:=hc
   obtain ⟨f,rfl,hi⟩:=both (fun i hi=>by rw [hr]; exact hi) h1 h2
   refine ⟨fun h0=>?_,fun i hi'=>hi i (by rw [← hr]; exact hi')⟩
   exfalso
   rw [h0] at hr
   have ne : ∀ {t : DT},fC P c.nt ops q bf t (f + 1) listed true = true→t.jr≠[]:=by
    intro t
    induction t with
    | nil=>intro hh; simp [fC] at hh
    | step i g t _=>intro _ hh; cases hh
    | alt a b gJ _ =>
     intro hh he
     simp only [fC,Bool.and_eq_true] at hh
     rw [DT.jr,List.append_eq_nil_iff] at he
     exact gJ hh.1.2 he.1
    | kp ks t ih=>exact ih
   have:=(List.append_eq_nil_iff.1 hr.symm).1
   exact ne h1 this
  ·intro G0 hc
   simp only [fC,Bool.and_eq_true,Bool.or_eq_true,decide_eq_true_eq,true_or,true_and] at hc
   exact both G0 hc.1 hc.2
 | .kp ks t,fuel,listed,G,zl,s,a,w,hdn,h,hK=>by
  obtain ⟨G',h'⟩:=h.keep ks
  exact sB jx hns t fuel listed hdn h' hK
def waits (ops : Array Oper) (j i : Nat) : Bool:=((Region.before ops).getD j 0).testBit i
def F2 (P : Program) (nt : Nat) (ops : Array Oper) (t : DT) : Bool:=P.follows .mixedOrders && Region.noSelect ops && s8 ops (waits ops) && fC P nt ops t.quiet (waits ops) t ops.size (Array.replicate ops.size false) false
theorem V5 {Q : Ex→ah→Prop} {t : DT} {id : Nat} (hc : F2 P c.nt ops t = true) (h : St c G zl s a w) (hK : gj P t s Q) : (Code.region id ops true).wp P (iT c Q) a w:=by
 simp only [F2,Bool.and_eq_true] at hc
 obtain ⟨⟨⟨hm,hns⟩,jx⟩,hc⟩:=hc
 refine wp_region_any hm ?_
 have hE : Ext (fun _ _=>False) w w.drew:=Ext.drew w _
 have h' : St c G zl s a w.drew:=h.move (h.inv.world hE fun _ _ hs=>hs.elim) (fun _=>rfl) hE (fun _ _ hs=>hs.elim) (fun t b k hf=>.inl ⟨t,hf⟩)
 have hdn : Down ops (Array.replicate ops.size false):=fun k ok _ hl=>by
  exfalso
  simp only [Array.getD_eq_getD_getElem?,Array.getElem?_replicate] at hl
  split at hl <;> simp at hl
 exact ((sB jx hns t ops.size _ hdn h' hK).1 hc).any
end
end M
namespace M
open Go Go.RowKit
variable [Bs]
section
variable {P : Program} {c : Ctx} {G : Nat→C} {zl : Nat→Nat→Prop} {s s' : ah} {a : Act} {w : World}
def fO (P : Program) (nt : Nat) : A→Code→Bool
 | .skip,.skip=>true
 | .ret,.ret=>true
 | .exit id,.exit id'=>decide (id = id')
 | .ops l,.region _ ops false=>oL P nt ops 0 l
 | .draw t,.region _ ops true=>F2 P nt ops t
 | .seq a b,.seq x y=>fO P nt a x && fO P nt b y
 | .cond c a b,.cond c' x y=>aK c' c && fO P nt a x && fO P nt b y
 | .block id b,.block id' x=>decide (id = id') && fO P nt b x
 | .loop b,.loop x=>fO P nt b x
 | .pk _ b,x=>fO P nt b x
 | _,_=>false
theorem least (p : Nat→Prop) : (∃ n,p n)→∃ m,p m∧∀ k,p k→m≤k:=by
 rintro ⟨n,hn⟩
 induction n using Nat.strongRecOn with
 | _ n ih =>
  by_cases h : ∃ k,k < n∧p k
  ·obtain ⟨k,hk,hp⟩:=h
   exact ih k hk hp
  ·exact ⟨n,hn,fun k hk=>by
    rcases Nat.lt_or_ge k n with hlt | hge
    ·exact (h ⟨k,hlt,hk⟩).elim
    ·exact hge⟩
theorem VD : ∀ (t : A) (code : Code) {Q : Ex→ah→Prop} {G : Nat→C} {zl : Nat→Nat→Prop} {s : ah} {a : Act} {w : World},fO P c.nt t code = true→St c G zl s a w→dN P t s Q→code.wp P (iT c Q) a w:=by
 intro t
 induction t with
 | skip =>
  intro code Q G zl s a w hc h hK
  unfold fO at hc
  cases code <;> simp at hc
  exact wp_skip ⟨G,zl,s,hK,h⟩
 | ret =>
  intro code Q G zl s a w hc h hK
  unfold fO at hc
  cases code <;> simp at hc
  exact wp_ret ⟨G,zl,s,hK,h⟩
 | exit id =>
  intro code Q G zl s a w hc h hK
  unfold fO at hc
  cases code <;> simp at hc
  subst hc
  exact wp_exit ⟨G,zl,s,hK,h⟩
 | ops l =>
  intro code Q G zl s a w hc h hK
  unfold fO at hc
  cases code with
  | region id os d =>
   cases d with
   | false=>exact adJ hc h hK
   | true=>simp at hc
  | _=>simp at hc
 | draw t =>
  intro code Q G zl s a w hc h hK
  unfold fO at hc
  cases code with
  | region id os d =>
   cases d with
   | true =>
    exact V5 hc h hK
   | false=>simp at hc
  | _=>simp at hc
 | seq x y HE HF =>
  intro code Q G zl s a w hc h hK
  unfold fO at hc
  cases code with
  | seq x' y' =>
   simp only [Bool.and_eq_true] at hc
   refine wp_seq (wp_mono (HE x' hc.1 h hK) fun e a w he=>?_)
   cases e with
   | normal =>
    obtain ⟨G,zl,s,k,h⟩:=he
    exact HF y' hc.2 h k
   | exit id=>exact he
   | ret=>exact he
   | goto l=>exact he.elim
   | panic ch=>exact he.elim
   | outgrown=>exact he.elim
  | _=>simp at hc
 | cond cc x y HE HF =>
  intro code Q G zl s a w hc h hK
  unfold fO at hc
  cases code with
  | cond c' x' y' =>
   simp only [Bool.and_eq_true] at hc
   obtain ⟨⟨h1,h2⟩,h3⟩:=hc
   obtain ⟨d,e1,e2,e3⟩:=bQ h h1
   simp only [dN] at hK
   split at hK
   ·rename_i b hb
    rw [← e1] at hb
    have:=oT hb
    subst this
    exact wp_cond_split (by rw [← e2]; rfl) (fun ht=>HE x' h2 h (hK.1 ht)) (fun hf=>HF y' h3 h (hK.2 hf))
   ·exact hK.elim
  | _=>simp at hc
 | block id b ih =>
  intro code Q G zl s a w hc h hK
  unfold fO at hc
  cases code with
  | block id' x =>
   simp only [Bool.and_eq_true,decide_eq_true_eq] at hc
   obtain ⟨rfl,hc⟩:=hc
   refine wp_block (wp_mono (ih x hc h hK) fun e a w he=>?_)
   cases e with
   | normal=>exact he
   | exit i =>
    obtain ⟨G,zl,s,k,h⟩:=he
    simp only at k
    show if i = id then iT c Q .normal a w else iT c Q (.exit i) a w
    by_cases hi : i = id
    ·subst hi
     rw [if_pos rfl]
     simp only [beq_self_eq_true,cond_true] at k
     exact ⟨G,zl,s,k,h⟩
    ·rw [if_neg hi]
     have : (i == id) = false:=by simpa using hi
     rw [this] at k
     exact ⟨G,zl,s,k,h⟩
   | ret=>exact he
   | goto l=>exact he.elim
   | panic ch=>exact he.elim
   | outgrown=>exact he.elim
  | _=>simp at hc
 | loop b ih =>
  intro code Q G zl s a w hc h hK
  unfold fO at hc
  cases code with
  | loop x =>
   obtain ⟨I,⟨n,hn⟩,aaQ⟩:=hK
   let J : Nat→Act→World→Prop:=fun n a w=>sH c (I n) a w
   have G4:=fun a w=>least (fun n=>J n a w)
   let μ : Act→World→Nat:=fun a w=>by
    classical exact if hh : ∃ n,J n a w then Classical.choose (G4 a w hh) else 0
   have hμ : ∀ a w,(∃ n,J n a w)→J (μ a w) a w∧∀ k,J k a w→μ a w≤k:=fun a w hh=>by
    have hspec:=Classical.choose_spec (G4 a w hh)
    have : μ a w = Classical.choose (G4 a w hh):=dif_pos hh
    rw [this]
    exact hspec
   refine wp_loop (fun a w=>∃ n,J n a w) μ ?_ fun a w hI=>?_
   ·exact ⟨n,G,zl,s,hn,h⟩
   ·obtain ⟨⟨G1,qq,s1,k1,h1⟩,_⟩:=hμ a w hI
    refine wp_mono (ih x hc h1 (aaQ _ s1 k1)) fun e a' w' he=>?_
    cases e with
    | normal =>
     obtain ⟨G2,qt,s2,⟨m,hm,Z9⟩,h2⟩:=he
     have hJ : J m a' w':=⟨G2,qt,s2,Z9,h2⟩
     exact ⟨⟨m,hJ⟩,Nat.lt_of_le_of_lt ((hμ a' w' ⟨m,hJ⟩).2 m hJ) hm⟩
    | exit id=>exact he
    | ret=>exact he
    | goto l=>exact he.elim
    | panic ch=>exact he.elim
    | outgrown=>exact he.elim
  | _=>simp at hc
 | pk ks b ih =>
  intro code Q G zl s a w hc h hK
  have hc : fO P c.nt b code = true:=by
   cases b <;> cases code <;> first | exact hc | (rename_i d; cases d <;> exact hc)
  refine wp_mono (ih code hc h hK) fun e a w he=>?_
  cases e with
  | normal =>
   obtain ⟨G,zl,s,k,h⟩:=he
   obtain ⟨G',h'⟩:=h.keep ks
   exact ⟨G',zl,_,k,h'⟩
  | exit id=>exact he
  | ret=>exact he
  | goto l=>exact he.elim
  | panic ch=>exact he.elim
  | outgrown=>exact he.elim
end
end M
namespace M
open Go Go.RowKit
variable [Bs]
def z6 : Nat→List X→ah
 | _,[]=>[]
 | i,x :: l=>(i,alias (base + i) [] x) :: z6 (i + 1) l
def z7 : Nat→List X→ah
 | _,[]=>[]
 | i,x :: l=>(base + i,x) :: z7 (i + 1) l
def kU (xs : List X) : ah:=z6 0 xs ++ z7 0 xs
def X.kE : X→Bool
 | .au _=>true
 | _=>false
def post (x : X) : X:=bif x.clean then x else .dead
inductive RV where
 | t (n : Nat)
 | c (n sz : Nat) (agg : Bool) (ty : TypeId)
def dm : List RV→ah→List X×ah
 | [],s=>([],s)
 | .t n :: l,s=>((take .mv (ax s (.t n)) s).1 :: (dm l (take .mv (ax s (.t n)) s).2).1,(dm l (take .mv (ax s (.t n)) s).2).2)
 | .c n sz agg _ :: l,s=>((match get s n with
  | .ptr .own cs=>if cs.length = sz then (bif agg then .agg (X.fU n [] cs) else (X.fU n [] cs).headD (.au [])) else .au []
  | _=>.au []) :: (dm l (gM n [] .dead s)).1,(dm l (gM n [] .dead s)).2)
def rS : List X→X
 | [x]=>x
 | l=>.au l
def nY : Nat→Nat→ah→List X
 | _,0,_=>[]
 | i,n + 1,s=>post (get s (base + i)) :: nY (i + 1) n s
def Ends (rs : List RV) (n : Nat) (Q : X→List X→Prop) : Ex→ah→Prop
 | .exit _,_=>False
 | _,s=>X.clean.ck (dm rs s).1 = true∧(∀ x∈(dm rs s).1,x.kE = false)∧Q (rS (dm rs s).1) (nY 0 n (dm rs s).2)
namespace C
theorem qL : ∀ c : C,c.er.clean = true→c.bare
 | .ref _ _ _,h=>by simp [er,X.clean] at h
 | .aA _ _ _ _ _,h=>by simp [er,X.clean] at h
 | .cut _ _ _ _ _,h=>by simp [er,X.clean] at h
 | .ptr m g o n c,h=>fun j hj=>qL (c j) (by
   simp only [er,X.clean,Bool.and_eq_true] at h
   exact iW.1 h.2 _ (List.mem_map.2 ⟨j,by simpa using hj,rfl⟩))
 | .agg n c,h=>fun j hj=>qL (c j) (by
   simp only [er,X.clean] at h
   exact iW.1 h _ (List.mem_map.2 ⟨j,by simpa using hj,rfl⟩))
 | .au n c,h=>fun j hj=>qL (c j) (by
   simp only [er,X.clean] at h
   exact iW.1 h _ (List.mem_map.2 ⟨j,by simpa using hj,rfl⟩))
 | .fn f n c,h=>fun j hj=>qL (c j) (by
   simp only [er,X.clean] at h
   exact iW.1 h _ (List.mem_map.2 ⟨j,by simpa using hj,rfl⟩))
 | .dead _,_=>trivial
 | .int _ _,_=>trivial
 | .bool _,_=>trivial
 | .str _,_=>trivial
 | .row _ _ _ _ _ _,_=>trivial
variable {w : World} {zl zb : Nat→Nat→Prop}
theorem oM : ∀ c : C,c.er.clean = true→c.ok w (Zf zl zb)→c.ok w (Zf zl fun _ _=>False)
 | .ref _ _ _,h,_=>by simp [er,X.clean] at h
 | .aA _ _ _ _ _,h,_=>by simp [er,X.clean] at h
 | .cut _ _ _ _ _,h,_=>by simp [er,X.clean] at h
 | .row m sz A len cap e,h,ho=>by
  simp only [er,X.clean,Bool.and_eq_true] at h
  obtain ⟨h1,h2,h3,h4,h5⟩:=ho
  refine ⟨h1,fun i j hi hj=>?_,fun i j hi hj=>?_,h4,h5⟩
  ·obtain ⟨g,o,q1,q2,q3⟩:=h2 i j hi hj
   refine ⟨g,o,q1,q2,fun hm=>?_⟩
   cases m with
   | own=>exact (hm rfl).elim
   | sl=>exact q3 hm
   | af=>simp at h
  ·obtain ⟨a1,a2,a3,a4⟩:=h3 i j hi hj
   exact ⟨a1,a2,a3,oM (e i j) (LB.1 h.2 _ (List.mem_map.2 ⟨i,by simpa using hi,rfl⟩) _ (List.mem_map.2 ⟨j,by simpa using hj,rfl⟩)) a4⟩
 | .ptr m g o n c,h,ho=>by
  simp only [er,X.clean,Bool.and_eq_true] at h
  obtain ⟨h1,h2,h3,h4⟩:=ho
  refine ⟨fun j hj=>?_,h2,fun j hj=>?_,h4⟩
  ·obtain ⟨a1,a2,a3⟩:=h1 j hj
   refine ⟨a1,fun hm=>?_,a3⟩
   cases m with
   | own=>exact (hm rfl).elim
   | sl=>exact a2 hm
   | af=>simp at h
  ·obtain ⟨a1,a2,a3⟩:=h3 j hj
   exact ⟨a1,a2,oM (c j) (iW.1 h.2 _ (List.mem_map.2 ⟨j,by simpa using hj,rfl⟩)) a3⟩
 | .agg n c,h,ho=>by
  simp only [er,X.clean] at h
  exact ⟨fun j hj=>⟨(ho.1 j hj).1,oM (c j) (iW.1 h _ (List.mem_map.2 ⟨j,by simpa using hj,rfl⟩)) (ho.1 j hj).2⟩,ho.2⟩
 | .au n c,h,ho=>by
  simp only [er,X.clean] at h
  exact ⟨fun j hj=>⟨(ho.1 j hj).1,oM (c j) (iW.1 h _ (List.mem_map.2 ⟨j,by simpa using hj,rfl⟩)) (ho.1 j hj).2⟩,ho.2⟩
 | .fn f n c,h,ho=>fun j hj=>⟨oM (c j) (by
   simp only [er,X.clean] at h
   exact iW.1 h _ (List.mem_map.2 ⟨j,by simpa using hj,rfl⟩)) (ho j hj).1,(ho j hj).2⟩
 | .dead _,_,_=>trivial
 | .int _ _,_,_=>trivial
 | .bool _,_,_=>trivial
 | .str _,_,h=>h
end C
theorem MK (i : Nat) : ∀ (xs : List X) (r : ah) (t : Nat),get (z6 i xs ++ r) t = if i≤t∧t < i + xs.length then alias (base + t) [] (xs.getD (t - i) .dead) else get r t
 | [],r,t=>by
  rw [if_neg (by simp only [List.length_nil]; omega)]; rfl
 | x :: xs,r,t=>by
  simp only [z6,List.cons_append]
  rw [tn,MK (i + 1) xs]
  by_cases h : t = i
  ·subst h
   rw [if_pos rfl,if_pos ⟨Nat.le_refl _,by simp only [List.length_cons]; omega⟩,Nat.sub_self]
   rfl
  ·rw [if_neg h]
   by_cases h2 : i + 1≤t∧t < i + 1 + xs.length
   ·rw [if_pos h2,if_pos ⟨by omega,by simp only [List.length_cons]; omega⟩,show t - i = (t - (i + 1)) + 1 by omega]
    rfl
   ·rw [if_neg h2,if_neg (by simp only [List.length_cons]; omega)]
theorem ML (i : Nat) : ∀ (xs : List X) (t : Nat),get (z7 i xs) t = if base + i≤t∧t < base + i + xs.length then xs.getD (t - (base + i)) .dead else .dead
 | [],t=>by
  rw [if_neg (by simp only [List.length_nil]; omega)]; rfl
 | x :: xs,t=>by
  simp only [z7]
  rw [tn,ML (i + 1) xs]
  by_cases h : t = base + i
  ·subst h
   rw [if_pos rfl,if_pos ⟨Nat.le_refl _,by simp only [List.length_cons]; omega⟩,Nat.sub_self]
   rfl
  ·rw [if_neg h]
   by_cases h2 : base + (i + 1)≤t∧t < base + (i + 1) + xs.length
   ·rw [if_pos h2,if_pos ⟨by omega,by simp only [List.length_cons]; omega⟩,show t - (base + i) = (t - (base + (i + 1))) + 1 by omega]
    rfl
   ·rw [if_neg h2,if_neg (by simp only [List.length_cons]; omega)]
theorem aeo {w : World} {zl zb : Nat→Nat→Prop} {cs : List C} (h : ou w zl zb cs) (kz : AA w zl zb) {nt : Nat} (hn : cs.length≤nt) (hnt : nt≤base) :
  ∃ G,St ⟨w,fun b k=>∃ x∈cs,x.fp b k,zl,zb,nt,cs.map C.val⟩ G zl (kU (cs.map C.er)) ⟨(cs.map C.val).toArray ++ Array.replicate (nt - (cs.map C.val).toArray.size) undef,[]⟩ w:=by
 let G : Nat→C:=fun t=>if t < cs.length then (cs.getD t (.dead undef)).alias (base + t) [] else if base≤t∧t < base + cs.length then cs.getD (t - base) (.dead undef) else .dead undef
 have g1 : ∀ t,t < cs.length→G t = (cs.getD t (.dead undef)).alias (base + t) []:=fun t ht=>if_pos ht
 have g2 : ∀ t,t < cs.length→G (base + t) = cs.getD t (.dead undef):=fun t ht=>by
  show (if _ then _ else _ : C) = _
  rw [if_neg (by omega),if_pos (by omega),Nat.add_sub_cancel_left]
 have g3 : ∀ t,¬ t < cs.length→¬ (base≤t∧t < base + cs.length)→G t = .dead undef:=fun t h1 h2=>by
  show (if _ then _ else _ : C) = _
  rw [if_neg h1,if_neg h2]
 have hm : ∀ t,t < cs.length→cs.getD t (.dead undef)∈cs:=fun t ht=>cv ht _
 have AU : ∀ t,(t < cs.length∧t < base)∨(∃ u,u < cs.length∧t = base + u)∨(G t = .dead undef∧¬ t < cs.length∧¬ (base≤t∧t < base + cs.length)):=fun t=>by
  by_cases h1 : t < cs.length
  ·exact .inl ⟨h1,by omega⟩
  ·by_cases h2 : base≤t∧t < base + cs.length
   ·exact .inr (.inl ⟨t - base,by omega,by omega⟩)
   ·exact .inr (.inr ⟨g3 t h1 h2,h1,h2⟩)
 have hal : ∀ t,t < cs.length→(G t).ok w (Zf zl zb)∧(G t).rf G∧∀ b k,¬ (G t).fp b k:=fun t ht=>by
  rw [g1 t ht]
  have hx:=hm t ht
  exact C.KB (base + t) _ (g2 t ht) (h.ok _ hx) (C.oG G _ (h.bare _ hx))
 have bV : ∀ t b k,(G t).fp b k→∃ u,u < cs.length∧t = base + u∧(cs.getD u (.dead undef)).fp b k:=fun t b k hf=>by
  rcases AU t with ⟨h1,_⟩ | ⟨u,hu,rfl⟩ | ⟨h1,_⟩
  ·exact ((hal t h1).2.2 b k hf).elim
  ·rw [g2 u hu] at hf; exact ⟨u,hu,rfl,hf⟩
  ·rw [h1] at hf; exact hf.elim
 refine ⟨G,⟨⟨fun t=>?_,fun t=>?_,fun t u hne b k hf hf'=>?_,fun t b k hf=>?_,fun t=>?_,h.cm⟩,fun t ht=>?_,?_,hnt,rfl,⟨Ext.refl _ _,fun t b k hf=>?_,fun _ _ hz=>hz,fun _ _ hz=>.inl hz,kz,fun b k hb ⟨x,hx,hf⟩=>((kz b hb).2 k).elim (h.fz x hx b k hf).1 (h.fz x hx b k hf).2⟩,fun i v hi=>?_⟩⟩
 ·have hgd : ∀ u,(cs.map C.er).getD u .dead = (cs.getD u (.dead undef)).er:=fun u=>by
   rw [List.getD_eq_getElem?_getD,List.getD_eq_getElem?_getD,List.getElem?_map]
   cases cs[u]? <;> rfl
  unfold kU
  rw [MK,ML,List.length_map,hgd,hgd]
  rcases AU t with ⟨h1,h2⟩ | ⟨u,hu,rfl⟩ | ⟨h1,h2,h3⟩
  ·rw [if_pos ⟨by omega,by omega⟩,g1 t h1,C.KC,Nat.sub_zero]
  ·rw [if_neg (by omega),if_pos ⟨by omega,by omega⟩,g2 u hu,show base + u - (base + 0) = u by omega]
  ·rw [if_neg (by omega),if_neg (by omega),h1]; rfl
 ·rcases AU t with ⟨h1,_⟩ | ⟨u,hu,rfl⟩ | ⟨h1,_⟩
  ·exact (hal t h1).1
  ·rw [g2 u hu]; exact h.ok _ (hm u hu)
  ·rw [h1]; trivial
 ·obtain ⟨x,hx,e1,h1⟩:=bV t b k hf
  obtain ⟨y,hy,e2,h2⟩:=bV u b k hf'
  exact uR h.apart _ hx hy (fun e=>hne (by rw [e1,e2,e])) h1 h2
 ·obtain ⟨x,hx,e1,h1⟩:=bV t b k hf
  exact h.fz _ (hm x hx) b k h1
 ·rcases AU t with ⟨h1,_⟩ | ⟨u,hu,rfl⟩ | ⟨h1,_⟩
  ·exact (hal t h1).2.1
  ·rw [g2 u hu]; exact C.oG G _ (h.bare _ (hm u hu))
  ·rw [h1]; trivial
 ·rw [Array.getD_eq_getD_getElem?,Array.getElem?_append]
  simp only [List.size_toArray,List.length_map]
  by_cases h1 : t < cs.length
  ·rw [if_pos h1,g1 t h1,C.KD,List.getElem?_toArray,List.getElem?_map,List.getElem?_eq_getElem h1,nk (List.getElem?_eq_getElem h1)]
   rfl
  ·rw [if_neg h1,g3 t h1 (by omega),Array.getElem?_replicate]
   split <;> rfl
 ·simp only [Array.size_append,List.size_toArray,List.length_map,Array.size_replicate]
  omega
 ·obtain ⟨x,hx,e1,h1⟩:=bV t b k hf
  exact .inl ⟨_,hm x hx,h1⟩
 ·simp only [List.getElem?_map] at hi
  cases hc : cs[i]? with
  | none=>rw [hc] at hi; cases hi
  | some x =>
   rw [hc] at hi
   injection hi with hi
   have hlt:=(List.getElem?_eq_some_iff.1 hc).1
   rw [g2 i hlt,nk hc,hi]
end M
namespace M
open Go Go.RowKit
variable [Bs]
def qK (P : Program) : List ResultVar→List RV→Bool
 | [],[]=>true
 | .tmp t :: l,.t t' :: l'=>t == t' && decide (t < base) && qK P l l'
 | .cell a ty :: l,.c n sz agg ty' :: l'=>a == n && decide (n < base) && ty == ty' && jI P ty sz && rC P ty agg && (agg || decide (sz = 1)) && qK P l l'
 | _,_=>false
section
variable {P : Program} {w : World}
theorem ach (x : C) (h : x.er.kE = false) : x.ff:=by
 cases x <;> first | trivial | (simp [C.er,X.kE] at h)
def IE : List Value→Value
 | [v]=>v
 | l=>.tuple l.toArray
def y6 (tmps : Array Value) : ResultVar→Sem Value
 | .tmp t=>pure (tmps.getD t undef)
 | .cell a t=>do loadVar t (← asAddr (tmps.getD a undef))
theorem ad2 {fn : Func} {vs : List Value} (tmps : Array Value) (h : (fn.results.toList.mapM (y6 tmps)).run P w = .ok vs w) : (results fn tmps).run P w = .ok (IE vs) w:=by
 unfold results
 rw [Array.mapM_eq_mapM_toList]
 rw [Sem.run_bind,Sem.run_map]
 erw [h]
 simp only [Result.andThen_ok,Sem.run_pure]
 match vs with
 | []=>rfl
 | [v]=>rfl
 | u :: v :: l=>simp [IE]
theorem JM {c : Ctx} {zl : Nat→Nat→Prop} {a : Act} : ∀ {l' : List ResultVar} {l : List RV},qK P l' l = true→∀ {G : Nat→C} {s : ah},St c G zl s a w→(∀ x∈(dm l s).1,x.kE = false) →
  ∃ cs G',cs.map C.er = (dm l s).1∧(l'.mapM (y6 a.tmps)).run P w = .ok (cs.map C.val) w∧bx w zl c.zb G cs G' (dm l s).2
 | [],[],_,G,s,h,_=>⟨[],G,rfl,by simp,bx.nil h.inv⟩
 | .tmp t :: l',.t t' :: l,hc,G,s,h,hk=>by
  simp only [qK,Bool.and_eq_true,beq_iff_eq,decide_eq_true_eq] at hc
  obtain ⟨⟨rfl,ht⟩,hc⟩:=hc
  obtain ⟨p,p1,p2,p3⟩:=bQ h (o:=.tmp t) (x:=.t t) (by simp [aK,ht])
  obtain ⟨y,G1,f1,f2,f3,f4⟩:=oo .mv h.inv p3
  rw [p1] at f1 f4
  obtain ⟨cs,G',g1,g2,g3⟩:=JM hc (h.vw f4) fun x hx=>hk x (List.mem_cons_of_mem _ hx)
  refine ⟨y :: cs,G',by simp [dm,f1,g1],?_,bx.cons f4 g3⟩
  have hv : a.tmps.getD t undef = y.val:=by rw [f2,p2]; rfl
  simp only [List.mapM_cons,y6,Sem.run_bind,Sem.run_pure,Result.andThen_ok,g2,hv,List.map_cons]
 | .cell ad ty :: l',.c n sz agg ty' :: l,hc,G,s,h,hk=>by
  simp only [qK,Bool.and_eq_true,beq_iff_eq,decide_eq_true_eq] at hc
  obtain ⟨⟨⟨⟨⟨⟨rfl,ht⟩,rfl⟩,hsz⟩,k8⟩,h1⟩,hc⟩:=hc
  have hk0 : (match get s ad with
   | .ptr .own cs=>if cs.length = sz then (bif agg then .agg (X.fU ad [] cs) else (X.fU ad [] cs).headD (.au [])) else .au []
   | _=>.au [] : X).kE = false:=hk _ (List.mem_cons_self ..)
  split at hk0
  ·rename_i cs0 hg
   split at hk0
   ·rename_i hlen
    obtain ⟨D,G1,t1,t2,t3,t4,t5,t6,t7,t8,t9,t10,t11,t12⟩:=h.inv.sA ad [] (G ad) rfl
    rw [h.inv.er,hg] at t1
    simp only [X.kill] at t1
    obtain ⟨g,o,m,f,rfl,hcs⟩:=Gl t1
    have hm : m = sz:=by
     have:=congrArg List.length hcs
     rw [X.HP] at this
     simpa [hlen] using this.symm
    subst hm
    obtain ⟨q1,q2,q3,q4⟩:=t4
    have hin : ∀ j,j < m→∀ b k,(f j).fp b k→(C.ptr .own g o m f).fp b k:=fun j hj b k hf=>C.jy (q3 j hj).1 (q3 j hj).2.1 hj hf
    have GL : a.tmps.getD ad undef = .pointer (some ⟨g,o,none⟩):=by rw [← h.val ad ht,← t2]; rfl
    obtain ⟨ii,hi,jt⟩:=o8 hsz
    obtain ⟨dd,wJ,hda⟩:=xM k8
    have q5 : (isAgg ty).run P w = .ok agg w:=by
     subst hda
     simp only [isAgg,Sem.run_bind,run_underlying wJ,Result.andThen_ok]
     cases dd <;> rfl
    have hsize : (Go.sizeOf ty).run P w = .ok m w:=by simp [Go.sizeOf,typeInfo,hi,jt]
    have hl : (loadCells ⟨g,o,none⟩ m).run P w = .ok ((List.range m).map fun j=>(f j).val).toArray w:=run_loadCells w _ m _ (fun j hj=>by rw [oA]; exact (q1 j hj).1)
    have fin : ∀ y : C,(∀ b k,y.fp b k→(C.ptr .own g o m f).fp b k)→y.ok w (Zf zl c.zb)→y.rf G1→y.er = (if cs0.length = m then (bif agg then .agg (X.fU ad [] cs0) else (X.fU ad [] cs0).headD (.au [])) else .au [])→(loadVar ty ⟨g,o,none⟩).run P w = .ok y.val w →
      ∃ cs G',cs.map C.er = (dm (.c ad m agg ty :: l) s).1∧((ResultVar.cell ad ty :: l').mapM (y6 a.tmps)).run P w = .ok (cs.map C.val) w∧bx w zl c.zb G cs G' (dm (.c ad m agg ty :: l) s).2:=fun y Kj yok yrf yer aiB=>by
     have iG : ey w zl c.zb G y G1 (gM ad [] .dead s):=⟨t3,yok,yrf,fun t b k hf=>t8 t b k (Kj b k hf),fun b k hf=>h.inv.fz ad b k (t9 b k (Kj b k hf)),t10,fun b k hf=>⟨ad,t9 b k (Kj b k hf)⟩,t11⟩
     obtain ⟨cs,G',g1,g2,g3⟩:=JM hc (h.vw iG) fun x hx=>hk x (List.mem_cons_of_mem _ hx)
     refine ⟨y :: cs,G',?_,?_,bx.cons iG g3⟩
     ·simp only [List.map_cons,dm,hg,yer,g1]
     ·simp only [List.mapM_cons,y6,GL,asAddr,Sem.run_bind,Sem.run_pure,Result.andThen_ok,aiB,g2,List.map_cons]
    cases agg with
    | true =>
     refine fin (.agg m f) (fun b k ⟨j,hj,hf⟩=>hin j hj b k hf) ⟨fun j hj=>⟨(q3 j hj).1,(q3 j hj).2.2⟩,fun j hj b k hf=>(q4 j hj b k hf).2⟩ t5 ?_ ?_
     ·rw [if_pos hlen,cond_true,hcs]; rfl
     ·simp only [loadVar,Sem.run_bind,q5,Result.andThen_ok,if_true,hsize,hl,Sem.run_pure]
      rfl
    | false =>
     have hs1 : m = 1:=by simpa using h1
     subst hs1
     refine fin (f 0) (fun b k hf=>hin 0 (by omega) b k hf) (q3 0 (by omega)).2.2 (t5 0 (by omega)) ?_ ?_
     ·rw [if_pos hlen,cond_false,hcs]; rfl
     ·have:=(q1 0 (by omega)).1
      simp only [loadVar,Sem.run_bind,q5,Result.andThen_ok,Bool.false_eq_true,if_false,run_load]
      simp only [Nat.add_zero] at this
      rw [this]
   ·simp [X.kE] at hk0
  ·simp [X.kE] at hk0
 | [],_ :: _,hc,_,_,_,_=>by cases hc
 | .tmp _ :: _,[],hc,_,_,_,_=>by cases hc
 | .cell _ _ :: _,[],hc,_,_,_,_=>by cases hc
 | .tmp _ :: _,.c _ _ _ _ :: _,hc,_,_,_,_=>by cases hc
 | .cell _ _ :: _,.t _ :: _,hc,_,_,_,_=>by cases hc
theorem adz {c : Ctx} {G : Nat→C} {zl : Nat→Nat→Prop} {s : ah} (h : Inv w zl c.zb G s) (t : Nat) : ∃ p : C,p.er = post (get s t)∧p.val = (G t).val∧p.ok w (Zf zl fun _ _=>False)∧p.bare∧∀ b k,p.fp b k→(G t).fp b k:=by
 unfold post
 cases hc : (get s t).clean with
 | true =>
  rw [← h.er] at hc
  exact ⟨G t,h.er t,rfl,C.oM _ hc (h.ok t),C.qL _ hc,fun _ _ hf=>hf⟩
 | false=>exact ⟨.dead (G t).val,rfl,rfl,trivial,trivial,fun _ _ hf=>hf.elim⟩
theorem OU {c : Ctx} {G : Nat→C} {zl : Nat→Nat→Prop} {s : ah} (h : Inv w zl c.zb G s) : ∀ (n i : Nat),∃ ps : List C,ps.map C.er = nY i n s∧ps.map C.val = (List.range' i n).map (fun j=>(G (base + j)).val)∧(∀ p∈ps,p.ok w (Zf zl fun _ _=>False)∧p.bare∧∃ t,i≤t∧∀ b k,p.fp b k→(G (base + t)).fp b k)∧ps.Pairwise fun a b=>∀ x k,a.fp x k→¬ b.fp x k
 | 0,i=>⟨[],rfl,rfl,fun _ hx=>(by cases hx),List.Pairwise.nil⟩
 | n + 1,i=>by
  obtain ⟨p,p1,p2,p3,p4,p5⟩:=adz h (base + i)
  obtain ⟨ps,q1,q2,q3,q4⟩:=OU h n (i + 1)
  refine ⟨p :: ps,by simp [nY,p1,q1],by simp [List.range'_succ,p2,q2],fun x hx=>?_,List.pairwise_cons.2 ⟨fun x hx b k hf hf'=>?_,q4⟩⟩
  ·rcases List.mem_cons.1 hx with rfl | hx
   ·exact ⟨p3,p4,i,Nat.le_refl _,p5⟩
   ·obtain ⟨a1,a2,t,ht,a3⟩:=q3 x hx
    exact ⟨a1,a2,t,by omega,a3⟩
  ·obtain ⟨_,_,t,ht,a3⟩:=q3 x hx
   exact h.sep (base + i) (base + t) (by omega) b k (p5 b k hf) (a3 b k hf')
structure Told (P : Program) (f : FuncId) (t : A) (rs : List RV) (n : Nat) : Prop where
 told : ∃ fn code,P.funcs[f]? = some fn∧fn.body = some code∧fO P fn.ntmps t code = true∧qK P fn.results.toList rs = true∧fn.ntmps≤base∧n≤fn.ntmps
theorem Told.ac {f : FuncId} {t : A} {rs : List RV} {n : Nat} (hT : Told P f t rs n) {xs : List X} (hn : xs.length = n) {Q : X→List X→Prop} (h : dN P t (kU xs) (Ends rs n Q)) : AC P f xs Q:=by
 intro w zl zb cs hxs hA kz
 obtain ⟨fn,code,hf,hb,hc,hr,hnt,ig⟩:=hT.told
 have hcl : cs.length = n:=by rw [← hn,← hxs]; simp
 obtain ⟨G,hst⟩:=aeo hA kz (nt:=fn.ntmps) (by omega) hnt
 rw [hxs] at hst
 refine calls_of_wp hf hb (wp_mono (VD t code hc hst h) fun e a w' he=>?_)
 have fin : ∀ {G : Nat→C} {aD : Nat→Nat→Prop} {s : ah},St ⟨w,fun b k=>∃ x∈cs,x.fp b k,zl,zb,fn.ntmps,cs.map C.val⟩ G aD s a w'→(X.clean.ck (dm rs s).1 = true∧(∀ x∈(dm rs s).1,x.kE = false)∧Q (rS (dm rs s).1) (nY 0 n (dm rs s).2)) →
   a.defers = []∧∃ v,(results fn a.tmps).run P w' = .ok v w'∧∃ r ps aD,Kr w zl cs (.returned v) w' r ps aD∧Q r.er (ps.map C.er):=by
  intro G aD s h ⟨k1,k2,k3⟩
  obtain ⟨lR,G1,g1,g2,iG⟩:=JM hr h k2
  refine ⟨h.defers,_,ad2 a.tmps g2,?_⟩
  rw [← g1] at k1 k2 k3
  obtain ⟨ps,p1,p2,p3,p4⟩:=OU (c:=⟨w,fun b k=>∃ x∈cs,x.fp b k,zl,zb,fn.ntmps,cs.map C.val⟩) iG.inv n 0
  have hrc : ∀ x∈lR,x.er.clean = true:=fun x hx=>iW.1 k1 _ (List.mem_map_of_mem hx)
  obtain ⟨r,r1,r2,r3,r4,r5⟩ : ∃ r : C,r.er = rS (lR.map C.er)∧r.val = IE (lR.map C.val)∧r.ok w' (Zf aD fun _ _=>False)∧r.bare∧∀ b k,r.fp b k→∃ x∈lR,x.fp b k:=by
   by_cases h1 : lR.length = 1
   ·obtain ⟨x,rfl⟩:=List.length_eq_one_iff.1 h1
    refine ⟨x,rfl,rfl,C.oM x (hrc x (List.mem_singleton.2 rfl)) (iG.all x (List.mem_singleton.2 rfl)).1,C.qL x (hrc x (List.mem_singleton.2 rfl)),fun b k hf=>⟨x,List.mem_singleton.2 rfl,hf⟩⟩
   ·refine ⟨.au lR.length fun j=>lR.getD j (.dead undef),?_,?_,⟨fun j hj=>⟨?_,C.oM _ (hrc _ (cv hj _)) (iG.all _ (cv hj _)).1⟩,fun j hj b k hf j' hj' hne=>uR iG.apart _ hj hj' hne hf⟩,fun j hj=>C.qL _ (hrc _ (cv hj _)),fun b k ⟨j,hj,hf⟩=>⟨_,cv hj _,hf⟩⟩
    ·show X.au _ = _
     rw [kI lR _ C.er]
     cases lR with
     | nil=>rfl
     | cons x l=>cases l with
      | nil=>simp at h1
      | cons y l=>rfl
    ·show Value.tuple _ = _
     rw [kI lR _ C.val]
     cases lR with
     | nil=>rfl
     | cons x l=>cases l with
      | nil=>simp at h1
      | cons y l=>rfl
    ·have:=k2 _ (List.mem_map_of_mem (cv hj (.dead undef)))
     exact ach _ this
  refine ⟨r,ps,aD,?_,by rw [r1,p1]; exact k3⟩
  have aam : ∀ t b k,(G1 t).fp b k→(∃ y∈cs,y.fp b k)∨w.heap.size≤b:=fun t b k hf=>h.tr.dom t b k (iG.mono t b k hf)
  have hrd : ∀ b k,r.fp b k→(∃ y∈cs,y.fp b k)∨w.heap.size≤b:=fun b k hf=>by
   obtain ⟨x,hx,hf⟩:=r5 b k hf
   obtain ⟨t,ht⟩:=(iG.all x hx).2.2.2 b k hf
   exact h.tr.dom t b k ht
  refine ⟨by rw [r2],?_,h.tr.ext,⟨fun x hx=>?_,fun x hx=>?_,fun x hx b k hf=>?_,fun b k hz=>iG.inv.cm b k (hz.imp id fun h=>h.elim),List.pairwise_cons.2 ⟨fun x hx b k hf hf'=>?_,p4⟩⟩,fun x hx b k hf=>?_,h.tr.mV,h.tr.zl⟩
  ·rw [p2,List.range_eq_range'.symm]
   apply List.ext_getElem?
   intro i
   rw [List.getElem?_map,List.getElem?_map]
   by_cases hi : i < n
   ·rw [List.getElem?_range hi,List.getElem?_eq_getElem (by omega)]
    simp only [Option.map_some,Option.some.injEq]
    rw [iG.val]
    exact h.args i _ (by rw [List.getElem?_map,List.getElem?_eq_getElem (by omega)]; rfl)
   ·rw [List.getElem?_eq_none (by simp; omega),List.getElem?_eq_none (by omega)]
    rfl
  ·rcases List.mem_cons.1 hx with rfl | hx
   ·exact r3
   ·exact (p3 x hx).1
  ·rcases List.mem_cons.1 hx with rfl | hx
   ·exact r4
   ·exact (p3 x hx).2.1
  ·refine ⟨?_,fun h=>h⟩
   rcases List.mem_cons.1 hx with rfl | hx
   ·obtain ⟨y,hy,hf⟩:=r5 b k hf
    exact ((iG.all y hy).2.2.1 b k hf).1
   ·obtain ⟨_,_,t,_,a3⟩:=p3 x hx
    exact (iG.inv.fz _ b k (a3 b k hf)).1
  ·obtain ⟨y,hy,hf⟩:=r5 b k hf
   obtain ⟨_,_,t,_,a3⟩:=p3 x hx
   exact (iG.all y hy).2.1 _ b k hf (a3 b k hf')
  ·rcases List.mem_cons.1 hx with rfl | hx
   ·exact hrd b k hf
   ·obtain ⟨_,_,t,_,a3⟩:=p3 x hx
    exact aam _ b k (a3 b k hf)
 cases e with
 | normal=>obtain ⟨G,aD,s,k,h⟩:=he; exact fin h k
 | ret=>obtain ⟨G,aD,s,k,h⟩:=he; exact fin h k
 | exit id=>obtain ⟨G,aD,s,k,h⟩:=he; exact k.elim
 | goto l=>exact he.elim
 | panic ch=>exact he.elim
 | outgrown=>exact he.elim
def PY (P : Program) (fn : Func) (t : A) (rs : List RV) (n : Nat) : Bool:=match fn.body with
 | some code=>fO P fn.ntmps t code && qK P fn.results.toList rs && decide (fn.ntmps≤base) && decide (n≤fn.ntmps)
 | none=>false
theorem Told.of {f : FuncId} {fn : Func} {t : A} {rs : List RV} {n : Nat} (hf : P.funcs[f]? = some fn) (h : PY P fn t rs n = true) : Told P f t rs n:=by
 unfold PY at h
 split at h
 ·rename_i code hc
  simp only [Bool.and_eq_true,decide_eq_true_eq] at h
  exact ⟨fn,code,hf,hc,h.1.1.1,h.1.1.2,h.1.2,h.2⟩
 ·cases h
end
end M
namespace M
open Go
theorem AC.mono [Bs] {P : Program} {f : FuncId} {xs : List X} {Q Q' : X→List X→Prop} (h : AC P f xs Q) (hq : ∀ r ps,Q r ps→Q' r ps) : AC P f xs Q' :=
 fun w zl zb cs e a g=>(h w zl zb cs e a g).mono fun _ _ ⟨r,ps,aD,d,q⟩=>⟨r,ps,aD,d,hq _ _ q⟩
abbrev Out:=X×List X
abbrev bZ:=FuncId→List X→Option Out
def tV (f : FuncId) : X→Bool
 | .fn g _=>g == f
 | _=>false
def sZ (s1 : ah) (fv : Option AV) (f : FuncId) : Bool:=match fv with
 | none=>true
 | some x=>tV f (ax s1 x)
abbrev vJ:=X→Option ah
def Dv (r : Nat) (p : Path) (s : ah) (n : Nat) (x : X) : Option (X×vJ) :=
 match x with
 | .ref _ _=>(match look s r p with
  | some (.row .own z xs)=>some (.row .own z xs,fun y=>match y with
   | .row .own z' ys=>if z' = z then some (gA r p (.row .own z ys) s) else none
   | _=>none)
  | _=>none)
 | .aA _ _ i c=>(match look s r p with
  | some (.ptr .own cs)=>if c + n≤cs.length then some (.ptr .own ((cs.drop c).take n),fun y=>match y with
   | .ptr .own ys=>if ys.length = n then some (gA r p (.ptr .own (cs.take c ++ ys ++ cs.drop (c + n))) s) else none
   | _=>none) else none
  | some (.row .own z xs)=>(match xs[i]? with
   | some e=>if c + n≤e.length then some (.ptr .own ((e.drop c).take n),fun y=>match y with
    | .ptr .own ys=>if ys.length = n then (if ga ys = true then some (gA r p (.row .own z (xs.set i (e.take c ++ ys ++ e.drop (c + n)))) s) else none) else none
    | _=>none) else none
   | none=>none)
  | _=>none)
 | _=>none
def nZ (d : Option Nat) (s : ah) : Option Out→Option ah
 | some o=>some (eR d o.1 s)
 | none=>none
def yZ (d : Option Nat) (as : List (AV×PM)) (back : vJ) : Option Out→Option ah
 | some o=>(match back (jA as o.2) with
  | some s'=>some (eR d o.1 s')
  | none=>none)
 | none=>none
def AR (C : bZ) (f : FuncId) (d : Option Nat) (as : List (AV×PM)) (fv : Option AV) (ms : List X) (s0 : ah) : Option (X×vJ)→Option ah
 | some (y,back)=>if X.bare y = true∧sZ s0 fv f = true then yZ d as back (C f (fy s0 y as ms ++ l6 s0 fv)) else none
 | none=>none
def oI (C : bZ) (f : FuncId) (d : Option Nat) (as : List (AV×PM)) (fv : Option AV) (s : ah) : Option ah :=
 if X.bare.iB (bJ as s).1 = true then
 match di as with
 | none=>if sZ (bJ as s).2 fv f = true then nZ d (bJ as s).2 (C f (fy (bJ as s).2 .dead as (bJ as s).1 ++ l6 (bJ as s).2 fv)) else none
 | some (x,n)=>AR C f d as fv (bJ as s).1 (gM (placeOf (ax (bJ as s).2 x)).1 (placeOf (ax (bJ as s).2 x)).2 .dead (bJ as s).2) (Dv (placeOf (ax (bJ as s).2 x)).1 (placeOf (ax (bJ as s).2 x)).2 (bJ as s).2 n (ax (bJ as s).2 x))
 else none
def AM (op : BinOp) : X→X→Bool
 | .int k a,.int k' b=>match op with
  | .shl=>decide (0≤b)
  | .shr=>decide (0≤b)
  | .quo=>decide (k = k') && !decide (b = 0)
  | .rem=>decide (k = k') && !decide (b = 0)
  | .andNot=>false
  | _=>decide (k = k')
 | .str a,.str b=>match op with
  | .add=>decide (a.size + b.size≤9223372036854775807)
  | .eql=>true
  | .neq=>true
  | _=>false
 | _,_=>false
theorem Ta {op : BinOp} {x y : X} (h : AM op x y = true) : sS op x y:=by
 cases x <;> cases y <;> cases op <;> simp_all [AM,sS]
def EP (op : UnOp) : X→Bool
 | .int _ _=>match op with
  | .neg=>true
  | _=>false
 | .bool _=>match op with
  | .not=>true
  | _=>false
 | _=>false
theorem aib {op : UnOp} {x : X} (h : EP op x = true) : vB op x:=by
 cases x <;> cases op <;> simp_all [EP,vB]
def CD : List X→Option UInt8
 | [.int .u8 n]=>if 0≤n∧n < 256 then some (UInt8.ofNat n.toNat) else none
 | _=>none
theorem aa7 {e : List X} {b : UInt8} (h : CD e = some b) : e = [.int .u8 b.toNat]:=by
 unfold CD at h
 split at h
 ·split at h
  ·rename_i n hn
   obtain rfl:=Option.some.inj h
   have : (UInt8.ofNat n.toNat).toNat = n.toNat:=by
    rw [UInt8.toNat_ofNat']
    exact Nat.mod_eq_of_lt (by omega)
   rw [this]
   congr 2
   omega
  ·cases h
 ·cases h
def qo : List (List X)→Option (List UInt8)
 | []=>some []
 | e :: l=>match CD e,qo l with
  | some b,some r=>some (b :: r)
  | _,_=>none
theorem P4 : ∀ {xs : List (List X)} {l : List UInt8},qo xs = some l→xs = l.map fun b=>[.int .u8 b.toNat]
 | [],l,h=>by cases h; rfl
 | e :: r,l,h=>by
  unfold qo at h
  split at h
  ·rename_i b r' h1 h2
   obtain rfl:=Option.some.inj h
   rw [aa7 h1,P4 h2]; rfl
  ·cases h
theorem P5 (l : List UInt8) : qo (l.map fun b=>[.int .u8 (b.toNat : Int)]) = some l:=by
 induction l with
 | nil=>rfl
 | cons b l ih =>
  simp only [List.map_cons,qo,ih]
  have : CD [.int .u8 (b.toNat : Int)] = some b:=by
   have h:=b.toNat_lt
   show (if 0≤(b.toNat : Int)∧(b.toNat : Int) < 256 then some (UInt8.ofNat (b.toNat : Int).toNat) else none) = some b
   rw [if_pos ⟨by omega,by omega⟩]
   simp
  rw [this]
def gy : List (List X)→Bool
 | []=>true
 | e :: l=>e.all scalar && gy l
theorem JC {xs : List (List X)} (h : gy xs = true) : scalars xs:=by
 induction xs with
 | nil=>intro e he; cases he
 | cons a l ih =>
  simp only [gy,Bool.and_eq_true,List.all_eq_true] at h
  intro e he c hc
  rcases List.mem_cons.1 he with rfl | he
  ·exact h.1 c hc
  ·exact ih h.2 e he c hc
def zW (h : Tk) (l : List X) : Bool:=match h with
 | .al=>true
 | _=>l.all fun x=>ga (cellsOf x)
theorem aed {h : Tk} {l : List X} (e : zW h l = true) : EB h l:=by
 cases h
 ·intro x hx; exact (List.all_eq_true.1 e) x hx
 ·trivial
 ·intro x hx; exact (List.all_eq_true.1 e) x hx
def sx : List Nat→List X→Bool
 | [],[]=>true
 | n :: ns,y :: ys=>((cellsOf y).length == n) && sx ns ys
 | _,_=>false
theorem Px : ∀ {ns : List Nat} {ys : List X},sx ns ys = true→vp ns ys
 | [],[],_=>trivial
 | [],_ :: _,h=>by cases h
 | _ :: _,[],h=>by cases h
 | n :: ns,y :: ys,h=>by
  simp only [sx,Bool.and_eq_true,beq_iff_eq] at h
  exact ⟨h.1,Px h.2⟩
def uB (sz : Nat) (l : List X) : Bool:=l.all fun x=>((cellsOf x).length == sz) && ga (cellsOf x)
def EC (s : ah) (r : Nat) (p : Path) (i c : Nat) (l : List X) : Bool:=match look s r p with
 | some (.row .own _ xs)=>(match xs[i]? with
  | some e=>decide (c + l.length≤e.length) && ga l
  | none=>false)
 | some (.ptr .own cs)=>decide (c + l.length≤cs.length)
 | _=>false
theorem aes {s : ah} {r : Nat} {p : Path} {i c : Nat} {l : List X} (h : EC s r p i c l = true) : storable s r p i c l:=by
 unfold EC at h
 unfold storable
 split at h
 ·split at h
  ·rename_i h1 _ _ h2
   rw [h1]; simp only [h2]
   simpa using h
  ·cases h
 ·rename_i h1
  rw [h1]
  simpa using h
 ·cases h
def OX (d : Option Nat) (cs : List X) (s1 : ah) : Option Out→Option ah
 | some (r,.agg ys :: _)=>if ga ys = true then (match kT cs ys s1 with
  | some s'=>some (eR d r s')
  | none=>none) else none
 | _=>none
def ct (C : bZ) (ok : FuncId→Bool) (o : bU) (s : ah) : Option ah :=
 match o with
 | .mv d x=>some (put d (ax s x) s)
 | .aP d h x=>some (put d (take h (ax s x) s).1 (take h (ax s x) s).2)
 | .pick d c a b=>match ax s c with
  | .bool t=>some (put d (yV t (ax s a) (ax s b)) s)
  | _=>none
 | .un d op x=>if EP op (ax s x) = true then some (put d (JY op (ax s x)) s) else none
 | .bin d op x y=>if AM op (ax s x) (ax s y) = true then some (put d (Fm op (ax s x) (ax s y)) s) else none
 | .beq d neg x y=>match ax s x,ax s y with
  | .bool p,.bool q=>some (put d (.bool (xor neg (p == q))) s)
  | _,_=>none
 | .p6 d neg x=>match ax s x with
  | .row _ _ xs=>if kK xs = true then some (put d (.bool neg) s) else none
  | _=>none
 | .kS d neg ks x y=>match ax s x,ax s y with
  | .agg p,.agg q=>match iZ ks p q with
   | some t=>some (put d (.bool (xor neg t)) s)
   | none=>none
  | _,_=>none
 | .conv d k x=>match ax s x with
  | .int _ n=>some (put d (.int k (k.wrap n)) s)
  | _=>none
 | .bytes d x=>match ax s x with
  | .str t=>some (put d (.row .own 1 (t.data.toList.map fun b=>[.int .u8 b.toNat])) s)
  | _=>none
 | .text d x=>match rowAt s (ax s x) with
  | some (1,xs)=>if xs.length≤9223372036854775807 then (match qo xs with
   | some l=>some (put d (.str ⟨l.toArray⟩) s)
   | none=>none) else none
  | _=>none
 | .box d h x=>if 0 < (cellsOf (take h (ax s x) s).1).length then some (put d (.ptr .own (cellsOf (take h (ax s x) s).1)) (take h (ax s x) s).2) else none
 | .new d z=>some (put d (.ptr .own z) s)
 | .build d h z ps=>if zW h (takes h (ps.map (·.2)) s).1 = true∧sx (ps.map (·.1.2)) (takes h (ps.map (·.2)) s).1 = true then some (put d (.agg (tj z (ps.map (·.1.1)) (takes h (ps.map (·.2)) s).1)) (takes h (ps.map (·.2)) s).2) else none
 | .lit d h sz ps=>if uB sz (takes h ps s).1 = true then some (put d (.row .own sz ((takes h ps s).1.map cellsOf)) (takes h ps s).2) else none
 | .make d sz bytes z n=>match ax s n with
  | .int _ i=>if 0≤i∧i * bytes≤140737488355328 then some (put d (.row .own sz (List.replicate i.toNat z)) s) else none
  | _=>none
 | .load d sz agg a=>match fB s (ax s a) with
  | some cs=>if sz≤cs.length then some (put d (bif agg then .agg (cs.take sz) else cs.headD .dead) s) else none
  | none=>none
 | .store sz h a x=>if (cellsOf (take h (ax s x) s).1).length = sz then (match ax (take h (ax s x) s).2 a with
  | .aA r p i c=>if EC (take h (ax s x) s).2 r p i c (cellsOf (take h (ax s x) s).1) = true then some (setCells r p i c (cellsOf (take h (ax s x) s).1) (take h (ax s x) s).2) else none
  | _=>none) else none
 | .cS d x=>match ax s x with
  | .aA r p i c=>some (put d (.aA r p i c) s)
  | .ptr m cs=>some (put d (.ptr m cs) s)
  | .fn f cs=>some (put d (.fn f cs) s)
  | _=>none
 | .ni d x off=>match ax s x with
  | .aA r p i c=>some (put d (.aA r p i (c + off)) s)
  | .ptr m cs=>some (put d (.ptr m (cs.drop off)) s)
  | _=>none
 | .me d x off sz agg=>match ax s x with
  | .agg cs=>if off + sz≤cs.length then some (put d (bif agg then .agg ((cs.drop off).take sz) else (cs.drop off).headD .dead) s) else none
  | _=>none
 | .dX d sz x i=>match ax s i with
  | .int _ n=>if 0≤n then (match ax s x with
   | .row m z xs=>if z = sz then (match xs[n.toNat]? with
    | some e=>some (put d (.ptr m e) s)
    | none=>none) else none
   | .ref r p=>(match look s r p with
    | some (.row _ z xs)=>if z = sz∧n.toNat < xs.length then some (put d (.aA r p n.toNat 0) s) else none
    | _=>none)
   | .cut r p lo hi=>(match look s r p with
    | some (.row _ z _)=>if z = sz∧lo + n.toNat < hi then some (put d (.aA r p (lo + n.toNat) 0) s) else none
    | _=>none)
   | _=>none) else none
  | _=>none
 | .cM d x i=>match ax s x,ax s i with
  | .str t,.int _ n=>if 0≤n then (match t.data[n.toNat]? with
   | some b=>some (put d (.int .u8 b.toNat) s)
   | none=>none) else none
  | _,_=>none
 | .oC d n sz agg x i=>match ax s x,ax s i with
  | .agg cs,.int _ j=>if 0≤j∧j < n∧cs.length = n * sz then some (put d (bif agg then .agg ((cs.drop (j.toNat * sz)).take sz) else (cs.drop (j.toNat * sz)).headD .dead) s) else none
  | _,_=>none
 | .ext d x i=>match ax s x with
  | .au cs=>if i < cs.length then some (put d (cs.getD i .dead) s) else none
  | _=>none
 | .fo d x lo hi=>match ax s x with
  | .str t=>if 0≤asNat s lo 0∧asNat s lo 0≤asNat s hi t.size∧asNat s hi t.size≤t.size then some (put d (.str (t.extract (asNat s lo 0).toNat (asNat s hi t.size).toNat)) s) else none
  | _=>none
 | .kL d sz x lo hi=>match rowAt s (ax s x) with
  | some (z0,xs)=>if z0 = sz∧0≤asNat s lo 0∧asNat s lo 0≤asNat s hi xs.length∧asNat s hi xs.length≤xs.length then (match ax s x with
   | .row m z _=>some (put d (.row m z ((xs.take (asNat s hi xs.length).toNat).drop (asNat s lo 0).toNat)) s)
   | .ref r p=>some (put d (.cut r p (asNat s lo 0).toNat (asNat s hi xs.length).toNat) s)
   | _=>none) else none
  | none=>none
 | .s9 sz z x=>match ax s x with
  | .cut r p lo hi=>(match look s r p with
   | some (.row .own z' xs)=>if z' = sz then some (gA r p (.row .own z' (Bi lo hi z xs)) s) else none
   | _=>none)
  | _=>none
 | .oH d f x as=>match ax s x with
  | .agg cs=>if X.bare.iB (bK cs s).1 = true then OX d cs (bK cs s).2 (C f (.agg (bK cs s).1 :: fy (bK cs s).2 .dead as (as.map fun _=>.dead))) else none
  | _=>none
 | .lE d fz sz agg a=>match fB s (ax s a) with
  | some cs=>if sz≤cs.length then ghost fz d (put d (bif agg then .agg (cs.take sz) else cs.headD .dead) s) else none
  | none=>none
 | .lJ d f cs=>some (put d (.fn f (cs.map (ax s))) s)
 | .len d x=>match rowAt s (ax s x) with
  | some (z,xs)=>some (put d (.int .i64 xs.length) s)
  | none=>none
 | .qk d x=>match ax s x with
  | .str t=>some (put d (.int .i64 t.size) s)
  | _=>none
 | .app d h sz bytes x y=>match (take .mv (ax s x) s).1 with
  | .row .own z xs=>if z = sz then (match h with
   | .mv=>(match (cQ (ax (take .mv (ax s x) s).2 y) (take .mv (ax s x) s).2).1 with
    | .row .own z' ys=>if z' = sz∧(xs.length + ys.length) * bytes≤140737488355328 then some (put d (.row .own z (xs ++ ys)) (cQ (ax (take .mv (ax s x) s).2 y) (take .mv (ax s x) s).2).2) else none
    | _=>none)
   | _=>(match rowAt (take .mv (ax s x) s).2 (ax (take .mv (ax s x) s).2 y) with
    | some (z',ys)=>if z' = sz∧(xs.length + ys.length) * bytes≤140737488355328∧gy ys = true then some (put d (.row .own z (xs ++ ys)) (take .mv (ax s x) s).2) else none
    | none=>none)) else none
  | _=>none
 | .mn d xs=>match xs.map (ax s) with
  | [.int k a,.int k' b]=>if k = k' then some (put d (.int k (if b < a then b else a)) s) else none
  | _=>none
 | .mx d xs=>match xs.map (ax s) with
  | [.int k a,.int k' b]=>if k = k' then some (put d (.int k (if b > a then b else a)) s) else none
  | _=>none
 | .call d f as=>oI C f d as none s
 | .jl d x as=>match ax s x with
  | .fn f _=>if ok f = true then oI C f d as (some x) s else none
  | _=>none
end M
namespace M
open Go
def bZ.Sound [Bs] (P : Program) (C : bZ) : Prop:=∀ f xs o,C f xs = some o→AC P f xs fun r ps=>r = o.1∧ps = o.2
section
variable [Bs] {P : Program} {C : bZ} {ok : FuncId→Bool}
theorem Lt {s1 : ah} {fv : Option AV} {f : FuncId} (h : sZ s1 fv f = true) : oJ s1 fv f:=by
 unfold sZ at h
 unfold oJ
 cases fv with
 | none=>trivial
 | some x =>
  simp only at h ⊢
  unfold tV at h
  split at h
  ·rename_i h1; rw [h1]; simpa using h
  ·cases h
theorem acg {r : Nat} {p : Path} {s : ah} {n : Nat} {x y : X} {back : vJ} (h : Dv r p s n x = some (y,back)) {go : X→(X→(ah→Prop)→Prop)→Prop}
  (hg : ∀ b' : X→(ah→Prop)→Prop,(∀ q K s',back q = some s'→K s'→b' q K)→go y b') : uH r p s n x go:=by
 unfold Dv at h
 unfold uH
 split at h
 ·split at h
  ·rename_i z xs hl
   obtain ⟨rfl,rfl⟩:=Prod.mk.inj (Option.some.inj h)
   simp only [hl]
   refine hg _ fun q K s' hb hK=>?_
   simp only at hb
   split at hb
   ·split at hb
    ·rename_i hz
     obtain rfl:=Option.some.inj hb
     exact ⟨hz,hK⟩
    ·cases hb
   ·cases hb
  ·cases h
 ·split at h
  ·rename_i cs hl
   split at h
   ·rename_i hc
    obtain ⟨rfl,rfl⟩:=Prod.mk.inj (Option.some.inj h)
    simp only [hl]
    refine ⟨hc,hg _ fun q K s' hb hK=>?_⟩
    simp only at hb
    split at hb
    ·split at hb
     ·rename_i hz
      obtain rfl:=Option.some.inj hb
      exact ⟨hz,hK⟩
     ·cases hb
    ·cases hb
   ·cases h
  ·rename_i z xs hl
   split at h
   ·rename_i e he
    split at h
    ·rename_i hc
     obtain ⟨rfl,rfl⟩:=Prod.mk.inj (Option.some.inj h)
     simp only [hl,he]
     refine ⟨hc,hg _ fun q K s' hb hK=>?_⟩
     simp only at hb
     split at hb
     ·split at hb
      ·split at hb
       ·rename_i hz hso
        obtain rfl:=Option.some.inj hb
        exact ⟨hz,hso,hK⟩
       ·cases hb
      ·cases hb
     ·cases hb
    ·cases h
   ·cases h
  ·cases h
 ·cases h
theorem Lq (hC : C.Sound P) {f : FuncId} {d : Option Nat} {as : List (AV×PM)} {fv : Option AV} {s s' : ah} (h : oI C f d as fv s = some s') {K : ah→Prop} (hK : K s') : qG P f d as fv s K:=by
 unfold oI at h
 unfold qG
 split at h
 ·rename_i hb
  refine ⟨hb,?_⟩
  split at h
  ·rename_i hm
   split at h
   ·rename_i hc
    simp only [hm]
    refine ⟨Lt hc,?_⟩
    unfold nZ at h
    split at h
    ·rename_i o ho
     obtain rfl:=Option.some.inj h
     exact (hC _ _ _ ho).mono fun r ps ⟨h1,_⟩=>by rw [h1]; exact hK
    ·cases h
   ·cases h
  ·rename_i x n hm
   simp only [hm]
   unfold AR at h
   split at h
   ·rename_i y back hmu
    split at h
    ·rename_i hc
     refine acg hmu fun b' hb'=>⟨hc.1,Lt hc.2,?_⟩
     unfold yZ at h
     split at h
     ·rename_i o ho
      split at h
      ·rename_i s2 hs2
       obtain rfl:=Option.some.inj h
       refine (hC _ _ _ ho).mono fun r ps ⟨h1,h2⟩=>?_
       rw [h1,h2]
       exact hb' _ _ _ hs2 hK
      ·cases h
     ·cases h
    ·cases h
   ·cases h
 ·cases h
theorem L3 (hC : C.Sound P) (hok : ∀ f,ok f = true→ak P f = true) {o : bU} {s s' : ah} (h : ct C ok o s = some s') {K : ah→Prop} (hK : K s') : aN P o s K:=by
 cases o with
 | mv d x=>cases h; exact hK
 | aP d h1 x=>cases h; exact hK
 | pick d c a b =>
  simp only [ct] at h
  simp only [aN]
  split at h <;> first | (rename_i h1; rw [h1]; cases h; exact hK) | cases h
 | un d op x =>
  simp only [ct] at h
  split at h
  ·rename_i h1; cases h; exact ⟨aib h1,hK⟩
  ·cases h
 | bin d op x y =>
  simp only [ct] at h
  split at h
  ·rename_i h1; cases h; exact ⟨Ta h1,hK⟩
  ·cases h
 | beq d neg x y =>
  simp only [ct] at h
  simp only [aN]
  split at h
  ·rename_i h1 h2; rw [h1,h2]; cases h; exact hK
  ·cases h
 | p6 d neg x =>
  simp only [ct] at h
  simp only [aN]
  split at h
  ·rename_i h1
   rw [h1]
   split at h
   ·rename_i hc
    cases h
    intro b hb
    rw [hb hc]
    cases neg <;> exact hK
   ·cases h
  ·cases h
 | kS d neg ks x y =>
  simp only [ct] at h
  simp only [aN]
  split at h
  ·rename_i h1 h2
   rw [h1,h2]
   split at h
   ·rename_i t ht
    cases h
    exact ⟨t,ht,hK⟩
   ·cases h
  ·cases h
 | conv d k x =>
  simp only [ct] at h
  simp only [aN]
  split at h
  ·rename_i h1; rw [h1]; cases h; exact hK
  ·cases h
 | bytes d x =>
  simp only [ct] at h
  simp only [aN]
  split at h
  ·rename_i h1; rw [h1]; cases h; exact hK
  ·cases h
 | text d x =>
  simp only [ct] at h
  simp only [aN]
  split at h
  ·rename_i xs h1
   split at h
   ·rename_i h2
    split at h
    ·rename_i l h3
     cases h
     exact ⟨xs,h1,h2,l,P4 h3,hK⟩
    ·cases h
   ·cases h
  ·cases h
 | box d h1 x =>
  simp only [ct] at h
  split at h
  ·rename_i h2; cases h; exact ⟨h2,hK⟩
  ·cases h
 | new d z=>cases h; exact hK
 | build d h1 z ps =>
  simp only [ct] at h
  split at h
  ·rename_i h2; cases h; exact ⟨aed h2.1,Px h2.2,hK⟩
  ·cases h
 | lit d h1 sz ps =>
  simp only [ct] at h
  split at h
  ·rename_i h2
   cases h
   refine ⟨fun x hx=>?_,hK⟩
   have:=(List.all_eq_true.1 h2) x hx
   simpa using this
  ·cases h
 | make d sz bytes z n =>
  simp only [ct] at h
  simp only [aN]
  split at h
  ·rename_i h1
   rw [h1]
   split at h
   ·rename_i h2; cases h; exact ⟨h2.1,h2.2,hK⟩
   ·cases h
  ·cases h
 | load d sz agg a =>
  simp only [ct] at h
  simp only [aN]
  split at h
  ·rename_i cs h1
   split at h
   ·rename_i h2; cases h; exact ⟨cs,h1,h2,hK⟩
   ·cases h
  ·cases h
 | store sz h1 a x =>
  simp only [ct] at h
  simp only [aN]
  split at h
  ·rename_i h2
   refine ⟨h2,?_⟩
   split at h
   ·rename_i h3
    rw [h3]
    split at h
    ·rename_i h4; cases h; exact ⟨aes h4,hK⟩
    ·cases h
   ·cases h
  ·cases h
 | cS d x =>
  simp only [ct] at h
  simp only [aN]
  split at h <;> first | (rename_i h1; rw [h1]; cases h; exact hK) | cases h
 | ni d x off =>
  simp only [ct] at h
  simp only [aN]
  split at h <;> first | (rename_i h1; rw [h1]; cases h; exact hK) | cases h
 | me d x off sz agg =>
  simp only [ct] at h
  simp only [aN]
  split at h
  ·rename_i h1
   rw [h1]
   split at h
   ·rename_i h2; cases h; exact ⟨h2,hK⟩
   ·cases h
  ·cases h
 | dX d sz x i =>
  simp only [ct] at h
  simp only [aN]
  split at h
  ·rename_i h1
   rw [h1]
   split at h
   ·rename_i h2
    refine ⟨h2,?_⟩
    split at h
    ·rename_i h3
     rw [h3]
     split at h
     ·rename_i h4
      refine ⟨h4,?_⟩
      split at h
      ·rename_i e h5; cases h; exact ⟨e,h5,hK⟩
      ·cases h
     ·cases h
    ·rename_i h3
     rw [h3]
     simp only
     split at h
     ·rename_i h4
      rw [h4]
      split at h
      ·rename_i h5; cases h; exact ⟨h5.1,h5.2,hK⟩
      ·cases h
     ·cases h
    ·rename_i h3
     rw [h3]
     simp only
     split at h
     ·rename_i h4
      rw [h4]
      split at h
      ·rename_i h5; cases h; exact ⟨h5.1,h5.2,hK⟩
      ·cases h
     ·cases h
    ·cases h
   ·cases h
  ·cases h
 | cM d x i =>
  simp only [ct] at h
  simp only [aN]
  split at h
  ·rename_i h1 h2
   rw [h1,h2]
   split at h
   ·rename_i h3
    refine ⟨h3,?_⟩
    split at h
    ·rename_i b h4; cases h; exact ⟨b,h4,hK⟩
    ·cases h
   ·cases h
  ·cases h
 | oC d n sz agg x i =>
  simp only [ct] at h
  simp only [aN]
  split at h
  ·rename_i h1 h2
   rw [h1,h2]
   split at h
   ·rename_i h3; cases h; exact ⟨h3.1,h3.2.1,h3.2.2,hK⟩
   ·cases h
  ·cases h
 | ext d x i =>
  simp only [ct] at h
  simp only [aN]
  split at h
  ·rename_i h1
   rw [h1]
   split at h
   ·rename_i h3; cases h; exact ⟨h3,hK⟩
   ·cases h
  ·cases h
 | fo d x lo hi =>
  simp only [ct] at h
  simp only [aN]
  split at h
  ·rename_i h1
   rw [h1]
   split at h
   ·rename_i h3; cases h; exact ⟨h3.1,h3.2.1,h3.2.2,hK⟩
   ·cases h
  ·cases h
 | kL d sz x lo hi =>
  simp only [ct] at h
  simp only [aN]
  split at h
  ·rename_i z0 xs h1
   split at h
   ·rename_i h2
    obtain ⟨rfl,h2,h3,h4⟩:=h2
    refine ⟨xs,h1,h2,h3,h4,?_⟩
    split at h <;> first | (rename_i h5; rw [h5]; cases h; exact hK) | cases h
   ·cases h
  ·cases h
 | s9 sz z x =>
  simp only [ct] at h
  simp only [aN]
  split at h
  ·rename_i h1
   rw [h1]
   simp only
   split at h
   ·rename_i h2
    rw [h2]
    split at h
    ·rename_i h3; cases h; exact ⟨h3,hK⟩
    ·cases h
   ·cases h
  ·cases h
 | oH d f x as =>
  simp only [ct] at h
  simp only [aN]
  split at h
  ·rename_i cs h1
   rw [h1]
   split at h
   ·rename_i h2
    refine ⟨h2,?_⟩
    unfold OX at h
    split at h
    ·rename_i r ys ps ho
     split at h
     ·rename_i h3
      split at h
      ·rename_i s2 h4
       cases h
       exact (hC _ _ _ ho).mono fun r' ps' ⟨e1,e2⟩=>by rw [e1,e2]; exact ⟨h3,_,h4,hK⟩
      ·cases h
     ·cases h
    ·cases h
   ·cases h
  ·cases h
 | lE d fz sz agg a =>
  simp only [ct] at h
  simp only [aN]
  split at h
  ·rename_i cs h1
   split at h
   ·rename_i h2; exact ⟨cs,h1,h2,s',h,hK⟩
   ·cases h
  ·cases h
 | lJ d f cs=>cases h; exact hK
 | len d x =>
  simp only [ct] at h
  simp only [aN]
  split at h
  ·rename_i z xs h1; cases h; exact ⟨z,xs,h1,hK⟩
  ·cases h
 | qk d x =>
  simp only [ct] at h
  simp only [aN]
  split at h
  ·rename_i h1; rw [h1]; cases h; exact hK
  ·cases h
 | app d h1 sz bytes x y =>
  simp only [ct] at h
  simp only [aN]
  split at h
  ·rename_i z xs h2
   rw [h2]
   split at h
   ·rename_i h3
    refine ⟨h3,?_⟩
    cases h1 with
    | mv =>
     simp only at h ⊢
     split at h
     ·rename_i h4
      simp only [h4]
      split at h
      ·rename_i h5; cases h; exact ⟨h5.1,h5.2,hK⟩
      ·cases h
     ·cases h
    | al =>
     simp only at h ⊢
     split at h
     ·rename_i z' ys h4
      split at h
      ·rename_i h5
       obtain ⟨rfl,h5,h6⟩:=h5
       cases h
       exact ⟨ys,h4,h5,JC h6,hK⟩
      ·cases h
     ·cases h
    | aO =>
     simp only at h ⊢
     split at h
     ·rename_i z' ys h4
      split at h
      ·rename_i h5
       obtain ⟨rfl,h5,h6⟩:=h5
       cases h
       exact ⟨ys,h4,h5,JC h6,hK⟩
      ·cases h
     ·cases h
   ·cases h
  ·cases h
 | mn d xs =>
  simp only [ct] at h
  simp only [aN]
  split at h
  ·rename_i h1
   rw [h1]
   split at h
   ·rename_i h2; cases h; exact ⟨h2,hK⟩
   ·cases h
  ·cases h
 | mx d xs =>
  simp only [ct] at h
  simp only [aN]
  split at h
  ·rename_i h1
   rw [h1]
   split at h
   ·rename_i h2; cases h; exact ⟨h2,hK⟩
   ·cases h
  ·cases h
 | call d f as=>exact Lq hC h hK
 | jl d x as =>
  simp only [ct] at h
  simp only [aN]
  split at h
  ·rename_i h1
   rw [h1]
   split at h
   ·rename_i h2; exact ⟨hok _ h2,Lq hC h hK⟩
   ·cases h
  ·cases h
end
end M
namespace M
open Go
mutual
def X.dO : X→X→Bool
 | .dead,.dead=>true
 | .int k n,.int k' n'=>decide (k = k') && decide (n = n')
 | .bool a,.bool b=>a == b
 | .str s,.str t=>decide (s = t)
 | .row m z xs,.row m' z' ys=>decide (m = m') && z == z' && X.oS xs ys
 | .ptr m xs,.ptr m' ys=>decide (m = m') && X.kj xs ys
 | .agg xs,.agg ys=>X.kj xs ys
 | .au xs,.au ys=>X.kj xs ys
 | .fn f xs,.fn g ys=>f == g && X.kj xs ys
 | .ref s p,.ref t q=>s == t && p == q
 | .aA s p i c,.aA t q j d=>s == t && p == q && i == j && c == d
 | .cut s p i c,.cut t q j d=>s == t && p == q && i == j && c == d
 | _,_=>false
def X.kj : List X→List X→Bool
 | [],[]=>true
 | x :: l,y :: r=>X.dO x y && X.kj l r
 | _,_=>false
def X.oS : List (List X)→List (List X)→Bool
 | [],[]=>true
 | x :: l,y :: r=>X.kj x y && X.oS l r
 | _,_=>false
end
mutual
theorem X.L9 : ∀ {x y : X},X.dO x y = true→x = y
 | .dead,y,h=>by cases y <;> simp_all [X.dO]
 | .int k n,y,h=>by cases y <;> simp_all [X.dO]
 | .bool a,y,h=>by cases y <;> simp_all [X.dO]
 | .str s,y,h=>by cases y <;> simp_all [X.dO]
 | .row m z xs,y,h=>by
  cases y <;> simp only [X.dO,Bool.and_eq_true,decide_eq_true_eq,beq_iff_eq,Bool.false_eq_true] at h
  rw [h.1.1,h.1.2,X.L7 h.2]
 | .ptr m xs,y,h=>by
  cases y <;> simp only [X.dO,Bool.and_eq_true,decide_eq_true_eq,beq_iff_eq,Bool.false_eq_true] at h
  rw [h.1,X.tf h.2]
 | .agg xs,y,h=>by
  cases y <;> simp only [X.dO,Bool.false_eq_true] at h
  rw [X.tf h]
 | .au xs,y,h=>by
  cases y <;> simp only [X.dO,Bool.false_eq_true] at h
  rw [X.tf h]
 | .fn f xs,y,h=>by
  cases y <;> simp only [X.dO,Bool.and_eq_true,beq_iff_eq,Bool.false_eq_true] at h
  rw [h.1,X.tf h.2]
 | .ref s p,y,h=>by cases y <;> simp_all [X.dO]
 | .aA s p i c,y,h=>by cases y <;> simp_all [X.dO]
 | .cut s p i c,y,h=>by cases y <;> simp_all [X.dO]
theorem X.tf : ∀ {x y : List X},X.kj x y = true→x = y
 | [],[],_=>rfl
 | [],_ :: _,h=>by simp [X.kj] at h
 | _ :: _,[],h=>by simp [X.kj] at h
 | x :: l,y :: r,h=>by
  simp only [X.kj,Bool.and_eq_true] at h
  rw [X.L9 h.1,X.tf h.2]
theorem X.L7 : ∀ {x y : List (List X)},X.oS x y = true→x = y
 | [],[],_=>rfl
 | [],_ :: _,h=>by simp [X.oS] at h
 | _ :: _,[],h=>by simp [X.oS] at h
 | x :: l,y :: r,h=>by
  simp only [X.oS,Bool.and_eq_true] at h
  rw [X.tf h.1,X.L7 h.2]
end
mutual
theorem X.Ma : ∀ x : X,X.dO x x = true
 | .dead=>rfl
 | .int k n=>by simp [X.dO]
 | .bool a=>by simp [X.dO]
 | .str s=>by simp [X.dO]
 | .row m z xs=>by simp [X.dO,X.L8 xs]
 | .ptr m xs=>by simp [X.dO,X.tg xs]
 | .agg xs=>by simp [X.dO,X.tg xs]
 | .au xs=>by simp [X.dO,X.tg xs]
 | .fn f xs=>by simp [X.dO,X.tg xs]
 | .ref s p=>by simp [X.dO]
 | .aA s p i c=>by simp [X.dO]
 | .cut s p i c=>by simp [X.dO]
theorem X.tg : ∀ x : List X,X.kj x x = true
 | []=>rfl
 | x :: l=>by simp [X.kj,X.Ma x,X.tg l]
theorem X.L8 : ∀ x : List (List X),X.oS x x = true
 | []=>rfl
 | x :: l=>by simp [X.oS,X.tg x,X.L8 l]
end
def oR : ah→ah→Bool
 | [],[]=>true
 | (k,x) :: l,(k',y) :: r=>k == k' && X.dO x y && oR l r
 | _,_=>false
theorem L6 : ∀ {x y : ah},oR x y = true→x = y
 | [],[],_=>rfl
 | [],_ :: _,h=>by simp [oR] at h
 | _ :: _,[],h=>by simp [oR] at h
 | (k,x) :: l,(k',y) :: r,h=>by
  simp only [oR,Bool.and_eq_true,beq_iff_eq] at h
  rw [h.1.1,X.L9 h.1.2,L6 h.2]
def same : Option ah→Option ah→Option ah
 | some a,some b=>if oR a b = true then some a else none
 | _,_=>none
def eG (C : bZ) (ok : FuncId→Bool) (g : G) (s : ah) : Option ah:=match g with
 | ⟨none,o⟩=>ct C ok o s
 | ⟨some (t,b),o⟩=>match get s t with
  | .bool v=>if v = b then ct C ok o ((t,.bool b) :: s) else some (eR o.dst (.au []) ((t,.bool (!b)) :: s))
  | .au []=>some (eR o.dst (.au []) s)
  | _=>none
def iY (C : bZ) (ok : FuncId→Bool) : List G→ah→Option ah
 | [],s=>some s
 | g :: l,s=>(eG C ok g s).bind (iY C ok l)
def eD (C : bZ) (ok : FuncId→Bool) : DT→ah→Option ah
 | .nil ks,s=>some (keep ks s)
 | .step _ g t,s=>(eG C ok g s).bind (eD C ok t)
 | .alt a b,s=>same (eD C ok a s) (eD C ok b s)
 | .kp ks t,s=>eD C ok t (keep ks s)
abbrev cj:=Option (Ex×ah)
def eu (k : ah→cj) : cj→cj
 | some (.normal,s)=>k s
 | some (.exit i,s)=>some (.exit i,s)
 | some (.ret,s)=>some (.ret,s)
 | none=>none
def jF (id : Nat) : cj→cj
 | some (.exit i,s)=>if i = id then some (.normal,s) else some (.exit i,s)
 | some (.normal,s)=>some (.normal,s)
 | some (.ret,s)=>some (.ret,s)
 | none=>none
def jW (ks : List Nat) : cj→cj
 | some (.normal,s)=>some (.normal,keep ks s)
 | some (.exit i,s)=>some (.exit i,s)
 | some (.ret,s)=>some (.ret,s)
 | none=>none
def gK : Option ah→cj
 | some s=>some (.normal,s)
 | none=>none
def iter (f : ah→cj) : Nat→ah→cj
 | 0,_=>none
 | n + 1,s=>eu (iter f n) (f s)
def eA (C : bZ) (ok : FuncId→Bool) (N : Nat) : A→ah→cj
 | .skip,s=>some (.normal,s)
 | .ret,s=>some (.ret,s)
 | .exit id,s=>some (.exit id,s)
 | .ops l,s=>gK (iY C ok l s)
 | .draw t,s=>gK (eD C ok t s)
 | .seq a b,s=>eu (eA C ok N b) (eA C ok N a s)
 | .cond c a b,s=>match ax s c with
  | .bool t=>if t = true then eA C ok N a s else eA C ok N b s
  | _=>none
 | .block id b,s=>jF id (eA C ok N b s)
 | .loop b,s=>iter (eA C ok N b) N s
 | .pk ks b,s=>jW ks (eA C ok N b s)
structure Fn where
 body : A
 rs : List RV
 n : Nat
abbrev gC:=FuncId→Option Fn
def fin (F : Fn) : cj→Option Out
 | some (.exit _,_)=>none
 | some (_,s)=>if X.clean.ck (dm F.rs s).1 = true∧(dm F.rs s).1.any X.kE = false then some (rS (dm F.rs s).1,nY 0 F.n (dm F.rs s).2) else none
 | none=>none
def eF (C : bZ) (ok : FuncId→Bool) (N : Nat) (F : Fn) (xs : List X) : Option Out :=
 if xs.length = F.n then fin F (eA C ok N F.body (kU xs)) else none
def aj (T : gC) (f : FuncId) : Bool:=(T f).isSome
def exec (L : bZ) (T : gC) : Nat→bZ
 | 0,_,_=>none
 | n + 1,f,xs=>match T f with
  | some F=>eF (exec L T n) (aj T) n F xs
  | none=>L f xs
section
variable [Bs] {P : Program} {C : bZ} {ok : FuncId→Bool}
theorem L1 (hC : C.Sound P) (hok : ∀ f,ok f = true→ak P f = true) {g : G} {s s' : ah} (h : eG C ok g s = some s') {K : ah→Prop} (hK : K s') : mY P g s K:=by
 obtain ⟨gg,o⟩:=g
 cases gg with
 | none=>exact L3 hC hok h hK
 | some tb =>
  obtain ⟨t,b⟩:=tb
  simp only [eG] at h
  simp only [mY]
  split at h
  ·rename_i v hv
   rw [hv]
   split at h
   ·rename_i jN
    exact ⟨fun _=>L3 hC hok h hK,fun hn=>by subst jN; cases v <;> simp at hn⟩
   ·rename_i jN
    exact ⟨fun hh=>(jN hh).elim,fun _=>by cases h; exact hK⟩
  ·rename_i hv
   rw [hv]
   cases h; exact hK
  ·cases h
theorem L5 (hC : C.Sound P) (hok : ∀ f,ok f = true→ak P f = true) : ∀ {l : List G} {s s' : ah},iY C ok l s = some s'→∀ {Q : Ex→ah→Prop},Q .normal s'→jj P l s Q
 | [],s,s',h,Q,hQ=>by cases h; exact hQ
 | g :: l,s,s',h,Q,hQ=>by
  simp only [iY] at h
  cases h1 : eG C ok g s with
  | none=>rw [h1] at h; cases h
  | some s1 =>
   rw [h1] at h
   exact L1 hC hok h1 (L5 hC hok h hQ)
theorem wm (hC : C.Sound P) (hok : ∀ f,ok f = true→ak P f = true) : ∀ {t : DT} {s s' : ah},eD C ok t s = some s'→∀ {Q : Ex→ah→Prop},Q .normal s'→gj P t s Q
 | .nil ks,s,s',h,Q,hQ=>by cases h; exact hQ
 | .step i g t,s,s',h,Q,hQ=>by
  simp only [eD] at h
  cases h1 : eG C ok g s with
  | none=>rw [h1] at h; cases h
  | some s1 =>
   rw [h1] at h
   exact L1 hC hok h1 (wm hC hok h hQ)
 | .alt a b,s,s',h,Q,hQ=>by
  simp only [eD] at h
  unfold same at h
  split at h
  ·rename_i x y hx hy
   split at h
   ·rename_i he
    obtain rfl:=L6 he
    cases h
    exact ⟨wm hC hok hx hQ,wm hC hok hy hQ⟩
   ·cases h
  ·cases h
 | .kp ks t,s,s',h,Q,hQ=>wm (t:=t) hC hok h hQ
theorem PV {k : ah→cj} {r : cj} {e : Ex} {s : ah} (h : eu k r = some (e,s)) : (∃ s',r = some (.normal,s')∧k s' = some (e,s))∨(e≠.normal∧r = some (e,s)):=by
 unfold eu at h
 split at h
 ·exact .inl ⟨_,rfl,h⟩
 ·cases h; exact .inr ⟨by simp,rfl⟩
 ·cases h; exact .inr ⟨by simp,rfl⟩
 ·cases h
theorem V8 (hC : C.Sound P) (hok : ∀ f,ok f = true→ak P f = true) {N : Nat} : ∀ {t : A} {s s' : ah} {e : Ex},eA C ok N t s = some (e,s')→∀ {Q : Ex→ah→Prop},Q e s'→dN P t s Q:=by
 intro t
 induction t with
 | skip=>intro s s' e h Q hQ; cases h; exact hQ
 | ret=>intro s s' e h Q hQ; cases h; exact hQ
 | exit id=>intro s s' e h Q hQ; cases h; exact hQ
 | ops l =>
  intro s s' e h Q hQ
  simp only [eA] at h
  unfold gK at h
  split at h
  ·rename_i s1 h1; cases h; exact L5 hC hok h1 hQ
  ·cases h
 | draw l =>
  intro s s' e h Q hQ
  simp only [eA] at h
  unfold gK at h
  split at h
  ·rename_i s1 h1; cases h; exact wm hC hok h1 hQ
  ·cases h
 | seq a b gJ jc =>
  intro s s' e h Q hQ
  simp only [eA] at h
  rcases PV h with ⟨s1,h1,h2⟩ | ⟨hne,h1⟩
  ·exact gJ h1 (jc h2 hQ)
  ·refine gJ h1 ?_
   cases e with
   | normal=>exact (hne rfl).elim
   | exit i=>exact hQ
   | ret=>exact hQ
 | cond c a b gJ jc =>
  intro s s' e h Q hQ
  simp only [eA] at h
  simp only [dN]
  split at h
  ·rename_i t ht
   rw [ht]
   split at h
   ·rename_i h1
    exact ⟨fun _=>gJ h hQ,fun h2=>by rw [h1] at h2; cases h2⟩
   ·rename_i h1
    exact ⟨fun h2=>(h1 h2).elim,fun _=>jc h hQ⟩
  ·cases h
 | block id b ih =>
  intro s s' e h Q hQ
  simp only [eA] at h
  unfold jF at h
  split at h
  ·rename_i i s1 h1
   split at h
   ·rename_i hi
    cases h
    refine ih h1 ?_
    subst hi
    simpa using hQ
   ·rename_i hi
    cases h
    refine ih h1 ?_
    have : (i == id) = false:=by simpa using hi
    simpa [this] using hQ
  ·rename_i s1 h1; cases h; exact ih h1 hQ
  ·rename_i s1 h1; cases h; exact ih h1 hQ
  ·cases h
 | loop b ih =>
  intro s s' e h Q hQ
  simp only [eA] at h
  refine ⟨fun n s1=>iter (eA C ok N b) n s1 = some (e,s'),⟨N,h⟩,fun n s1 h1=>?_⟩
  cases n with
  | zero=>cases h1
  | succ n =>
   simp only [iter] at h1
   rcases PV h1 with ⟨s2,h2,h3⟩ | ⟨hne,h2⟩
   ·exact ih h2 ⟨n,Nat.lt_succ_self n,h3⟩
   ·refine ih h2 ?_
    cases e with
    | normal=>exact (hne rfl).elim
    | exit i=>exact hQ
    | ret=>exact hQ
 | pk ks b ih =>
  intro s s' e h Q hQ
  simp only [eA] at h
  unfold jW at h
  split at h
  ·rename_i s1 h1; cases h; exact ih h1 hQ
  ·rename_i s1 h1; cases h; exact ih h1 hQ
  ·rename_i s1 h1; cases h; exact ih h1 hQ
  ·cases h
structure gC.Ok (P : Program) (T : gC) : Prop where
 told : ∀ f F,T f = some F→Told P f F.body F.rs F.n
 ok : ∀ f F,T f = some F→ak P f = true
theorem Mb {L : bZ} {T : gC} (hL : L.Sound P) (hT : T.Ok P) : ∀ n,(exec L T n).Sound P
 | 0=>fun f xs o h=>by cases h
 | n + 1=>fun f xs o h=>by
  simp only [exec] at h
  split at h
  ·rename_i F hF
   unfold eF at h
   split at h
   ·rename_i hn
    refine (hT.told f F hF).ac hn ?_
    unfold fin at h
    split at h
    ·cases h
    ·rename_i e s' h1 h2
     split at h
     ·rename_i hc
      have h2 : eA (exec L T n) (aj T) n F.body (kU xs) = some (e,s'):=h2
      cases h
      refine V8 (Mb hL hT n) (fun f hf=>?_) h2 ?_
      ·unfold aj at hf
       obtain ⟨F',Z6⟩:=Option.isSome_iff_exists.1 hf
       exact hT.ok f F' Z6
      ·cases e with
       | exit i=>exact (h1 i rfl).elim
       | normal=>exact ⟨hc.1,fun x hx=>by have:=List.any_eq_false.1 hc.2 x hx; simpa using this,rfl,rfl⟩
       | ret=>exact ⟨hc.1,fun x hx=>by have:=List.any_eq_false.1 hc.2 x hx; simpa using this,rfl,rfl⟩
     ·cases h
    ·cases h
   ·cases h
  ·exact hL f xs o h
end
end M
