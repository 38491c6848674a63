/- A machine of values for loaded Go functions, sound for the calculus of calls; part 2; no conditions. -/
import Derived.Test.YtkpkgfollnfhcaaGreatDoorMa
import Derived.Laws.IdiomCopy
import Derived.Lib.SliceRun
import Derived.Laws.Cover3
set_option linter.unusedSectionVars false
set_option linter.unusedVariables false
set_option linter.unusedSimpArgs false
namespace M
open Go Go.RowKit
variable [Bs]
section
variable {P : Program} {c : Ctx} {G : Nat→C} {zl : Nat→Nat→Prop} {s : ag} {a : Act} {w : World} {o : Oper} {K : ag→Prop}
theorem US {zb : Nat→Nat→Prop} (h : Inv w zl zb G s) {v : Value} {r : Nat} {p : Path} {i k : Nat} (hr : (C.aA v r p i k).rf G) {l : List C} (hs : storable s r p i k (l.map C.er)) (hl : ∀ x∈l,bU x.er = true→x.bU) :
  ∃ g k0 d,v = .pointer (some ⟨g,k0,none⟩)∧(G r).sub p = some d∧∀ q x,l[q]? = some x→dj d i (k + q) x g (k0 + q):=by
 obtain ⟨d,hd,hp⟩:=hr
 unfold storable look at hs
 rw [← h.er,C.eo,hd] at hs
 simp only [Option.map_some] at hs
 rcases hp with ⟨m,sz,g,o,len,cap,e,rfl,rfl⟩ | ⟨m,g,o,n,f,rfl,rfl,rfl⟩
 ·refine ⟨g,o + i * sz + k,_,rfl,hd,fun q x hq=>?_⟩
  simp only [C.er] at hs
  cases m with
  | own =>
   simp only [C.cm] at hs
   split at hs
   ·rename_i e0 iB
    split at iB
    ·rename_i hi
     injection iB with iB
     obtain ⟨h1,h2⟩:=hs
     have hlen : e0.length = sz:=by rw [← iB]; simp
     have kq:=(List.getElem?_eq_some_iff.1 hq).1
     simp only [List.length_map] at h1
     have:=dj.row (d:=.row .own sz (some (g,o,none)) len cap e) (i:=i) (c:=k + q) (y:=x) rfl hi (by omega) (hl x (List.mem_of_getElem? hq) (zT h2 _ (List.mem_map_of_mem (List.mem_of_getElem? hq))))
     rwa [show o + i * sz + (k + q) = o + i * sz + k + q by omega] at this
    ·cases iB
   ·exact hs.elim
  | sl=>exact hs.elim
  | af=>exact hs.elim
 ·refine ⟨g,o + k,_,rfl,hd,fun q x hq=>?_⟩
  simp only [C.er] at hs
  cases m with
  | own =>
   have kq:=(List.getElem?_eq_some_iff.1 hq).1
   simp only [List.length_map,List.length_range] at hs
   have:=dj.ptr (d:=.ptr .own g o n f) (i:=0) (c:=k + q) (y:=x) rfl rfl (by omega)
   rwa [show o + (k + q) = o + k + q by omega] at this
  | sl=>exact hs.elim
  | af=>exact hs.elim
theorem Iv {x : C} (h : bU x.er = true) : x.bU:=by
 cases x <;> first | trivial | (simp [C.er,bU] at h)
theorem T3 (h : St c G zl s a w) {sz : Nat} {tk : Tk} {ty : TypeId} {x y : AV} {x' y' : Operand} (ho : o.op = .store ty y' x') (hsz : ∃ i,P.info? ty = some i∧i.size = sz) (h0 : 0 < sz) (hd : o.dst = none) (hx : aE x' x = true) (hy : aE y' y = true)
  (hK : aH P (.store sz tk y x) s K) : Good P c o a w K:=by
 obtain ⟨p,e1,e2,e3⟩:=bA h hx
 obtain ⟨q,G1,f1,f2,f3,f4⟩:=l9 tk h.inv e3
 obtain ⟨k1,k2⟩:=hK
 rw [e1] at f1 f4
 have h1:=h.rQ f4
 obtain ⟨u,u1,u2,u3⟩:=bA h1 hy
 rw [← u1] at k2
 cases u with
 | aA v r pp i k =>
  simp only [C.er] at k2
  obtain ⟨k2,k3⟩:=k2
  rw [← f1,← nW] at k1 k2 k3
  have hsh:=zS f4.rf
  have hT:=aW.flat (aW.one f4) (fun x hx=>by rw [List.mem_singleton] at hx; subst hx; exact hsh)
  simp only [List.flatMap_cons,List.flatMap_nil,List.append_nil] at hT
  obtain ⟨g,k0,d,hv,hsub,hsp⟩:=US h1.inv u3.rf k2 (fun x _ hs=>Iv hs)
  have hlen : q.cells.length = sz:=by simpa using k1
  obtain ⟨w',G',j1,j2,j3,j4,j5⟩:=IE (P:=P) r pp i (k0:=k0) q.cells.length q.cells rfl k 0 h1.inv hsub (by simpa using hsp) ⟨fun x hx=>⟨(pV hsh f4.ok hx).1,(pV hsh f4.ok hx).2,AW f4.rf hx,(hT.all x hx).2.1,(hT.all x hx).2.2.1⟩,hT.apart⟩
  have Rb:=wz (by omega) hsh
  refine ⟨undef,w',.inr ⟨?_,rfl⟩,G',zl,_,k3,?_⟩
  ·have BJ : a.eval y' = .pointer (some ⟨g,k0,none⟩):=by rw [← u2]; exact hv
   obtain ⟨ii,hi,gU⟩:=hsz
   have R8 : a.eval x' = q.val:=by rw [f2,e2]
   simp [execOp,ho,BJ,R8,Instr.storeAt,Instr.sureAddr,storeVar,Rb,Go.sizeOf,typeInfo,hi,gU,hlen,j1]
  ·rw [hd]
   refine h.move j2 (fun t=>(j3 t).trans (f4.val t)) j5 (fun b k' hs=>?_) (fun t b k' hf=>?_)
   ·obtain ⟨rfl,hs1,hs2⟩:=hs
    simp only [Nat.add_zero] at hs1 hs2
    have hlt : k' - k0 < q.cells.length:=by omega
    have:=(hsp (k' - k0) _ (List.getElem?_eq_getElem hlt)).fp
    rw [show k0 + (k' - k0) = k' by omega] at this
    exact h1.tr.dom r _ _ (C.ep pp hsub (h1.inv.ok r) this)
   ·refine .inl ?_
    rcases j4 t b k' hf with ⟨x,hx,hf⟩ | hf
    ·exact (hT.all x hx).2.2.2 b k' hf
    ·exact ⟨t,f4.mono t b k' hf⟩
 | _=>exact k2.elim
def bZ (len z : Nat) (e : Nat→Nat→C) : List (List C):=(List.range len).map fun i=>(List.range z).map fun j=>e i j
theorem oz (len z : Nat) (e : Nat→Nat→C) : ∀ x∈bZ len z e,x.length = z:=fun x hx=>by
 obtain ⟨i,_,rfl⟩:=List.mem_map.1 hx
 simp
theorem Hw (len z : Nat) (e : Nat→Nat→C) : (bZ len z e).map (fun x=>x.map C.er) = cD z len e:=by
 simp only [bZ,cD,List.map_map]
 refine List.map_congr_left fun i _=>?_
 show ((List.range z).map fun j=>e i j).map C.er = _
 rw [List.map_map]
 rfl
theorem jJ {len z : Nat} {e : Nat→Nat→C} {x : C} (hx : x∈(bZ len z e).flatten) : ∃ i j,i < len∧j < z∧x = e i j:=by
 obtain ⟨l,hl,hx⟩:=List.mem_flatten.1 hx
 obtain ⟨i,hi,rfl⟩:=List.mem_map.1 hl
 obtain ⟨j,hj,rfl⟩:=List.mem_map.1 hx
 exact ⟨i,j,by simpa using hi,by simpa using hj,rfl⟩
theorem Hv {len z : Nat} {e : Nat→Nat→C} {q : Nat} {x : C} (h0 : 0 < z) (h : (bZ len z e).flatten[q]? = some x) : q / z < len∧q % z < z∧x = e (q / z) (q % z):=by
 have hq:=(List.getElem?_eq_some_iff.1 h).1
 rw [mM (oz len z e)] at hq
 have hl : (bZ len z e).length = len:=by simp [bZ]
 rw [hl] at hq
 have h1 : q % z < z:=Nat.mod_lt _ h0
 have h2 : q / z < len:=Nat.div_lt_of_lt_mul (by rw [Nat.mul_comm]; exact hq)
 have tn : q = q / z * z + q % z:=by have:=Nat.div_add_mod q z; rw [Nat.mul_comm] at this; omega
 have:=sR (oz len z e) (q / z) (q % z) (by rw [hl]; exact h2) h1
 rw [← tn,h] at this
 simp only [bZ,C.cm,if_pos h2,Option.bind_some,if_pos h1] at this
 exact ⟨h2,h1,Option.some.inj this⟩
theorem CD {Z : Md→Nat→Nat→Prop} {z len cap : Nat} {A : Option Ad} {e : Nat→Nat→C} (h : (C.row .own z A len cap e).ok w Z) : (bZ len z e).flatten.Pairwise fun a b=>∀ x k,a.fp x k→¬ b.fp x k:=by
 obtain ⟨h1,h2,h3,h4,h5⟩:=h
 refine List.pairwise_flatten.2 ⟨fun l hl=>?_,?_⟩
 ·obtain ⟨i,hi,rfl⟩:=List.mem_map.1 hl
  have hi : i < len:=by simpa using hi
  refine List.pairwise_map.2 (List.Pairwise.imp_of_mem (R:=fun a b=>a < b) ?_ List.pairwise_lt_range)
  intro j j' hj hj' hlt b k hf
  exact (h5 i j hi (by simpa using hj) b k hf).2 i j' hi (by simpa using hj') (by simp; omega)
 ·refine List.pairwise_map.2 (List.Pairwise.imp_of_mem (R:=fun a b=>a < b) ?_ List.pairwise_lt_range)
  intro i i' hi hi' hlt x hx y hy b k hf
  obtain ⟨j,hj,rfl⟩:=List.mem_map.1 hx
  obtain ⟨j',hj',rfl⟩:=List.mem_map.1 hy
  exact (h5 i j (by simpa using hi) (by simpa using hj) b k hf).2 i' j' (by simpa using hi') (by simpa using hj') (by simp; omega)
theorem Bo {w1 : World} {z len cap : Nat} {A : Option Ad} {e : Nat→Nat→C} (h0 : 0 < z) (hc : ∀ i j,i < len→j < z→∃ g o,A = some (g,o,none)∧w1.cell? ⟨g,o + i * z + j,none⟩ = some (e i j).val) :
  (Builtin.firstCells z len (.slice (A.map fun q=>⟨q.1,q.2.1,q.2.2⟩) len cap)).run P w1 = .ok ((bZ len z e).flatten.map C.val).toArray w1∧(A = none→len = 0):=by
 cases A with
 | none =>
  have hl : len = 0:=by
   rcases Nat.eq_zero_or_pos len with h | h
   ·exact h
   ·obtain ⟨g,o,hA,_⟩:=hc 0 0 h h0; cases hA
  subst hl
  exact ⟨run_firstCells_none w1 z 0 0 cap,fun _=>rfl⟩
 | some q =>
  refine ⟨?_,fun h=>by cases h⟩
  refine run_firstCells_some w1 z len ⟨q.1,q.2.1,q.2.2⟩ len cap _ ?_ fun j v hj=>?_
  ·rw [List.length_map,mM (oz len z e)]; simp [bZ]
  ·rw [List.getElem?_map] at hj
   cases hk : (bZ len z e).flatten[j]? with
   | none=>rw [hk] at hj; cases hj
   | some x =>
    rw [hk] at hj
    obtain ⟨a1,a2,rfl⟩:=Hv h0 hk
    injection hj with hj
    obtain ⟨g,o,hA,hcl⟩:=hc _ _ a1 a2
    injection hA with hA
    subst hA
    have tn : j = j / z * z + j % z:=by have:=Nat.div_add_mod j z; rw [Nat.mul_comm] at this; omega
    rw [mh,← hj,← hcl]
    congr 2
    show o + j = _
    omega
end
end M
namespace M
open Go Go.RowKit
variable [Bs]
section
variable {P : Program}
theorem aW.sub {w : World} {zl zb : Nat→Nat→Prop} {G G1 : Nat→C} {s1 : ag} {l ks : List C} (hT : aW w zl zb G l G1 s1) (hok : ∀ x∈ks,x.ok w (Zf zl zb)) (bq : ∀ x∈ks,∀ b k,x.fp b k→∃ y∈l,y.fp b k)
  (fI : ks.Pairwise fun a b=>∀ x k,a.fp x k→¬ b.fp x k) : aW w zl zb G ks G1 s1 where
 inv:=hT.inv
 all:=fun x hx=>⟨hok x hx,fun t b k hf=>by obtain ⟨y,hy,hf⟩:=bq x hx b k hf; exact (hT.all y hy).2.1 t b k hf,fun b k hf=>by obtain ⟨y,hy,hf⟩:=bq x hx b k hf; exact (hT.all y hy).2.2.1 b k hf,
  fun b k hf=>by obtain ⟨y,hy,hf⟩:=bq x hx b k hf; exact (hT.all y hy).2.2.2 b k hf⟩
 apart:=fI
 val:=hT.val
 mono:=hT.mono
theorem Ext.setCells (b : Nat) : ∀ (vs : List Value) (o : Nat) (w : World),Ext (fun g k=>g = b∧o≤k∧k < o + vs.length) w (w.setCells b o vs)
 | [],o,w=>Ext.refl _ _
 | v :: vs,o,w=>by
  rw [World.setCells]
  refine ((Ext.setCell w b o v).mono (S':=fun g k=>g = b∧o≤k∧k < o + (v :: vs).length) (fun g k hs _=>⟨hs.1,by omega,by simp only [List.length_cons]; omega⟩)).trans (Ext.setCells b vs (o + 1) _) fun g k hs _=>⟨hs.1,by omega,by simp only [List.length_cons]; omega⟩
theorem UC {w : World} {t u ty e e' : TypeId} {i : TypeInfo} (ht : P.underlying t = some (.slice e)) (hu : P.underlying u = some (.slice e')) (hi : P.info? e = some i) {A B : Option Addr} {len cap m cap2 : Nat} {news : List Value} (h : len + m≤cap)
  (hx : (Builtin.firstCells i.size m (.slice B m cap2)).run P w = .ok news.toArray w) :
  (Builtin.append_ #[t,u] ty #[.slice A len cap,.slice B m cap2]).run P w = match A with
   | some a=>((storeCells (a.add (len * i.size)) news).run P w).andThen fun _ w'=>.ok (.slice (some a) (len + m) cap) w'
   | none=>.ok (.slice none (len + m) cap) w:=by
 cases A with
 | none=>simp [Builtin.append_,run_underlying ht,run_underlying hu,Go.sizeOf,typeInfo,hi,Builtin.lenOf,h,hx]
 | some a=>simp [Builtin.append_,run_underlying ht,run_underlying hu,Go.sizeOf,typeInfo,hi,Builtin.lenOf,h,hx]
theorem UB {w : World} {t u ty e e' : TypeId} {i : TypeInfo} {z : Value} (ht : P.underlying t = some (.slice e)) (hu : P.underlying u = some (.slice e')) (hi : P.info? e = some i) (hz : i.zero = some z) {A B : Option Addr} {len cap m cap2 : Nat} {olds news : List Value} (h : ¬ len + m≤cap)
  (h63 : len + m≤9223372036854775807) (hfit : Builtin.nextslicecap (len + m) cap * i.bytes≤281474976710656)
  (hx : (Builtin.firstCells i.size m (.slice B m cap2)).run P w.drew = .ok news.toArray w.drew) (hy : (Builtin.firstCells i.size len (.slice A len cap)).run P w.drew = .ok olds.toArray w.drew) :
  (Builtin.append_ #[t,u] ty #[.slice A len cap,.slice B m cap2]).run P w = .ok (.slice (some ⟨w.heap.size,0,none⟩) (len + m) (grownCap w (len + m) cap e))
    (w.drew.alloc (.cells (olds.toArray ++ news.toArray ++ Builtin.zeroCells z.cells (grownCap w (len + m) cap e - (len + m))) e)):=by
 have h63' : ¬ (9223372036854775807 < ((len : Int) + (m : Int))):=by omega
 have QK : ¬ (281474976710656 < Builtin.nextslicecap (len + m) cap * i.bytes):=by omega
 simp [Builtin.append_,run_underlying ht,run_underlying hu,Go.sizeOf,typeInfo,zeroValue,hi,hz,Builtin.lenOf,h,h63',QK,Question.forced,hx,hy,newRow,grownCap]
 congr 2
 apply Array.ext'
 simp [List.append_assoc]
variable {c : Ctx} {G : Nat→C} {zl : Nat→Nat→Prop} {s : ag} {a : Act} {w : World} {o : Oper} {K : ag→Prop}
theorem Au (h : St c G zl s a w) {G1 : Nat→C} {s1 : ag} {l : List C} (hT : aW w zl c.zb G l G1 s1) {d z bytes : Nat} {ty ty' el wH : TypeId} {i : TypeInfo} {v : Value} {x' y' : Operand}
  (ho : o.op = .call { callee:=.builtin .append,args:=#[x',y'],argTypes:=#[ty,ty'] }) (hu : P.underlying ty = some (.slice el)) (qv : P.underlying ty' = some (.slice wH)) (hi : P.info? el = some i) (hz : i.zero = some v) (hsz : i.size = z) (hb : i.bytes = bytes) (hb0 : 0 < bytes) (h0 : 0 < z) (hvs : v.cells.size = z)
  (hd : o.dst = some d) (hn : d < c.nt) {A : Option Ad} {len cap : Nat} {e : Nat→Nat→C} (hy1 : C.row .own z A len cap e∈l) (hv1 : a.eval x' = (C.row .own z A len cap e).val)
  {A2 : Option Ad} {m cap2 : Nat} {e2 : Nat→Nat→C} (tA : a.eval y' = .slice (A2.map fun q=>⟨q.1,q.2.1,q.2.2⟩) m cap2) (hc2 : ∀ i j,i < m→j < z→∃ g o,A2 = some (g,o,none)∧w.cell? ⟨g,o + i * z + j,none⟩ = some (e2 i j).val)
  (hk2 : ∀ i j,i < m→j < z→(e2 i j).plain∧(e2 i j).ok w (Zf zl c.zb)∧∀ b k,(e2 i j).fp b k→¬ (C.row .own z A len cap e).fp b k∧∃ y∈l,y.fp b k)
  (RM : (bZ m z e2).flatten.Pairwise fun a b=>∀ x k,a.fp x k→¬ b.fp x k) (hbig : (len + m) * bytes≤140737488355328) (hpl : ∀ i j,i < len→j < z→(e i j).plain)
  (hK : K (put d (.row .own z (cD z len e ++ cD z m e2)) s1)) : Good P c o a w K:=by
 obtain ⟨y1,y2,y3,y4⟩:=hT.all _ hy1
 have G8:=y1
 obtain ⟨r1,r2,r3,r4,r5⟩:=y1
 have hk1 : ∀ i j,i < len→j < z→∀ b k,(e i j).fp b k→(C.row .own z A len cap e).fp b k:=fun i j hi hj b k hf=>C.gD (r3 i j hi hj).1 (r3 i j hi hj).2.2.1 hi hj hf
 have hc1 : ∀ i j,i < len→j < z→∃ g o,A = some (g,o,none)∧w.cell? ⟨g,o + i * z + j,none⟩ = some (e i j).val:=fun i j hi hj=>by
  obtain ⟨g,o,q1,q2,_⟩:=r2 i j hi hj; exact ⟨g,o,q1,q2⟩
 have hlen : ∀ x∈bZ len z e ++ bZ m z e2,x.length = z:=fun x hx=>(List.mem_append.1 hx).elim (oz _ _ _ x) (oz _ _ _ x)
 have Gw : (bZ len z e).length = len:=by simp [bZ]
 have Gx : (bZ m z e2).length = m:=by simp [bZ]
 have w8 : (bZ len z e ++ bZ m z e2).length = len + m:=by rw [List.length_append,Gw,Gx]
 have gS : (bZ len z e ++ bZ m z e2).map (fun x=>x.map C.er) = cD z len e ++ cD z m e2:=by rw [List.map_append,Hw,Hw]
 have hall : ∀ x∈(bZ len z e ++ bZ m z e2).flatten,x.plain∧x.ok w (Zf zl c.zb)∧∀ b k,x.fp b k→∃ y∈l,y.fp b k:=fun x hx=>by
  rw [List.flatten_append,List.mem_append] at hx
  rcases hx with hx | hx
  ·obtain ⟨i,j,hi,hj,rfl⟩:=jJ hx
   exact ⟨hpl i j hi hj,(r3 i j hi hj).2.2.2,fun b k hf=>⟨_,hy1,hk1 i j hi hj b k hf⟩⟩
  ·obtain ⟨i,j,hi,hj,rfl⟩:=jJ hx
   obtain ⟨a1,a2,a3⟩:=hk2 i j hi hj
   exact ⟨a1,a2,fun b k hf=>(a3 b k hf).2⟩
 have fI : (bZ len z e ++ bZ m z e2).flatten.Pairwise fun a b=>∀ x k,a.fp x k→¬ b.fp x k:=by
  rw [List.flatten_append]
  refine List.pairwise_append.2 ⟨CD G8,RM,fun x hx y hy b k hf hf'=>?_⟩
  obtain ⟨i,j,hi,hj,rfl⟩:=jJ hx
  obtain ⟨i',j',hi',hj',rfl⟩:=jJ hy
  exact ((hk2 i' j' hi' hj').2.2 b k hf').1 (hk1 i j hi hj b k hf)
 have fW : aW w zl c.zb G (bZ len z e ++ bZ m z e2).flatten G1 s1:=hT.sub (fun x hx=>(hall x hx).2.1) (fun x hx=>(hall x hx).2.2) fI
 have hfl : (bZ len z e).flatten.length = len * z:=by rw [mM (oz _ _ _),Gw]
 have oc : (bZ m z e2).flatten.length = m * z:=by rw [mM (oz _ _ _),Gx]
 have iY : ∀ r w',(Builtin.append_ #[ty,ty'] o.type #[(C.row .own z A len cap e).val,.slice (A2.map fun q=>⟨q.1,q.2.1,q.2.2⟩) m cap2]).run P w = .ok r w'→(execOp a.eval o).run P w = .ok (.value r) w':=fun r w' hr=>by
  simp [execOp,ho,resolve,invoke,builtin,hv1,tA,hr]
 have hmul : len + m≤(len + m) * bytes:=Nat.le_mul_of_pos_right _ hb0
 subst hsz
 by_cases hroom : len + m≤cap
 ·have hx:=Bo (P:=P) (cap:=cap2) h0 hc2
  have hr:=UC (P:=P) (ty:=o.type) (A:=A.map fun q=>⟨q.1,q.2.1,q.2.2⟩) hu qv hi hroom hx.1
  rcases r4 rfl with ⟨hA,hcap⟩ | ⟨g,o',arr,t,fz,hA,hh,aak,hfr⟩
  ·
   have hm : m = 0:=by omega
   have hl : len = 0:=by omega
   subst hm; subst hl; subst hA; subst hcap
   obtain ⟨G',h'⟩:=h.fresh hT (Ext.refl _ w) hn G8 trivial (fun b k hf=>.inr ⟨_,hy1,hf⟩)
   refine ⟨_,w,.inl (iY _ _ hr),G',zl,_,hK,?_⟩
   rw [hd]
   exact h'
  ·subst hA
   have BK : (len + m) * i.size≤cap * i.size:=Nat.mul_le_mul_right _ hroom
   rw [Nat.add_mul] at BK
   have hst:=run_storeCells_cells (P:=P) g (o' + len * i.size) ((bZ m i.size e2).flatten.map C.val) 0 w (fun j hj=>by
     rw [List.length_map,oc] at hj
     rw [cell_of_row _ _ _ _ _ fz hh]
     rw [Array.getElem?_eq_getElem (by omega)]; rfl) (fun j hj=>by
     rw [List.length_map,oc] at hj
     exact hfr _ (by omega) (by omega)) (fun u hu=>by
     obtain ⟨x,hx,rfl⟩:=List.mem_map.1 hu
     obtain ⟨i',j',hi',hj',rfl⟩:=jJ hx
     exact Inv.mE (C.iL (hk2 i' j' hi' hj').1))
   simp only [Option.map_some,mh,hst,Nat.add_zero,Result.andThen_ok] at hr
   have hE:=Ext.setCells g ((bZ m i.size e2).flatten.map C.val) (o' + len * i.size) w
   rw [List.length_map,oc] at hE
   have hin:=World.cell?_setCells_in g ((bZ m i.size e2).flatten.map C.val) (o' + len * i.size) w
   generalize hw' : w.setCells g (o' + len * i.size) ((bZ m i.size e2).flatten.map C.val) = w' at hr hE hin
   have hg : g < w.heap.size:=(Array.getElem?_eq_some_iff.1 hh).1
   have ql : ∀ k,(C.row .own i.size (some (g,o',none)) len cap e).fp g k:=fun k=>⟨rfl,.inl ⟨_,rfl⟩⟩
   obtain ⟨dN,lA,hs'⟩ : ∃ dN,w'.heap[g]? = some (.cells dN t fz)∧dN.size = arr.size:=by
    rcases hE.block g hg with e' | ⟨a1,a2,t',iX,q1,q2,q3,q4⟩
    ·exact ⟨arr,e'.trans hh,rfl⟩
    ·rw [hh] at q1
     injection q1 with q1
     injection q1 with b1 b2 b3
     subst b1; subst b2; subst b3
     exact ⟨a2,q2,q3⟩
   have hok : (oU g o' i.size cap (bZ len i.size e ++ bZ m i.size e2)).ok w' (Zf zl c.zb):=by
    refine Ie hlen (by rw [w8]; exact hroom) lA (by omega) (fun k h1 h2=>(hE.frozen hg).trans (hfr k h1 h2)) (fun q x hq=>?_) (fun x hx=>?_) fI (fun x hx b k hf=>?_)
    ·rw [List.flatten_append] at hq
     by_cases hql : q < len * i.size
     ·rw [List.getElem?_append_left (by omega)] at hq
      obtain ⟨a1,a2,rfl⟩:=Hv h0 hq
      obtain ⟨g',o2,hA,hcl⟩:=hc1 _ _ a1 a2
      injection hA with hA
      injection hA with b1 b2
      injection b2 with b2
      subst b1; subst b2
      have tn : q = q / i.size * i.size + q % i.size:=by have:=Nat.div_add_mod q i.size; rw [Nat.mul_comm] at this; omega
      refine hE.cell (fun hs=>by omega) ?_
      rw [← hcl]
      congr 2
      omega
     ·rw [List.getElem?_append_right (by omega)] at hq
      rw [hfl] at hq
      have xo:=(List.getElem?_eq_some_iff.1 hq).1
      rw [oc] at xo
      have:=hin (fun j hj=>by
       rw [List.length_map,oc] at hj
       rw [cell_of_row _ _ _ _ _ fz hh,Array.getElem?_eq_getElem (by omega)]; rfl) (q - len * i.size) (by rw [List.length_map,oc]; exact xo)
      rw [show o' + len * i.size + (q - len * i.size) = o' + q by omega] at this
      rw [this,← List.getElem?_eq_getElem,List.getElem?_map,hq]
      rfl
    ·obtain ⟨a1,a2,a3⟩:=hall x hx
     refine ⟨C.iL a1,C.uY a1,hT.fits' hE (fun b k hz hs=>?_) a2 (fun b k hf hs=>?_)⟩
     ·obtain ⟨rfl,_⟩:=hs
      exact hz.elim (y3 b k (ql k)).1 (y3 b k (ql k)).2
     ·obtain ⟨rfl,_⟩:=hs
      rw [List.flatten_append,List.mem_append] at hx
      rcases hx with hx | hx
      ·obtain ⟨i',j',hi',hj',rfl⟩:=jJ hx
       exact (r5 i' j' hi' hj' b k hf).1 rfl o' rfl
      ·obtain ⟨i',j',hi',hj',rfl⟩:=jJ hx
       exact ((hk2 i' j' hi' hj').2.2 b k hf).1 (ql k)
    ·intro Q9
     subst Q9
     rw [List.flatten_append,List.mem_append] at hx
     rcases hx with hx | hx
     ·obtain ⟨i',j',hi',hj',rfl⟩:=jJ hx
      exact (r5 i' j' hi' hj' b k hf).1 rfl o' rfl
     ·obtain ⟨i',j',hi',hj',rfl⟩:=jJ hx
      exact ((hk2 i' j' hi' hj').2.2 b k hf).1 (ql k)
   obtain ⟨G',h'⟩:=h.fresh' hT hE (fun b k hs=>.inr ⟨_,hy1,by rw [hs.1]; exact ql k⟩) hn hok trivial (fun b k hf=>by
    rcases Ic hlen hf with rfl | ⟨x,hx,hf⟩
    ·exact .inr ⟨_,hy1,ql k⟩
    ·exact .inr ((hall x hx).2.2 b k hf))
   refine ⟨_,w',.inl (iY _ _ hr),G',zl,_,hK,?_⟩
   rw [hd]
   rw [Ib hlen,gS,Ut,w8] at h'
   exact h'
 ·have hx:=Bo (P:=P) (w1:=w.drew) (cap:=cap2) h0 hc2
  have hy:=Bo (P:=P) (w1:=w.drew) (cap:=cap) h0 hc1
  have hr:=UB (P:=P) (ty:=o.type) hu qv hi hz hroom (by omega) (growslice_fits (by omega) (by rw [hb]; exact hbig)) hx.1 hy.1
  have hge:=grownCap_ge w (len + m) cap el
  generalize grownCap w (len + m) cap el = cap' at hr hge
  refine gi.good (good_row h (L:=bZ len i.size e ++ bZ m i.size e2) (cap:=cap') (fz:=(0,0)) hlen (by rw [w8]; exact hge) fW (fun x hx=>(hall x hx).1) hd hn (Fz w _) (s7 w.drew _) ?_ (fun k _ hh=>by simp at hh) (fun q x hq=>?_) (by rw [w8]; exact iY _ _ hr) (by rw [gS]; exact hK))
  ·simp only [Array.size_append,List.size_toArray,List.length_map,hfl,oc,size_zeroCells,hvs]
   rw [← Nat.add_mul,← Nat.add_mul]
   exact Nat.mul_le_mul_right _ (by omega)
  ·rw [List.flatten_append] at hq
   have xo:=(List.getElem?_eq_some_iff.1 hq).1
   have hmap : (((bZ len i.size e).flatten ++ (bZ m i.size e2).flatten).map C.val)[q]? = some x.val:=by rw [List.getElem?_map,hq]; rfl
   rw [Array.getElem?_append_left (by rw [Array.size_append,List.size_toArray,List.size_toArray,List.length_map,List.length_map,← List.length_append]; exact xo)]
   rw [← hmap,List.map_append]
   simp
end
end M
namespace M
open Go Go.RowKit
variable [Bs]
namespace C
def belows (r : Nat) (p : Path) : Nat→Path→Bool:=fun s q=>s == r && kU p q
theorem tX (r : Nat) (p : Path) {α : Type} (f : α→X) : ∀ l : List α,X.lK r p (l.map f) = l.map fun a=>(f a).de r p
 | []=>rfl
 | a :: l=>by simp only [List.map_cons,X.lK,tX r p f l]
theorem qG (r : Nat) (p : Path) : ∀ c : C,(c.aq (belows r p)).er = c.er.de r p
 | .ref v s q=>by simp only [aq,er,X.de,belows]; cases s == r && kU p q <;> rfl
 | .aA v s q i c=>by simp only [aq,er,X.de,belows]; cases s == r && kU p q <;> rfl
 | .cut v s q i c=>by simp only [aq,er,X.de,belows]; cases s == r && kU p q <;> rfl
 | .ptr m g o n c=>by simp only [aq,er,X.de,tX]; congr 1; exact List.map_congr_left fun j _=>qG r p (c j)
 | .agg n c=>by simp only [aq,er,X.de,tX]; congr 1; exact List.map_congr_left fun j _=>qG r p (c j)
 | .ak n c=>by simp only [aq,er,X.de,tX]; congr 1; exact List.map_congr_left fun j _=>qG r p (c j)
 | .fn f n c=>by simp only [aq,er,X.de,tX]; congr 1; exact List.map_congr_left fun j _=>qG r p (c j)
 | .dead _=>by simp only [aq,er,X.de]
 | .int _ _=>by simp only [aq,er,X.de]
 | .bool _=>by simp only [aq,er,X.de]
 | .str _=>by simp only [aq,er,X.de]
 | .row _ _ _ _ _ _=>by simp only [aq,er,X.de]
theorem mB (G : Nat→C) : ∀ c : C,c.bare→c.rf G
 | .ref _ _ _,h=>h.elim
 | .aA _ _ _ _ _,h=>h.elim
 | .cut _ _ _ _ _,h=>h.elim
 | .ptr m g o n c,h=>fun j hj=>mB G (c j) (h j hj)
 | .agg n c,h=>fun j hj=>mB G (c j) (h j hj)
 | .ak n c,h=>fun j hj=>mB G (c j) (h j hj)
 | .fn f n c,h=>fun j hj=>mB G (c j) (h j hj)
 | .dead _,_=>trivial
 | .int _ _,_=>trivial
 | .bool _,_=>trivial
 | .str _,_=>trivial
 | .row _ _ _ _ _ _,_=>trivial
theorem pQ {l : List X} : X.bare.fQ l = true↔∀ x∈l,x.bare = true:=by
 induction l with
 | nil=>simp [X.bare.fQ]
 | cons a l ih=>simp [X.bare.fQ,ih]
theorem iR : ∀ c : C,c.er.bare = true↔c.bare
 | .ref _ _ _=>by simp [er,X.bare,bare]
 | .aA _ _ _ _ _=>by simp [er,X.bare,bare]
 | .cut _ _ _ _ _=>by simp [er,X.bare,bare]
 | .ptr m g o n c=>by
  simp only [er,X.bare,bare,pQ,List.mem_map,List.mem_range]
  exact ⟨fun h j hj=>(iR (c j)).1 (h _ ⟨j,hj,rfl⟩),fun h x ⟨j,hj,e⟩=>e ▸ (iR (c j)).2 (h j hj)⟩
 | .agg n c=>by
  simp only [er,X.bare,bare,pQ,List.mem_map,List.mem_range]
  exact ⟨fun h j hj=>(iR (c j)).1 (h _ ⟨j,hj,rfl⟩),fun h x ⟨j,hj,e⟩=>e ▸ (iR (c j)).2 (h j hj)⟩
 | .ak n c=>by
  simp only [er,X.bare,bare,pQ,List.mem_map,List.mem_range]
  exact ⟨fun h j hj=>(iR (c j)).1 (h _ ⟨j,hj,rfl⟩),fun h x ⟨j,hj,e⟩=>e ▸ (iR (c j)).2 (h j hj)⟩
 | .fn f n c=>by
  simp only [er,X.bare,bare,pQ,List.mem_map,List.mem_range]
  exact ⟨fun h j hj=>(iR (c j)).1 (h _ ⟨j,hj,rfl⟩),fun h x ⟨j,hj,e⟩=>e ▸ (iR (c j)).2 (h j hj)⟩
 | .dead _=>by simp [er,X.bare,bare]
 | .int _ _=>by simp [er,X.bare,bare]
 | .bool _=>by simp [er,X.bare,bare]
 | .str _=>by simp [er,X.bare,bare]
 | .row _ _ _ _ _ _=>by simp [er,X.bare,bare]
theorem HU : ∀ {p q : Path},X.pfx p q = true→¬ p.length < q.length→q = p
 | [],[],_,_=>rfl
 | [],_ :: _,_,h=>by simp at h
 | _ :: _,[],h,_=>by simp [X.pfx] at h
 | x :: p,y :: q,h,hl=>by
  simp only [X.pfx,Bool.and_eq_true,beq_iff_eq] at h
  obtain ⟨⟨h1,h2⟩,h3⟩:=h
  rw [HU h3 (by simpa using hl)]
  congr 1
  cases x; cases y; simp only at h1 h2; rw [h1,h2]
end C
theorem Gi (r : Nat) (p : Path) (t : Nat) : ∀ s : ag,get (ng r p s) t = (get s t).de r p
 | []=>by simp [ng,get,X.de]
 | (k,v) :: s=>by
  simp only [ng,get]
  cases k == t
  ·exact Gi r p t s
  ·rfl
namespace Inv
variable {w w' : World} {zl az zb : Nat→Nat→Prop} {G : Nat→C} {s : ag} {S : Nat→Nat→Prop}
theorem de (h : Inv w zl zb G s) (r : Nat) (p : Path) : Inv w zl zb (fun t=>(G t).aq (C.belows r p)) (ng r p s) :=
 h.off _ fun t=>by rw [C.qG,Gi,h.er]
theorem Aw (h : Inv w zl zb G s) (r : Nat) (p : Path) (hfree : ∀ t,(G t).free (C.belows r p)) {d d' : C} (hsub : (G r).sub p = some d) (hF : C.dU d d') (hl : C.eM d d') (GD : d'.rf G∧d'.free (C.belows r p)) (hE : Ext S w w')
  (hS : ∀ b k,S b k→d.fp b k∨((∀ t,¬ (G t).fp b k)∧¬ zl b k∧¬ zb b k)) (hok : d'.ok w' (Zf az zb)) (hz1 : ∀ b k,zl b k→az b k) (hz2 : ∀ b k,az b k→¬ d'.fp b k∧b < w'.heap.size∧∀ t,(G t).fp b k→d.fp b k)
  (bq : ∀ b k,d'.fp b k→d.fp b k∨((∀ t,¬ (G t).fp b k)∧¬ zb b k)) :
  Inv w' az zb (dF G r (C.putAt p (G r) d')) ((r,X.putAt p (get s r) d'.er) :: s)∧(∀ t,(dF G r (C.putAt p (G r) d') t).val = (G t).val) ∧
   ∀ t b k,(dF G r (C.putAt p (G r) d') t).fp b k→d'.fp b k∨((G t).fp b k∧¬ d.fp b k):=by
 have eP : ∀ {b k},d.fp b k→(G r).fp b k:=fun hf=>C.ep p hsub (h.ok r) hf
 have hZ : ∀ m b k,Zf zl zb m b k→¬ S b k:=fun m b k hz hs=>by
  rcases hS b k hs with hs | hs
  ·exact h.rU r m b k hz (eP hs)
  ·cases m with
   | own=>exact hz.elim
   | sl=>exact hs.2.1 hz
   | af=>exact hz.elim hs.2.1 hs.2.2
 have hM : ∀ m b k,Zf zl zb m b k→Zf az zb m b k:=fun m b k hz=>by
  cases m with
  | own=>exact hz
  | sl=>exact hz1 b k hz
  | af=>exact hz.imp (hz1 b k) id
 obtain ⟨i1,i2,i3⟩:=C.uT hM hE hZ p (G r) d d' (h.ok r) hsub hok hl (fun b k hs=>(hS b k hs).imp id fun hn=>hn.1 r) (fun b k hf=>(bq b k hf).imp id fun hn=>hn.1 r)
 have hr' : ∀ t,t≠r→∀ b k,(C.putAt p (G r) d').fp b k→¬ (G t).fp b k:=fun t e b k hf=>by
  rcases i2 b k hf with hf | hf
  ·rcases bq b k hf with hf | hf
   ·exact h.sep r t (fun e'=>e e'.symm) b k (eP hf)
   ·exact hf.1 t
  ·exact h.sep r t (fun e'=>e e'.symm) b k hf.1
 have key : ∀ c' : C,c'.free (C.belows r p)→c'.rf G→c'.rf (dF G r (C.putAt p (G r) d')):=fun c' hf hr=>C.iO (C.belows r p) (fun s' q' y' hk hs=>by
  by_cases e : s' = r
  ·subst e
   rw [cB]
   cases hp : X.pfx p q' with
   | false=>exact C.zZ p q' (G s') d' y' hp hs
   | true =>
    have hlen : ¬ p.length < q'.length:=by
     simpa [C.belows,kU,hp] using hk
    have he:=C.HU hp hlen
    subst he
    rw [hsub] at hs
    injection hs with hs
    subst hs
    exact .inl ⟨d',hF,C.z7 _ hsub⟩
  ·rw [cv _ _ e]
   exact C.self y' _ q' hs) c' hf hr
 refine ⟨⟨fun t=>?_,fun t=>?_,fun t u hne b k hf=>?_,fun t b k hf=>?_,fun t=>?_,fun b k hz=>?_⟩,fun t=>?_,fun t b k hf=>?_⟩
 ·rw [qi]
  by_cases e : t = r
  ·subst e; rw [cB,if_pos rfl,C.Dz,h.er]
  ·rw [cv _ _ e,if_neg e]; exact h.er t
 ·by_cases e : t = r
  ·subst e; rw [cB]; exact i1
  ·rw [cv _ _ e]
   refine C.ei hM _ (C.dx hE hZ _ (fun b k hf hs=>?_) (h.ok t))
   rcases hS b k hs with hs | hs
   ·exact h.sep t r e b k hf (eP hs)
   ·exact hs.1 t hf
 ·by_cases e : t = r
  ·subst e
   rw [cB] at hf
   rw [cv _ _ (fun e=>hne e.symm)]
   exact hr' u (fun e=>hne e.symm) b k hf
  ·rw [cv _ _ e] at hf
   by_cases e' : u = r
   ·subst e'
    rw [cB]
    exact fun hc=>hr' t e b k hc hf
   ·rw [cv _ _ e']; exact h.sep t u hne b k hf
 ·by_cases e : t = r
  ·subst e
   rw [cB] at hf
   rcases i2 b k hf with hf | ⟨hf,hn⟩
   ·refine ⟨fun hz=>(hz2 b k hz).1 hf,fun hz=>?_⟩
    rcases bq b k hf with hf | hf
    ·exact (h.fz t b k (eP hf)).2 hz
    ·exact hf.2 hz
   ·exact ⟨fun hz=>hn ((hz2 b k hz).2.2 t hf),(h.fz t b k hf).2⟩
  ·rw [cv _ _ e] at hf
   exact ⟨fun hz=>h.sep t r e b k hf (eP ((hz2 b k hz).2.2 t hf)),(h.fz t b k hf).2⟩
 ·by_cases e : t = r
  ·subst e
   rw [cB]
   have inner : ∀ (p' : Path) (c' : C),c'.free (C.belows t p)→c'.rf G→(C.putAt p' c' d').rf (dF G t (C.putAt p (G t) d')):=by
    intro p'
    induction p' with
    | nil=>intro c' _ _; exact key d' GD.2 GD.1
    | cons x p' ih =>
     intro c' fG gB
     simp only [C.putAt]
     cases hst : c'.step x with
     | none=>exact key c' fG gB
     | some z =>
      cases c' with
      | row m sz A len cap e=>trivial
      | ptr m g o n c =>
       simp only [C.step] at hst
       split at hst
       ·rename_i hq
        injection hst with hst
        intro j hj
        simp only [C.br]
        split
        ·exact ih z (by rw [← hst]; exact fG _ hq.2) (by rw [← hst]; exact gB _ hq.2)
        ·exact key _ (fG j hj) (gB j hj)
       ·cases hst
      | agg n c =>
       simp only [C.step] at hst
       split at hst
       ·rename_i hq
        injection hst with hst
        intro j hj
        simp only [C.br]
        split
        ·exact ih z (by rw [← hst]; exact fG _ hq.2) (by rw [← hst]; exact gB _ hq.2)
        ·exact key _ (fG j hj) (gB j hj)
       ·cases hst
      | ak n c =>
       simp only [C.step] at hst
       split at hst
       ·rename_i hq
        injection hst with hst
        intro j hj
        simp only [C.br]
        split
        ·exact ih z (by rw [← hst]; exact fG _ hq.2) (by rw [← hst]; exact gB _ hq.2)
        ·exact key _ (fG j hj) (gB j hj)
       ·cases hst
      | _=>simp [C.step] at hst
   exact inner p (G t) (hfree t) (h.rf t)
  ·rw [cv _ _ e]; exact key _ (hfree t) (h.rf t)
 ·exact hz.elim (fun hz=>(hz2 b k hz).2.1) fun hz=>Nat.lt_of_lt_of_le (h.bJ b k (.inr hz)) hE.size
 ·by_cases e : t = r
  ·subst e; rw [cB]; exact i3.val
  ·rw [cv _ _ e]
 ·by_cases e : t = r
  ·subst e
   rw [cB] at hf
   exact i2 b k hf
  ·rw [cv _ _ e] at hf; exact .inr ⟨hf,fun hd=>h.sep t r e b k hf (eP hd)⟩
theorem EG (h : Inv w zl zb G s) (hE : Ext S w w') (hS : ∀ b k,S b k→(∀ t,¬ (G t).fp b k)∧¬ zl b k∧¬ zb b k) (hz1 : ∀ b k,zl b k→az b k) (hz2 : ∀ b k,az b k→b < w'.heap.size∧∀ t,¬ (G t).fp b k) : Inv w' az zb G s:=by
 have h1:=h.ext hE (fun t b k hf hs=>(hS b k hs).1 t hf) (fun b k hz hs=>hz.elim (hS b k hs).2.1 (hS b k hs).2.2)
 refine ⟨h1.er,fun t=>C.ei (fun m b k hz=>?_) _ (h1.ok t),h1.sep,fun t b k hf=>⟨fun hz=>(hz2 b k hz).2 t hf,(h1.fz t b k hf).2⟩,h1.rf,fun b k hz=>hz.elim (fun hz=>(hz2 b k hz).1) fun hz=>h1.bJ b k (.inr hz)⟩
 cases m with
 | own=>exact hz
 | sl=>exact hz1 b k hz
 | af=>exact hz.imp (hz1 b k) id
end Inv
end M
namespace M
open Go Go.RowKit
variable [Bs]
section
variable {P : Program} {c : Ctx} {G : Nat→C} {zl : Nat→Nat→Prop} {s : ag} {a : Act} {w : World} {o : Oper} {K : ag→Prop}
theorem TG (h : St c G zl s a w) {sz : Nat} {z : List X} {ty el : TypeId} {ii : TypeInfo} {v : Value} {x : AV} {x' : Operand} (ho : o.op = .call { callee:=.builtin .clear,args:=#[x'],argTypes:=#[ty] }) (hu : P.underlying ty = some (.slice el)) (hi : P.info? el = some ii) (hz : ii.zero = some v)
  (BK : jw v.cells.toList z = true) (hzs : z.length = sz) (h0 : 0 < sz) (hd : o.dst = none) (hx : aE x' x = true) (hK : aH P (.pX sz z x) s K) : Good P c o a w K:=by
 obtain ⟨q,q1,q2,q3⟩:=bA h hx
 simp only [aH] at hK
 rw [← q1] at hK
 cases q with
 | cut vv r p lo hi' =>
  simp only [C.er] at hK
  obtain ⟨m,bh,A,len,cap,e,A',cap',hs,hv,hlo,hhi,hcap,fE,-,-⟩:=q3.rf
  unfold look at hK
  rw [← h.inv.er,C.eo,hs] at hK
  cases m with
  | own =>
   simp only [Option.map_some,C.er] at hK
   obtain ⟨rfl,hK⟩:=hK
   obtain ⟨zs,Z⟩:=vU w zl c.zb BK
   have hzl : zs.length = z.length:=by rw [← Z.er]; simp
   have hvs : v.cells.size = z.length:=by rw [← hzl,← Array.length_toList,← Z.val]; simp
   have hok:=C.eL p hs (h.inv.ok r)
   have hin : ∀ b k,(C.row .own bh A len cap e).fp b k→(G r).fp b k:=fun b k hf=>C.ep p hs (h.inv.ok r) hf
   obtain ⟨h1,h2,h3,h4,h5⟩:=hok
   let e' : Nat→Nat→C:=fun i j=>if lo≤i∧i < hi' then zs.getD j (.dead undef) else e i j
   have he : ∀ i j,(lo≤i∧i < hi')→e' i j = zs.getD j (.dead undef):=fun i j hh=>if_pos hh
   have hne : ∀ i j,¬ (lo≤i∧i < hi')→e' i j = e i j:=fun i j hh=>if_neg hh
   have tH : ∀ j,j < bh→zs.getD j (.dead undef)∈zs:=fun j hj=>bY (by omega) _
   have gV : ∀ i j,i < len→j < bh→∀ b k,(e i j).fp b k→(C.row .own bh A len cap e).fp b k:=fun i j hi hj b k hf=>⟨rfl,.inr ⟨i,j,hi,hj,hf⟩⟩
   have oa : ∀ b k,(C.row .own bh A len cap e').fp b k→(C.row .own bh A len cap e).fp b k:=fun b k hf=>by
    obtain ⟨_,hA | ⟨i,j,hi2,hj,hf⟩⟩:=hf
    ·exact ⟨rfl,.inl hA⟩
    ·by_cases hh : lo≤i∧i < hi'
     ·rw [he i j hh] at hf; exact ((Z.all _ (tH j hj)).2.2 b k hf).elim
     ·rw [hne i j hh] at hf; exact gV i j hi2 hj b k hf
   have run : ∃ w',(execOp a.eval o).run P w = .ok (.value (.tuple #[])) w'∧Ext (fun b k=>∃ o',A = some (b,o',none)) w w'∧∀ i j,i < len→j < bh→∃ g o',A = some (g,o',none)∧w'.cell? ⟨g,o' + i * bh + j,none⟩ = some (e' i j).val:=by
    have iY : ∀ n' A2 c2 r w',a.eval x' = .slice A2 n' c2→(Builtin.clear_ #[ty] o.type #[.slice A2 n' c2]).run P w = .ok r w'→(execOp a.eval o).run P w = .ok (.value r) w':=by
     intro n' A2 c2 r w' hh hr
     simp [execOp,ho,hh,resolve,invoke,builtin,hr]
    by_cases hn0 : hi' - lo = 0
    ·refine ⟨w,?_,Ext.refl _ _,fun i j iZ hj=>?_⟩
     ·have tA : a.eval x' = .slice (Option.map (fun q : Ad=>⟨q.1,q.2.1,q.2.2⟩) A') 0 cap':=by rw [← q2,C.val,hv,hn0]
      refine iY _ _ _ _ _ tA ?_
      cases A' <;> simp [Builtin.clear_,run_underlying hu]
     ·obtain ⟨g,o',b1,b2,_⟩:=h2 i j iZ hj
      exact ⟨g,o',b1,by rw [b2,hne i j (by omega)]⟩
    ·obtain ⟨g,o',b1,_,_⟩:=h2 lo 0 (by omega) h0
     have QN : A' = some (g,o' + lo * bh,none):=by rw [fE (by omega),b1,Option.map_some,kR]
     have hall : ∀ i j,i < len→j < bh→w.cell? ⟨g,o' + i * bh + j,none⟩ = some (e i j).val:=fun i j iZ hj=>by
      obtain ⟨g2,o2,c1,c2,_⟩:=h2 i j iZ hj
      rw [b1] at c1
      injection c1 with c1
      injection c1 with c3 c4
      injection c4 with c4
      subst c3; subst c4
      exact c2
     have Rn : ∀ k,o'≤k→k < o' + cap * bh→w.frozen? ⟨g,k,none⟩ = false:=by
      rcases h4 rfl with ⟨d1,_⟩ | ⟨g2,o2,arr,t,fz,d1,d2,d3,d4⟩
      ·rw [b1] at d1; cases d1
      ·rw [b1] at d1
       injection d1 with d1
       injection d1 with d5 d6
       injection d6 with d6
       subst d5; subst d6
       exact d4
     let vs : List Value:=(Builtin.zeroCells v.cells (hi' - lo)).toList
     have hvl : vs.length = (hi' - lo) * bh:=by simp [vs,Builtin.zeroCells,hvs,hzs]
     have G6 : ∀ k (hk : k < vs.length),vs[k] = (zs.getD (k % bh) (.dead undef)).val:=by
      intro k hk
      have hm : k % bh < zs.length:=by rw [hzl,hzs]; exact Nat.mod_lt _ h0
      have hm2 : k % bh < v.cells.size:=by omega
      have e1 : vs[k] = v.cells[k % v.cells.size]!:=by simp [vs,Builtin.zeroCells]
      rw [e1,hvs,hzs,getElem!_pos v.cells (k % bh) hm2]
      have:=congrArg (fun t : List Value=>t[k % bh]?) Z.val
      simp only [List.getElem?_map] at this
      rw [List.getElem?_eq_getElem hm] at this
      rw [List.getD_eq_getElem?_getD,List.getElem?_eq_getElem hm]
      simp only [Option.map_some,Array.getElem?_toList,Array.getElem?_eq_getElem hm2,Option.some.injEq] at this
      exact this.symm
     have hidx : ∀ k,k < (hi' - lo) * bh→k / bh < hi' - lo∧k = k / bh * bh + k % bh:=fun k hk=>by
      refine ⟨(Nat.div_lt_iff_lt_mul h0).2 hk,?_⟩
      have:=Nat.div_add_mod k bh
      rw [Nat.mul_comm] at this
      omega
     have GV : ∀ k,k < (hi' - lo) * bh→o' + lo * bh + k = o' + (lo + k / bh) * bh + k % bh:=fun k hk=>by
      have:=(hidx k hk).2
      rw [Nat.add_mul]
      omega
     have hsome : ∀ j,j < vs.length→(w.cell? ⟨g,o' + lo * bh + j,none⟩).isSome = true:=fun j hj=>by
      rw [hvl] at hj
      rw [GV j hj,hall _ _ (by have:=(hidx j hj).1; omega) (Nat.mod_lt _ h0)]
      rfl
     have hst:=run_storeCells_cells (P:=P) g (o' + lo * bh) vs 0 w (by simpa using hsome) (fun j hj=>by
      rw [hvl] at hj
      refine Rn _ (by omega) ?_
      rw [Nat.add_zero,GV j hj]
      have h7:=(hidx j hj).1
      have h8 : (lo + j / bh + 1) * bh≤cap * bh:=Nat.mul_le_mul_right _ (by omega)
      have h9:=Nat.mod_lt j h0
      rw [Nat.add_mul,Nat.one_mul] at h8
      omega) (fun u hu=>by
      obtain ⟨k,hk,rfl⟩:=List.getElem_of_mem hu
      rw [G6 k hk]
      exact Inv.mE (C.iL (Z.all _ (tH _ (Nat.mod_lt _ h0))).1))
     have hE:=Ext.setCells g vs (o' + lo * bh) w
     have QX:=World.cell?_setCells_in g vs (o' + lo * bh) w hsome
     simp only [Nat.add_zero] at hst
     refine ⟨w.setCells g (o' + lo * bh) vs,?_,hE.mono fun b k hh _=>⟨o',by rw [b1,hh.1]⟩,fun i j iZ hj=>⟨g,o',b1,?_⟩⟩
     ·have tA : a.eval x' = .slice (some ⟨g,o' + lo * bh,none⟩) (hi' - lo) cap':=by rw [← q2,C.val,hv,QN]; rfl
      refine iY _ _ _ _ _ tA ?_
      obtain ⟨m,hm⟩ : ∃ m,hi' - lo = m + 1:=⟨hi' - lo - 1,by omega⟩
      have Sb : ∀ w,(zeroValue el).run P w = .ok v w:=by intro w; simp [zeroValue,typeInfo,hi,hz]
      simp only [vs,hm] at hst ⊢
      simp [Builtin.clear_,run_underlying hu,Sb,hst]
     ·by_cases hh : lo≤i∧i < hi'
      ·have hk : (i - lo) * bh + j < vs.length:=by
        rw [hvl]
        have : (i - lo + 1) * bh≤(hi' - lo) * bh:=Nat.mul_le_mul_right _ (by omega)
        rw [Nat.add_mul,Nat.one_mul] at this
        omega
       have:=QX _ hk
       rw [G6 _ hk,Nat.mul_add_mod_self_right,Nat.mod_eq_of_lt hj] at this
       have hq : lo * bh + (i - lo) * bh = i * bh:=by rw [← Nat.add_mul]; congr 1; omega
       rw [show o' + lo * bh + ((i - lo) * bh + j) = o' + i * bh + j by omega] at this
       rw [he i j hh]
       exact this
      ·rw [hne i j hh,World.cell?_setCells_out,hall i j iZ hj]
       intro _ _
       simp only
       rw [hvl]
       by_cases hl : i < lo
       ·left
        have : (i + 1) * bh≤lo * bh:=Nat.mul_le_mul_right _ (by omega)
        rw [Nat.add_mul,Nat.one_mul] at this
        omega
       ·right
        have t1 : hi' * bh≤i * bh:=Nat.mul_le_mul_right _ (by omega)
        have t2 : lo * bh + (hi' - lo) * bh = hi' * bh:=by rw [← Nat.add_mul]; congr 1; omega
        omega
   obtain ⟨w',hrun,hE,hcell⟩:=run
   have mN : ∀ b k,(∃ o',A = some (b,o',none))→(C.row .own bh A len cap e).fp b k:=fun b k hh=>⟨rfl,.inl hh⟩
   have Gz : ∀ m b k,Zf zl c.zb m b k→¬ (∃ o',A = some (b,o',none)):=fun m b k hz hh=>h.inv.rU r m b k hz (hin b k (mN b k hh))
   have BL : (C.row .own bh A len cap e').ok w' (Zf zl c.zb):=by
    refine ⟨h1,fun i j iZ hj=>?_,fun i j iZ hj=>?_,fun hm=>?_,fun i j iZ hj b k hf=>?_⟩
    ·obtain ⟨g,o',c1,c2⟩:=hcell i j iZ hj
     exact ⟨g,o',c1,c2,fun hm=>(hm rfl).elim⟩
    ·obtain ⟨a1,a2,a3,a4⟩:=h3 i j iZ hj
     by_cases hh : lo≤i∧i < hi'
     ·rw [he i j hh]
      obtain ⟨b1,b2,b3⟩:=Z.all _ (tH j hj)
      exact ⟨C.iL b1,C.uY b1,by cases hq : zs.getD j (.dead undef) <;> first | trivial | exact .inl rfl,C.dx hE Gz _ (fun b k hf=>(b3 b k hf).elim) b2⟩
     ·rw [hne i j hh]
      exact ⟨a1,a2,a3,C.dx hE Gz _ (fun b k hf hS=>by obtain ⟨o',hA⟩:=hS; exact (h5 i j iZ hj b k hf).1 rfl o' hA) a4⟩
    ·rcases h4 hm with hh | ⟨g,o',arr,t,fz,d1,d2,d3,d4⟩
     ·exact .inl hh
     ·have hg : g < w.heap.size:=(Array.getElem?_eq_some_iff.1 d2).1
      obtain ⟨dN,lA,hs'⟩ : ∃ dN,w'.heap[g]? = some (.cells dN t fz)∧dN.size = arr.size:=by
       rcases hE.block g hg with e' | ⟨a1,a2,t',iX,q1,q2,q3,q4⟩
       ·exact ⟨arr,e'.trans d2,rfl⟩
       ·rw [d2] at q1
        injection q1 with q1
        injection q1 with b1 b2 b3
        subst b1; subst b2; subst b3
        exact ⟨a2,q2,q3⟩
      exact .inr ⟨g,o',dN,t,fz,d1,lA,by omega,fun k k1 k2=>(hE.frozen hg).trans (d4 k k1 k2)⟩
    ·by_cases hh : lo≤i∧i < hi'
     ·rw [he i j hh] at hf; exact ((Z.all _ (tH j hj)).2.2 b k hf).elim
     ·rw [hne i j hh] at hf
      obtain ⟨a1,a2⟩:=h5 i j iZ hj b k hf
      refine ⟨a1,fun i' j' hi2 hj2 BX hf'=>?_⟩
      by_cases lA : lo≤i'∧i' < hi'
      ·rw [he i' j' lA] at hf'; exact (Z.all _ (tH j' hj2)).2.2 b k hf'
      ·rw [hne i' j' lA] at hf'; exact a2 i' j' hi2 hj2 BX hf'
   have hk0:=h.inv.de r p
   have hs0 : ((G r).aq (C.belows r p)).sub p = some (C.row .own bh A len cap e):=C.fJ _ p _ _ (h.inv.ok r) hs
   obtain ⟨i1,i2,i3⟩:=hk0.Aw r p (fun t=>C.dZ _ _) hs0 (C.dU.row .own .own bh A len cap e e') ⟨rfl,fun h=>h,fun h=>h,fun h=>h,fun m h=>h⟩ ⟨trivial,trivial⟩ hE (fun b k hs=>.inl (mN b k hs)) BL (fun b k hz=>hz)
    (fun b k hz=>⟨fun hf=>(h.inv.fz r b k (hin b k (oa b k hf))).1 hz,Nat.lt_of_lt_of_le (h.inv.bJ b k (.inl hz)) hE.size,fun t hf=>by
     rw [C.bT] at hf
     exact ((h.inv.fz t b k hf).1 hz).elim⟩) (fun b k hf=>.inl (oa b k hf))
   have gS : (C.row .own bh A len cap e').er = .row .own bh (wQ lo hi' z ((List.range len).map fun i=>(List.range bh).map fun j=>(e i j).er)):=by
    simp only [C.er,wQ]
    congr 1
    apply List.ext_getElem?
    intro i
    rw [List.getElem?_mapIdx,C.cm,C.cm]
    split
    ·simp only [Option.map_some,Option.some.injEq]
     by_cases hh : lo≤i∧i < hi'
     ·rw [if_pos hh,← Z.er,← jh zs (.dead undef) C.er,hzl,hzs]
      exact List.map_congr_left fun j _=>by rw [he i j hh]
     ·rw [if_neg hh]
      exact List.map_congr_left fun j _=>by rw [hne i j hh]
    ·rfl
   rw [gS] at i1
   have hst : St c _ zl _ a w':=h.move i1 (fun t=>(i2 t).trans (C.fK _ _)) hE (fun b k hs=>h.tr.dom r b k (hin b k (mN b k hs))) (fun t b k hf=>by
    rcases i3 t b k hf with hd | ⟨hh,_⟩
    ·exact .inl ⟨r,hin b k (oa b k hd)⟩
    ·rw [C.bT] at hh
     exact .inl ⟨t,hh⟩)
   exact ⟨.tuple #[],w',.inl hrun,_,zl,_,hK,by rw [hd]; exact hst⟩
  | sl=>exact hK.elim
  | af=>exact hK.elim
 | _=>exact hK.elim
end
end M
namespace M
open Go Go.RowKit
variable [Bs]
section
variable {P : Program} {c : Ctx} {G : Nat→C} {zl : Nat→Nat→Prop} {s : ag} {a : Act} {w : World} {o : Oper} {K : ag→Prop}
theorem Dw {x : C} (hc : x.cell) (hs : x.bU) : x.plain:=by
 cases x <;> first | exact hc | exact hs.elim | trivial
theorem sK {x : C} {m : Md} {z : Nat} {xs : List (List X)} (h : x.er = .row m z xs) : ∃ A len cap e,x = .row m z A len cap e∧xs = cD z len e:=by
 cases x with
 | row m' z' A len cap e =>
  simp only [C.er] at h
  injection h with h1 h2 h3
  subst h1; subst h2
  exact ⟨A,len,cap,e,rfl,h3.symm⟩
 | _=>simp [C.er] at h
theorem Il {z len : Nat} {e : Nat→Nat→C} (h : scalars (cD z len e)) {i j : Nat} (hi : i < len) (hj : j < z) : scalar (e i j).er = true :=
 h _ (List.mem_map.2 ⟨i,by simpa using hi,rfl⟩) _ (List.mem_map.2 ⟨j,by simpa using hj,rfl⟩)
theorem Im {x : C} (h : scalar x.er = true) : x.plain∧∀ b k,¬ x.fp b k:=by
 cases x <;> first | exact ⟨trivial,fun _ _ h=>h⟩ | (simp [C.er,scalar] at h)
theorem U6 {w : World} {zl zb : Nat→Nat→Prop} {G : Nat→C} {s : ag} (h : Inv w zl zb G s) {v : Value} {r : Nat} {p : Path} {lo hi : Nat} (hr : (C.cut v r p lo hi).rf G) {z : Nat} {xs : List (List X)} (hl : look s r p = some (.row .own z xs)) :
  ∃ A' cap' e2 G',v = .slice (Option.map (fun q : Ad=>⟨q.1,q.2.1,q.2.2⟩) A') (hi - lo) cap'∧((xs.take hi).drop lo) = cD z (hi - lo) e2∧(∀ i j,i < hi - lo→j < z→∃ g o,A' = some (g,o,none)∧w.cell? ⟨g,o + i * z + j,none⟩ = some (e2 i j).val) ∧
   (∀ i j,i < hi - lo→j < z→(e2 i j).plain)∧aW w zl zb G (bZ (hi - lo) z e2).flatten G' (dB r p (.row .own z (wD lo hi xs)) s):=by
 obtain ⟨m,sz,A,len,cap,e,A',cap',hs,hv,hlo,hhi,hcap,fE,-,-⟩:=hr
 unfold look at hl
 rw [← h.er,C.eo,hs] at hl
 simp only [Option.map_some,C.er,Option.some.injEq,X.row.injEq] at hl
 obtain ⟨rfl,rfl,rfl⟩:=hl
 have hok:=C.eL p hs (h.ok r)
 have hin : ∀ b k,(C.row .own sz A len cap e).fp b k→(G r).fp b k:=fun b k hf=>C.ep p hs (h.ok r) hf
 obtain ⟨h1,h2,h3,h4,h5⟩:=hok
 let e' : Nat→Nat→C:=fun i j=>if lo≤i∧i < hi then .dead (e i j).val else e i j
 have he : ∀ i j,(lo≤i∧i < hi)→e' i j = .dead (e i j).val:=fun i j hh=>if_pos hh
 have hne : ∀ i j,¬ (lo≤i∧i < hi)→e' i j = e i j:=fun i j hh=>if_neg hh
 have gV : ∀ i j,i < len→j < sz→∀ b k,(e i j).fp b k→(C.row .own sz A len cap e).fp b k:=fun i j hi hj b k hf=>⟨rfl,.inr ⟨i,j,hi,hj,hf⟩⟩
 have oa : ∀ b k,(C.row .own sz A len cap e').fp b k→(C.row .own sz A len cap e).fp b k:=fun b k hf=>by
  obtain ⟨_,hA | ⟨i,j,hi',hj,hf⟩⟩:=hf
  ·exact ⟨rfl,.inl hA⟩
  ·by_cases hh : lo≤i∧i < hi
   ·rw [he i j hh] at hf; exact hf.elim
   ·rw [hne i j hh] at hf; exact gV i j hi' hj b k hf
 have BL : (C.row .own sz A len cap e').ok w (Zf zl zb):=by
  refine ⟨h1,fun i j hi' hj=>?_,fun i j hi' hj=>?_,h4,fun i j hi' hj b k hf=>?_⟩
  ·obtain ⟨g,o,a1,a2,a3⟩:=h2 i j hi' hj
   refine ⟨g,o,a1,?_,a3⟩
   rw [a2]
   by_cases hh : lo≤i∧i < hi
   ·rw [he i j hh]; rfl
   ·rw [hne i j hh]
  ·obtain ⟨a1,a2,a3,a4⟩:=h3 i j hi' hj
   by_cases hh : lo≤i∧i < hi
   ·rw [he i j hh]; exact ⟨Inv.mE a1,trivial,trivial,trivial⟩
   ·rw [hne i j hh]; exact ⟨a1,a2,a3,a4⟩
  ·by_cases hh : lo≤i∧i < hi
   ·rw [he i j hh] at hf; exact hf.elim
   ·rw [hne i j hh] at hf
    obtain ⟨a1,a2⟩:=h5 i j hi' hj b k hf
    refine ⟨a1,fun i' j' hi2 hj2 BX hf'=>?_⟩
    by_cases lA : lo≤i'∧i' < hi
    ·rw [he i' j' lA] at hf'; exact hf'
    ·rw [hne i' j' lA] at hf'; exact a2 i' j' hi2 hj2 BX hf'
 have h0:=h.de r p
 have hs0 : ((G r).aq (C.belows r p)).sub p = some (C.row .own sz A len cap e):=C.fJ _ p _ _ (h.ok r) hs
 obtain ⟨i1,i2,i3⟩:=h0.Aw r p (fun t=>C.dZ _ _) hs0 (C.dU.row .own .own sz A len cap e e') ⟨rfl,fun h=>h,fun h=>h,fun h=>h,fun m h=>h⟩ ⟨trivial,trivial⟩ (Ext.refl (fun _ _=>False) w) (fun b k hs=>hs.elim) BL (fun b k hz=>hz)
  (fun b k hz=>⟨fun hf=>(h.fz r b k (hin b k (oa b k hf))).1 hz,h.bJ b k (.inl hz),fun t hf=>by
   rw [C.bT] at hf
   exact ((h.fz t b k hf).1 hz).elim⟩) (fun b k hf=>.inl (oa b k hf))
 have gS : (C.row .own sz A len cap e').er = .row .own sz (wD lo hi ((List.range len).map fun i=>(List.range sz).map fun j=>(e i j).er)):=by
  simp only [C.er,wD]
  congr 1
  apply List.ext_getElem?
  intro i
  rw [List.getElem?_mapIdx,C.cm,C.cm]
  split
  ·simp only [Option.map_some,Option.some.injEq]
   by_cases hh : lo≤i∧i < hi
   ·rw [if_pos hh,List.map_map]
    exact List.map_congr_left fun j _=>by rw [he i j hh]; rfl
   ·rw [if_neg hh]
    exact List.map_congr_left fun j _=>by rw [hne i j hh]
  ·rfl
 rw [gS] at i1
 have hmem : ∀ x∈(bZ (hi - lo) sz fun i j=>e (i + lo) j).flatten,∃ i j,i < hi - lo∧j < sz∧x = e (i + lo) j:=fun x hx=>by
  obtain ⟨i,j,hi',hj,rfl⟩:=jJ hx
  exact ⟨i,j,hi',hj,rfl⟩
 have hlt : hi - lo≠0→A' = A.map fun q=>fP (lo * sz) q:=fun hne=>fE (by omega)
 have hrow : (((List.range len).map fun i=>(List.range sz).map fun j=>(e i j).er).take hi).drop lo = cD sz (hi - lo) fun i j=>e (i + lo) j:=by
  unfold cD
  rw [← List.map_take,← List.map_drop,List.take_range,Nat.min_eq_left hhi]
  apply List.ext_getElem?
  intro i
  rw [C.cm,List.getElem?_map,List.getElem?_drop]
  by_cases hh : i < hi - lo
  ·rw [if_pos hh,List.getElem?_range (by omega),Nat.add_comm]
   rfl
  ·rw [if_neg hh,List.getElem?_eq_none (by simp; omega)]
   rfl
 have QH : ∀ i j,i < hi - lo→j < sz→(e (i + lo) j).plain:=fun i j hi' hj=>Dw (h3 (i + lo) j (by omega) hj).1 (h3 (i + lo) j (by omega) hj).2.1
 refine ⟨A',cap',fun i j=>e (i + lo) j,_,hv,hrow,fun i j hi' hj=>?_,QH,⟨i1,fun x hx=>?_,?_,fun t=>(i2 t).trans (C.fK _ _),fun t b k hf=>?_⟩⟩
 ·obtain ⟨g,o,a1,a2,a3⟩:=h2 (i + lo) j (by omega) hj
  refine ⟨g,o + lo * sz,by rw [hlt (by omega),a1,Option.map_some,kR],?_⟩
  rw [show o + lo * sz + i * sz + j = o + (i + lo) * sz + j by rw [Nat.add_mul]; omega]
  exact a2
 ·obtain ⟨i,j,hi',hj,rfl⟩:=hmem x hx
  have hj2 : i + lo < len:=by omega
  refine ⟨(h3 (i + lo) j hj2 hj).2.2.2,fun t b k hf hf'=>?_,fun b k hf=>h.fz r b k (hin b k (gV _ _ hj2 hj b k hf)),fun b k hf=>⟨r,hin b k (gV _ _ hj2 hj b k hf)⟩⟩
  rcases i3 t b k hf' with hd | ⟨_,hn⟩
  ·obtain ⟨_,⟨o,hA⟩ | ⟨i',j',hi2,Rx,eR⟩⟩:=hd
   ·exact (h5 _ j hj2 hj b k hf).1 rfl o hA
   ·by_cases hh : lo≤i'∧i' < hi
    ·rw [he i' j' hh] at eR; exact eR
    ·rw [hne i' j' hh] at eR
     refine (h5 _ j hj2 hj b k hf).2 i' j' hi2 Rx (fun e=>hh ?_) eR
     injection e with e1 e2
     omega
  ·exact hn (gV _ _ hj2 hj b k hf)
 ·have hsub : (C.row .own sz (A.map fun q=>fP (lo * sz) q) (hi - lo) (cap - lo) fun i j=>e (i + lo) j).ok w (Zf zl zb):=(Fx ⟨h1,h2,h3,h4,h5⟩ hlo hhi (by omega) (by omega) (.inr rfl)).1
  exact CD hsub
 ·by_cases ht : t = r
  ·subst ht
   rcases i3 t b k hf with hd | ⟨hh,_⟩
   ·exact hin b k (oa b k hd)
   ·rwa [C.bT] at hh
  ·rw [cv _ _ ht,C.bT] at hf
   exact hf
theorem Tu (h : St c G zl s a w) {d sz bytes : Nat} {tk : Tk} {ty ty' el wH : TypeId} {i : TypeInfo} {v : Value} {x y : AV} {x' y' : Operand}
  (ho : o.op = .call { callee:=.builtin .append,args:=#[x',y'],argTypes:=#[ty,ty'] }) (hu : P.underlying ty = some (.slice el)) (qv : P.underlying ty' = some (.slice wH)) (hi : P.info? el = some i) (hz : i.zero = some v) (hsz : i.size = sz) (hb : i.bytes = bytes) (hb0 : 0 < bytes) (h0 : 0 < sz) (hvs : v.cells.size = sz)
  (hd : o.dst = some d) (hn : d < c.nt) (hx : aE x' x = true) (hy : aE y' y = true) (hK : aH P (.app d tk sz bytes x y) s K) : Good P c o a w K:=by
 obtain ⟨p,e1,e2,e3⟩:=bA h hx
 obtain ⟨y1,G1,f1,f2,f3,f4⟩:=l9 .mv h.inv e3
 simp only [aH] at hK
 rw [e1] at f1 f4
 rw [← f1] at hK
 have h1:=h.rQ f4
 have Cb:=(f2.trans e2).symm
 cases hE : y1.er with
 | row m z xs =>
  rw [hE] at hK
  cases m with
  | own =>
   obtain ⟨A,len,cap,e,rfl,rfl⟩:=sK hE
   obtain ⟨rfl,hK⟩:=hK
   obtain ⟨q,q1,q2,q3⟩:=bA h1 hy
   have hk1 : ∀ i j,i < len→j < z→(e i j).plain:=fun i j hi hj=>Dw (f4.ok.2.2.1 i j hi hj).1 (f4.ok.2.2.1 i j hi hj).2.1
   have hxl : (cD z len e).length = len:=by simp [cD]
   have other : (∃ ys,rowAt (take .mv (ai s x) s).2 (ai (take .mv (ai s x) s).2 y) = some (z,ys)∧((cD z len e).length + ys.length) * bytes≤140737488355328∧scalars ys∧K (put d (.row .own z (cD z len e ++ ys)) (take .mv (ai s x) s).2))→Good P c o a w K:=by
    rintro ⟨ys,k1,k2,k3,k4⟩
    rw [← q1] at k1
    obtain ⟨A2,m,cap2,e2,rfl,hv⟩:=DI h1.inv q3 k1
    have kr : (cD z m e2).length = m:=by simp [cD]
    refine Au h (aW.one f4) ho hu qv hi hz hsz hb hb0 h0 hvs hd hn (List.mem_singleton.2 rfl) Cb (by rw [← q2]; exact hv.val) (fun i j hi hj=>hv.cell i j hi hj) (fun i j hi hj=>?_) (mq fun x hx=>?_) (by rw [hxl,kr] at k2; exact k2) hk1 k4
    ·obtain ⟨s1,s2⟩:=Im (Il k3 hi hj)
     exact ⟨s1,(hv.Sy i j hi hj).2.2,fun b k hf=>(s2 b k hf).elim⟩
    ·obtain ⟨i,j,hi,hj,rfl⟩:=jJ hx
     exact (Im (Il k3 hi hj)).2
   cases tk with
   | al=>exact other hK
   | bH=>exact other hK
   | mv =>
    simp only at hK
    by_cases hcut : ∃ v r p lo hi,q = .cut v r p lo hi
    ·obtain ⟨vv,r,pp,lo,hi',rfl⟩:=hcut
     rw [← q1] at hK
     simp only [C.er,gH] at hK
     split at hK
     ·rename_i hh
      split at hh
      ·rename_i z2 xs hl
       simp only [X.row.injEq,true_and] at hh
       obtain ⟨rfl,rfl⟩:=hh
       obtain ⟨rfl,k2,k4⟩:=hK
       obtain ⟨A2,cap2,e3,G3,c1,c2,c3,c4,c5⟩:=U6 h1.inv q3.rf hl
       rw [c2] at k2 k4
       have kr : (cD z2 (hi' - lo) e3).length = hi' - lo:=by simp [cD]
       simp only [hl] at k4
       refine Au h (aW.cons f4 c5) ho hu qv hi hz hsz hb hb0 h0 hvs hd hn (List.mem_cons_self ..) Cb (A2:=A2) (m:=hi' - lo) (cap2:=cap2) (e2:=e3) (by rw [← q2]; exact c1) c3 (fun i j hi hj=>?_) c5.apart (by rw [hxl,kr] at k2; exact k2) hk1 k4
       have hm : e3 i j∈(bZ (hi' - lo) z2 e3).flatten:=List.mem_flatten.2 ⟨_,List.mem_map.2 ⟨i,by simpa using hi,rfl⟩,List.mem_map.2 ⟨j,by simpa using hj,rfl⟩⟩
       refine ⟨c4 i j hi hj,(c5.all _ hm).1,fun b k hf=>⟨fun hf'=>?_,_,List.mem_cons_of_mem _ hm,hf⟩⟩
       obtain ⟨t,ht⟩:=(c5.all _ hm).2.2.2 b k hf
       exact f4.sep t b k hf' ht
      ·cases hh
     ·exact hK.elim
    have hte : gH q.er (take .mv (ai s x) s).2 = take .mv q.er (take .mv (ai s x) s).2:=by
     cases q with
     | cut v r p lo hi=>exact (hcut ⟨v,r,p,lo,hi,rfl⟩).elim
     | _=>rfl
    rw [← q1,hte,q1] at hK
    obtain ⟨y2,G2,g1,g2,g3,g4⟩:=l9 .mv h1.inv q3
    rw [q1] at g1 g4
    rw [← g1] at hK
    cases BF : y2.er with
    | row m2 z2 xs2 =>
     rw [BF] at hK
     cases m2 with
     | own =>
      obtain ⟨A2,m,cap2,e2,rfl,rfl⟩:=sK BF
      obtain ⟨rfl,k2,k4⟩:=hK
      have kr : (cD z2 m e2).length = m:=by simp [cD]
      obtain ⟨r1,r2,r3,r4,r5⟩:=g4.ok
      refine Au h (aW.cons f4 (aW.one g4)) ho hu qv hi hz hsz hb hb0 h0 hvs hd hn (List.mem_cons_self ..) Cb (A2:=A2) (m:=m) (cap2:=cap2) (e2:=e2) (by rw [← q2,← g2]; rfl) (fun i j hi hj=>?_) (fun i j hi hj=>?_) (CD g4.ok) (by rw [hxl,kr] at k2; exact k2) hk1 k4
      ·obtain ⟨g,o2,a1,a2,_⟩:=r2 i j hi hj; exact ⟨g,o2,a1,a2⟩
      ·obtain ⟨a1,a2,a3,a4⟩:=r3 i j hi hj
       refine ⟨Dw a1 a2,a4,fun b k hf=>?_⟩
       have hin : (C.row .own z2 A2 m cap2 e2).fp b k:=C.gD a1 a3 hi hj hf
       refine ⟨fun hf'=>?_,_,List.mem_cons_of_mem _ (List.mem_singleton.2 rfl),hin⟩
       obtain ⟨t,ht⟩:=g4.dom b k hin
       exact f4.sep t b k hf' ht
     | _=>exact hK.elim
    | _=>rw [BF] at hK; exact hK.elim
  | _=>exact hK.elim
 | _=>rw [hE] at hK; exact hK.elim
end
end M
namespace M
open Go Go.RowKit
variable [Bs]
namespace X
theorem jL (m : Md) {α : Type} (f : α→X) : ∀ l : List α,cO m (l.map f) = l.map fun a=>(f a).md m
 | []=>rfl
 | a :: l=>by simp only [List.map_cons,cO,jL m f l]
theorem yZ (m : Md) {α β : Type} (g : α→List β) (f : α→β→X) : ∀ l : List α,bC m (l.map fun a=>(g a).map (f a)) = l.map fun a=>(g a).map fun b=>(f a b).md m
 | []=>rfl
 | a :: l=>by simp only [List.map_cons,bC,jL,yZ m g f l]
end X
namespace C
def cG : C→C
 | .row _ sz A len cap e=>.row .af sz A len cap fun i j=>(e i j).cG
 | .ptr _ g o n c=>.ptr .af g o n fun j=>(c j).cG
 | .agg n c=>.agg n fun j=>(c j).cG
 | .ak n c=>.ak n fun j=>(c j).cG
 | .fn f n c=>.fn f n fun j=>(c j).cG
 | .ref v _ _=>.dead v
 | .aA v _ _ _ _=>.dead v
 | .cut v _ _ _ _=>.dead v
 | .dead v=>.dead v
 | .int k n=>.int k n
 | .bool b=>.bool b
 | .str s=>.str s
theorem nr : ∀ c : C,c.cG.er = c.er.md .af
 | .row m sz A len cap e=>by
  simp only [cG,er,X.md]
  rw [X.yZ .af (fun _=>List.range sz) (fun i j=>(e i j).er)]
  congr 1
  exact List.map_congr_left fun i _=>List.map_congr_left fun j _=>nr (e i j)
 | .ptr m g o n c=>by simp only [cG,er,X.md,X.jL]; congr 1; exact List.map_congr_left fun j _=>nr (c j)
 | .agg n c=>by simp only [cG,er,X.md,X.jL]; congr 1; exact List.map_congr_left fun j _=>nr (c j)
 | .ak n c=>by simp only [cG,er,X.md,X.jL]; congr 1; exact List.map_congr_left fun j _=>nr (c j)
 | .fn f n c=>by simp only [cG,er,X.md,X.jL]; congr 1; exact List.map_congr_left fun j _=>nr (c j)
 | .ref _ _ _=>by simp only [cG,er,X.md]
 | .aA _ _ _ _ _=>by simp only [cG,er,X.md]
 | .cut _ _ _ _ _=>by simp only [cG,er,X.md]
 | .dead _=>by simp only [cG,er,X.md]
 | .int _ _=>by simp only [cG,er,X.md]
 | .bool _=>by simp only [cG,er,X.md]
 | .str _=>by simp only [cG,er,X.md]
theorem oG : ∀ c : C,c.cG.val = c.val
 | .row m sz A len cap e=>rfl
 | .ptr m g o n c=>rfl
 | .agg n c=>by simp only [cG,val]; congr 2; exact List.map_congr_left fun j _=>oG (c j)
 | .ak n c=>by simp only [cG,val]; congr 2; exact List.map_congr_left fun j _=>oG (c j)
 | .fn f n c=>by simp only [cG,val]; congr 2; exact List.map_congr_left fun j _=>oG (c j)
 | .ref _ _ _=>rfl
 | .aA _ _ _ _ _=>rfl
 | .cut _ _ _ _ _=>rfl
 | .dead _=>rfl
 | .int _ _=>rfl
 | .bool _=>rfl
 | .str _=>rfl
theorem uK : ∀ c : C,c.cG.bare
 | .row m sz A len cap e=>trivial
 | .ptr m g o n c=>fun j _=>uK (c j)
 | .agg n c=>fun j _=>uK (c j)
 | .ak n c=>fun j _=>uK (c j)
 | .fn f n c=>fun j _=>uK (c j)
 | .ref _ _ _=>trivial
 | .aA _ _ _ _ _=>trivial
 | .cut _ _ _ _ _=>trivial
 | .dead _=>trivial
 | .int _ _=>trivial
 | .bool _=>trivial
 | .str _=>trivial
theorem lP : ∀ (c : C) (b k : Nat),¬ c.cG.fp b k
 | .row m sz A len cap e,b,k=>fun h=>by cases h.1
 | .ptr m g o n c,b,k=>fun h=>by cases h.1
 | .agg n c,b,k=>fun ⟨j,_,hf⟩=>lP (c j) b k hf
 | .ak n c,b,k=>fun ⟨j,_,hf⟩=>lP (c j) b k hf
 | .fn f n c,b,k=>fun h=>h
 | .ref _ _ _,b,k=>fun h=>h
 | .aA _ _ _ _ _,b,k=>fun h=>h
 | .cut _ _ _ _ _,b,k=>fun h=>h
 | .dead _,b,k=>fun h=>h
 | .int _ _,b,k=>fun h=>h
 | .bool _,b,k=>fun h=>h
 | .str _,b,k=>fun h=>h
theorem y8 {c : C} (h : c.cell) : c.cG.cell:=by
 cases c <;> first | exact h | exact h.elim | trivial
theorem HD {c : C} (h : c.dJ) : c.cG.dJ:=by
 cases c <;> first | exact h | exact h.elim | trivial
theorem SN {c : C} (h : c.bU) : c.cG.bU:=by
 cases c <;> first | exact h | exact h.elim | trivial
theorem Df (c : C) : c.cG.fits .af:=by
 cases c <;> first | trivial | exact .inr (.inl rfl)
variable {w : World} {zl zb aR : Nat→Nat→Prop}
theorem qX (hb : ∀ b k,zb b k→aR b k) : ∀ c : C,(∀ b k,c.fp b k→aR b k)→c.ok w (Zf zl zb)→c.cG.ok w (Zf zl aR)
 | .row m sz A len cap e,hf,h=>by
  obtain ⟨h1,h2,h3,h4,h5⟩:=h
  refine ⟨h1,fun i j hi hj=>?_,fun i j hi hj=>?_,fun hm=>by (cases hm),fun i j hi hj b k hh=>(lP _ b k hh).elim⟩
  ·obtain ⟨g,o,hA,hc,hz⟩:=h2 i j hi hj
   refine ⟨g,o,hA,by rw [oG]; exact hc,fun _=>?_⟩
   cases m with
   | own=>exact .inr (hf _ _ ⟨rfl,.inl ⟨o,hA⟩⟩)
   | sl=>exact .inl (hz (by simp))
   | af=>exact (hz (by simp)).imp id (hb _ _)
  ·obtain ⟨a1,a2,a3,a4⟩:=h3 i j hi hj
   exact ⟨y8 a1,SN a2,Df _,qX hb (e i j) (fun b k hk=>hf b k (gD a1 a3 hi hj hk)) a4⟩
 | .ptr m g o n c,hf,h=>by
  obtain ⟨h1,h2,h3,h4⟩:=h
  refine ⟨fun j hj=>?_,h2,fun j hj=>?_,fun j hj b k hh=>(lP _ b k hh).elim⟩
  ·obtain ⟨a1,a2,a3⟩:=h1 j hj
   refine ⟨by rw [oG]; exact a1,fun _=>?_,fun hm=>by (cases hm)⟩
   cases m with
   | own=>exact .inr (hf _ _ ⟨rfl,.inl ⟨rfl,by omega,by omega⟩⟩)
   | sl=>exact .inl (a2 (by simp))
   | af=>exact (a2 (by simp)).imp id (hb _ _)
  ·obtain ⟨a1,a2,a3⟩:=h3 j hj
   exact ⟨y8 a1,Df _,qX hb (c j) (fun b k hk=>hf b k (gX a1 a2 hj hk)) a3⟩
 | .agg n c,hf,h=>⟨fun j hj=>⟨y8 (h.1 j hj).1,qX hb (c j) (fun b k hk=>hf b k ⟨j,hj,hk⟩) (h.1 j hj).2⟩,fun j hj b k hh=>(lP _ b k hh).elim⟩
 | .ak n c,hf,h=>⟨fun j hj=>⟨HD (h.1 j hj).1,qX hb (c j) (fun b k hk=>hf b k ⟨j,hj,hk⟩) (h.1 j hj).2⟩,fun j hj b k hh=>(lP _ b k hh).elim⟩
 | .fn f n c,hf,h=>fun j hj=>⟨qX hb (c j) (fun b k hk=>((h j hj).2 b k hk).elim) (h j hj).1,fun b k hh=>lP _ b k hh⟩
 | .ref _ _ _,_,_=>trivial
 | .aA _ _ _ _ _,_,_=>trivial
 | .cut _ _ _ _ _,_,_=>trivial
 | .dead _,_,_=>trivial
 | .int _ _,_,_=>trivial
 | .bool _,_,_=>trivial
 | .str _,_,h=>h
end C
structure dM (w : World) (zl zb : Nat→Nat→Prop) (x : C) : Prop where
 ok : x.ok w (Zf zl zb)
 bare : x.bare
 cg : ∀ b k,¬ x.fp b k
section
variable {w : World} {zl zb aR : Nat→Nat→Prop} {G : Nat→C} {s : ag}
theorem Db (hb : ∀ b k,zb b k→aR b k) {y : C} (hy : y.ok w (Zf zl zb)) (hf : ∀ b k,y.fp b k→aR b k) : dM w zl aR y.cG:=⟨C.qX hb y hf hy,C.uK y,C.lP y⟩
theorem uD (v : Value) : dM w zl aR (.dead v):=⟨trivial,trivial,fun _ _ h=>h⟩
theorem zj (h : Inv w zl zb G s) (hb : ∀ b k,zb b k→aR b k) (hG : ∀ t b k,(G t).fp b k→aR b k) {y : C} (hy : cN w zl zb G y) : ∃ x : C,x.er = iM s y.er∧x.val = y.val∧dM w zl aR x∧(y.cell→x.cell)∧(y.dJ→x.dJ)∧x.fits .af:=by
 have fL : iM s y.er = y.er.md .af→∃ x : C,x.er = iM s y.er∧x.val = y.val∧dM w zl aR x∧(y.cell→x.cell)∧(y.dJ→x.dJ)∧x.fits .af:=fun e =>
  ⟨y.cG,by rw [C.nr,e],C.oG y,Db hb hy.ok fun b k hf=>(hy.cg b k hf).elim,C.y8,C.HD,C.Df _⟩
 cases y with
 | ref v r p =>
  obtain ⟨y',z',hs,hF,hv,m,z1,A,len,cap,e,rfl⟩:=hy.rf
  cases hF with
  | row m m' sz' A len cap e e' =>
   refine ⟨(C.row m' z1 A len cap e').cG,?_,by rw [C.oG]; exact hv,Db hb (C.eL p hs (h.ok r)) fun b k hf=>hG r b k (C.ep p hs (h.ok r) hf),fun _=>trivial,fun _=>trivial,.inr (.inl rfl)⟩
   rw [C.nr]
   simp only [C.er,iM,look]
   rw [← h.er,C.eo,hs]
   rfl
 | cut v r p lo hi =>
  obtain ⟨m,sz,A,len,cap,e,A',cap',hs,hv,hlo,hhi,hcap,fE,-,-⟩:=hy.rf
  have hok:=C.eL p hs (h.ok r)
  obtain ⟨h1,h2,h3,h4,h5⟩:=(Db hb hok fun b k hf=>hG r b k (C.ep p hs (h.ok r) hf)).ok
  refine ⟨.row .af sz A' (hi - lo) cap' fun i j=>(e (i + lo) j).cG,?_,hv.symm,⟨⟨hcap,fun i j hi' hj=>?_,fun i j hi' hj=>h3 (i + lo) j (by omega) hj,fun hm=>by (cases hm),fun i j hi' hj b k hh=>(C.lP _ b k hh).elim⟩,trivial,fun b k hh=>by cases hh.1⟩,fun _=>trivial,fun _=>trivial,.inr (.inl rfl)⟩
  ·simp only [C.er,iM,look]
   rw [← h.er,C.eo,hs]
   simp only [Option.map_some,C.er,X.md]
   rw [← List.map_take,← List.map_drop,List.take_range,Nat.min_eq_left hhi,kF,List.map_map]
   show _ = X.row .af sz (X.bC .af ((List.range (hi - lo)).map fun i=>(List.range sz).map fun j=>(e (i + lo) j).er))
   rw [X.yZ .af (fun _=>List.range sz) (fun i j=>(e (i + lo) j).er) (List.range (hi - lo))]
   congr 1
   exact List.map_congr_left fun i _=>List.map_congr_left fun j _=>C.nr _
  ·obtain ⟨g,o,q1,q2,q3⟩:=h2 (i + lo) j (by omega) hj
   refine ⟨g,o + lo * sz,by rw [fE (by omega),q1,Option.map_some,kR],?_,fun hm=>?_⟩
   ·rw [show o + lo * sz + i * sz + j = o + (i + lo) * sz + j by rw [Nat.add_mul]; omega]; exact q2
   ·rw [show o + lo * sz + i * sz + j = o + (i + lo) * sz + j by rw [Nat.add_mul]; omega]; exact q3 hm
 | _=>exact fL rfl
theorem SB (h : Inv w zl zb G s) {y : C} (hy : cN w zl zb G y) {cs : List X} (hc : dW s y.er = some cs) : ∃ g k,y.val = .pointer (some ⟨g,k,none⟩)∧∀ j,j < cs.length→zl g (k + j)∨zb g (k + j)∨∃ t,(G t).fp g (k + j):=by
 have zs : ∀ {m : Md} {b k : Nat},m≠.own→Zf zl zb m b k→zl b k∨zb b k∨∃ t,(G t).fp b k:=fun {m b k} hm hz=>by
  cases m with
  | own=>exact (hm rfl).elim
  | sl=>exact .inl hz
  | af=>exact hz.imp id .inl
 cases y with
 | ptr m g o n f =>
  simp only [C.er,dW] at hc
  injection hc with hc
  refine ⟨g,o,rfl,fun j hj=>?_⟩
  have hj : j < n:=by rw [← hc] at hj; simpa using hj
  obtain ⟨h1,h2,h3,h4⟩:=hy.ok
  by_cases hm : m = .own
  ·exact (hy.cg g (o + j) ⟨hm,.inl ⟨rfl,by omega,by omega⟩⟩).elim
  ·exact zs hm ((h1 j hj).2.1 hm)
 | aA v r p i k0 =>
  obtain ⟨z,hz,hp⟩:=hy.rf
  have mX:=C.eL p hz (h.ok r)
  simp only [C.er,dW,look] at hc
  rw [← h.er,C.eo,hz] at hc
  simp only [Option.map_some] at hc
  rcases hp with ⟨m,sz,g,o,len,cap,e,rfl,rfl⟩ | ⟨m,g,o,n,f,rfl,rfl,rfl⟩
  ·simp only [C.er,C.cm] at hc
   by_cases hi : i < len
   ·rw [if_pos hi] at hc
    simp only [Option.map_some,Option.some.injEq] at hc
    refine ⟨g,o + i * sz + k0,rfl,fun j hj=>?_⟩
    have hj : k0 + j < sz:=by
     rw [← hc] at hj
     rw [← List.map_drop,kF,C.pM r p i ((List.range (sz - k0)).map (· + k0)) k0 (fun j=>e i j) (by simp)] at hj
     simp at hj
     omega
    by_cases hm : m = .own
    ·subst hm
     exact .inr (.inr ⟨r,C.ep p hz (h.ok r) ⟨rfl,.inl ⟨o,rfl⟩⟩⟩)
    ·obtain ⟨g',o',hA,hcell,oq⟩:=mX.2.1 i (k0 + j) hi hj
     injection hA with hA
     injection hA with e1 e2
     injection e2 with e2
     subst e1; subst e2
     rw [Nat.add_assoc]
     exact zs hm (oq hm)
   ·rw [if_neg hi] at hc; cases hc
  ·simp only [C.er,Option.some.injEq] at hc
   refine ⟨g,o + k0,rfl,fun j hj=>?_⟩
   have hj : k0 + j < n:=by
    rw [← hc] at hj
    rw [← List.map_drop,kF,C.pM r p 0 ((List.range (n - k0)).map (· + k0)) k0 f (by simp)] at hj
    simp at hj
    omega
   by_cases hm : m = .own
   ·subst hm
    exact .inr (.inr ⟨r,C.ep p hz (h.ok r) ⟨rfl,.inl ⟨rfl,by omega,by omega⟩⟩⟩)
   ·have:=(mX.1 (k0 + j) hj).2.1 hm
    rw [Nat.add_assoc]
    exact zs hm this
 | _=>simp [C.er,dW] at hc
theorem DE (h : Inv w zl zb G s) (hb : ∀ b k,zb b k→aR b k) (hG : ∀ t b k,(G t).fp b k→aR b k) : ∀ l : List C,(∀ x∈l,cN w zl zb G x∧x.cell)→∃ l' : List C,l'.map C.er = kG s (l.map C.er)∧l'.map C.val = l.map C.val∧∀ x∈l',dM w zl aR x∧x.cell∧x.fits .af
 | [],hl=>⟨[],rfl,rfl,fun _ hx=>(by cases hx)⟩
 | y :: l,hl=>by
  obtain ⟨x,x1,x2,x3,x4,_,x6⟩:=zj h hb hG (hl y (List.mem_cons_self ..)).1
  obtain ⟨l',l1,l2,l3⟩:=DE h hb hG l fun x hx=>hl x (List.mem_cons_of_mem _ hx)
  refine ⟨x :: l',by simp [kG,x1,l1],by simp [x2,l2],fun z hz=>?_⟩
  rcases List.mem_cons.1 hz with rfl | hz
  ·exact ⟨x3,x4 (hl y (List.mem_cons_self ..)).2,x6⟩
  ·exact l3 z hz
theorem H9 (F : List X→List X) (hF : ∀ l : List C,(∀ x∈l,cN w zl zb G x∧x.cell)→∃ l' : List C,l'.map C.er = F (l.map C.er)∧l'.map C.val = l.map C.val∧∀ x∈l',dM w zl aR x∧x.cell∧x.fits .af) (h : Inv w zl zb G s) (hb : ∀ b k,zb b k→aR b k) (hG : ∀ t b k,(G t).fp b k→aR b k) {y : C} (hy : cN w zl zb G y) {cs : List X} (hc : dW s y.er = some cs) (hne : cs≠[]) (n : Nat) (hn : 0 < n) :
  ∃ x : C,x.er = .ptr .af (F (cs.take n))∧x.val = y.val∧dM w zl aR x:=by
 obtain ⟨l,l1,⟨g,k,hv,hcell⟩,l3⟩:=Hy h hy hc
 obtain ⟨g',k',dr,hmem⟩:=SB h hy hc
 rw [hv] at dr
 injection dr with dr; injection dr with dr; injection dr with e1 e2 e3
 subst e1; subst e2
 have tj : l.length = cs.length:=by rw [← l1]; simp
 obtain ⟨l',m1,m2,m3⟩:=hF (l.take n) fun x hx=>l3 x (List.mem_of_mem_take hx)
 have hl' : l'.length = min n l.length:=by
  have:=congrArg List.length m2
  simpa using this
 have hpos : 0 < l.length:=by rw [tj]; exact List.length_pos_iff.2 hne
 refine ⟨.ptr .af g k l'.length fun j=>l'.getD j (.dead undef),?_,hv.symm,⟨⟨fun j hj=>⟨?_,fun _=>?_,fun hm=>by (cases hm)⟩,?_,fun j hj=>⟨(m3 _ (bY hj _)).2.1,(m3 _ (bY hj _)).2.2,(m3 _ (bY hj _)).1.ok⟩,fun j hj b k hh=>((m3 _ (bY hj _)).1.cg b k hh).elim⟩,fun j hj=>(m3 _ (bY hj _)).1.bare,fun b k hh=>by cases hh.1⟩⟩
 ·simp only [C.er,jh]
  rw [m1,List.map_take,l1]
 ·have hj' : j < l.length:=by omega
  have og : (l'.getD j (.dead undef)).val = (l[j]).val:=by
   have:=congrArg (fun t : List Value=>t[j]?) m2
   simp only [List.getElem?_map,List.getElem?_eq_getElem hj,Option.map_some] at this
   rw [List.getElem?_take_of_lt (by omega),List.getElem?_eq_getElem hj'] at this
   rw [lf (List.getElem?_eq_getElem hj)]
   simpa using this
  rw [og]
  exact hcell j hj'
 ·rcases hmem j (by omega) with hz | hz | ⟨t,ht⟩
  ·exact .inl hz
  ·exact .inr (hb _ _ hz)
  ·exact .inr (hG t _ _ ht)
 ·have:=hcell 0 hpos
  rcases Nat.lt_or_ge g w.heap.size with hg | hg
  ·exact hg
  ·simp [World.cell?,Array.getElem?_eq_none hg] at this
theorem Ia (h : Inv w zl zb G s) (hb : ∀ b k,zb b k→aR b k) (hG : ∀ t b k,(G t).fp b k→aR b k) {y : C} (hy : cN w zl zb G y) {cs : List X} (hc : dW s y.er = some cs) (hne : cs≠[]) (n : Nat) (hn : 0 < n) :
  ∃ x : C,x.er = .ptr .af (kG s (cs.take n))∧x.val = y.val∧dM w zl aR x:=H9 (kG s) (DE h hb hG) h hb hG hy hc hne n hn
theorem Up (h : Inv w zl zb G s) (hb : ∀ b k,zb b k→aR b k) (hG : ∀ t b k,(G t).fp b k→aR b k) {y : C} (hy : cN w zl zb G y) (jb : y.cell) : ∃ x : C,x.er = fu s y.er∧x.val = y.val∧dM w zl aR x∧x.cell∧x.fits .af:=by
 have fL : fu s y.er = iM s y.er→∃ x : C,x.er = fu s y.er∧x.val = y.val∧dM w zl aR x∧x.cell∧x.fits .af:=fun e=>by
  obtain ⟨x,x1,x2,x3,x4,_,x6⟩:=zj h hb hG hy
  exact ⟨x,by rw [e,x1],x2,x3,x4 jb,x6⟩
 cases y with
 | aA v r p i k =>
  have dead : fu s (C.aA v r p i k).er = .dead→∃ x : C,x.er = fu s (C.aA v r p i k).er∧x.val = (C.aA v r p i k).val∧dM w zl aR x∧x.cell∧x.fits .af:=fun e=>⟨.dead v,e.symm,rfl,uD v,jb,trivial⟩
  cases hc : dW s (.aA r p i k) with
  | none=>exact dead (by simp only [C.er,fu,hc])
  | some cs =>
   cases cs with
   | nil=>exact dead (by simp only [C.er,fu,hc])
   | cons a cs =>
    obtain ⟨x,x1,x2,x3⟩:=Ia h hb hG hy hc (by simp) (a :: cs).length (by simp)
    rw [List.take_length] at x1
    have he : fu s (C.aA v r p i k).er = .ptr .af (kG s (a :: cs)):=by simp only [C.er,fu,hc]
    rw [he]
    refine ⟨x,x1,x2,x3,?_,?_⟩
    ·cases x <;> first | trivial | (simp [C.er] at x1)
    ·cases x with
     | ptr m g o n f=>simp only [C.er,X.ptr.injEq] at x1; exact .inr (.inl x1.1)
     | _=>simp [C.er] at x1
 | _=>exact fL rfl
theorem H8 (h : Inv w zl zb G s) (hb : ∀ b k,zb b k→aR b k) (hG : ∀ t b k,(G t).fp b k→aR b k) : ∀ l : List C,(∀ x∈l,cN w zl zb G x∧x.cell)→∃ l' : List C,l'.map C.er = iN s (l.map C.er)∧l'.map C.val = l.map C.val∧∀ x∈l',dM w zl aR x∧x.cell∧x.fits .af
 | [],hl=>⟨[],rfl,rfl,fun _ hx=>(by cases hx)⟩
 | y :: l,hl=>by
  obtain ⟨x,x1,x2,x3⟩:=Up h hb hG (hl y (List.mem_cons_self ..)).1 (hl y (List.mem_cons_self ..)).2
  obtain ⟨l',l1,l2,l3⟩:=H8 h hb hG l fun x hx=>hl x (List.mem_cons_of_mem _ hx)
  refine ⟨x :: l',by simp [iN,x1,l1],by simp [x2,l2],fun z hz=>?_⟩
  rcases List.mem_cons.1 hz with rfl | hz
  ·exact x3
  ·exact l3 z hz
end
end M
namespace M
open Go Go.RowKit
variable [Bs]
section
variable {w : World} {zl zb aR : Nat→Nat→Prop} {G : Nat→C} {s : ag}
theorem DC (h : Inv w zl zb G s) (hb : ∀ b k,zb b k→aR b k) (hG : ∀ t b k,(G t).fp b k→aR b k) : ∀ l : List C,(∀ x∈l,cN w zl zb G x)→∃ l' : List C,l'.map C.er = ek s (l.map C.er)∧l'.map C.val = l.map C.val∧∀ x∈l',dM w zl aR x
 | [],hl=>⟨[],rfl,rfl,fun _ hx=>(by cases hx)⟩
 | y :: l,hl=>by
  obtain ⟨l',l1,l2,l3⟩:=DC h hb hG l fun x hx=>hl x (List.mem_cons_of_mem _ hx)
  have hy:=hl y (List.mem_cons_self ..)
  have done : ∀ x : C,x.val = y.val→dM w zl aR x→(ek s ((y :: l).map C.er)) = x.er :: ek s (l.map C.er)→∃ l' : List C,l'.map C.er = ek s ((y :: l).map C.er)∧l'.map C.val = (y :: l).map C.val∧∀ x∈l',dM w zl aR x:=fun x x1 x2 x3 =>
   ⟨x :: l',by rw [x3,List.map_cons,l1],by simp [x1,l2],fun z hz=>(List.mem_cons.1 hz).elim (fun e=>e ▸ x2) (l3 z)⟩
  have fL : (ek s ((y :: l).map C.er)) = iM s y.er :: ek s (l.map C.er)→∃ l' : List C,l'.map C.er = ek s ((y :: l).map C.er)∧l'.map C.val = (y :: l).map C.val∧∀ x∈l',dM w zl aR x:=fun e=>by
   obtain ⟨x,x1,x2,x3,_⟩:=zj h hb hG hy
   exact done x x2 x3 (by rw [e,x1])
  cases y with
  | aA v r p i k =>
   cases hc : dW s (.aA r p i k) with
   | none=>exact done (.dead v) rfl (uD v) (by simp only [List.map_cons,C.er,ek,hc])
   | some cs =>
    cases cs with
    | nil=>exact done (.dead v) rfl (uD v) (by simp only [List.map_cons,C.er,ek,hc])
    | cons a cs =>
     obtain ⟨x,x1,x2,x3⟩:=H9 (iN s) (H8 h hb hG) h hb hG hy hc (by simp) (a :: cs).length (by simp)
     refine done x x2 x3 ?_
     rw [x1,List.take_length]
     simp only [List.map_cons,C.er,ek,hc]
  | _=>exact fL rfl
theorem Ur (h : Inv w zl zb G s) (hb : ∀ b k,zb b k→aR b k) (hG : ∀ t b k,(G t).fp b k→aR b k) {y : C} (hy : cN w zl zb G y) : ∃ x : C,x.er = res s y.er∧x.val = y.val∧dM w zl aR x:=by
 have fL : res s y.er = iM s y.er→∃ x : C,x.er = res s y.er∧x.val = y.val∧dM w zl aR x:=fun e=>by
  obtain ⟨x,x1,x2,x3,_⟩:=zj h hb hG hy
  exact ⟨x,by rw [x1,e],x2,x3⟩
 cases y with
 | agg n f =>
  obtain ⟨l',l1,l2,l3⟩:=DE h hb hG ((List.range n).map f) fun x hx=>by
   obtain ⟨j,hj,rfl⟩:=List.mem_map.1 hx
   have hj' : j < n:=by simpa using hj
   exact ⟨Ez hy hj',(hy.ok.1 j hj').1⟩
  refine ⟨ey l',?_,?_,⟨⟨fun j hj=>⟨(l3 _ (bY hj _)).2.1,(l3 _ (bY hj _)).1.ok⟩,fun j hj b k hf=>((l3 _ (bY hj _)).1.cg b k hf).elim⟩,fun j hj=>(l3 _ (bY hj _)).1.bare,fun b k hf=>?_⟩⟩
  ·rw [pL,l1,List.map_map]; rfl
  ·rw [rZ,l2,List.map_map]; rfl
  ·obtain ⟨x,hx,hf⟩:=(mo _ _ _).1 hf
   exact (l3 x hx).1.cg b k hf
 | fn g n f =>
  obtain ⟨l',l1,l2,l3⟩:=DC h hb hG ((List.range n).map f) fun x hx=>by
   obtain ⟨j,hj,rfl⟩:=List.mem_map.1 hx
   have hj' : j < n:=by simpa using hj
   exact ⟨(hy.ok j hj').1,hy.rf j hj',(hy.ok j hj').2⟩
  refine ⟨.fn g l'.length fun j=>l'.getD j (.dead undef),?_,?_,⟨fun j hj=>⟨(l3 _ (bY hj _)).ok,(l3 _ (bY hj _)).cg⟩,fun j hj=>(l3 _ (bY hj _)).bare,fun b k hf=>hf⟩⟩
  ·show X.fn _ _ = _
   rw [jh l' _ C.er,l1,List.map_map]
   rfl
  ·show Value.func _ _ _ = _
   rw [jh l' _ C.val,l2,List.map_map]
   rfl
 | _=>exact fL rfl
theorem Uq (h : Inv w zl zb G s) (hb : ∀ b k,zb b k→aR b k) (hG : ∀ t b k,(G t).fp b k→aR b k) {y : C} (hy : cN w zl zb G y) (n : Nat) (hn : 0 < n) : ∃ x : C,x.er = rA n s y.er∧x.val = y.val∧dM w zl aR x:=by
 cases hc : dW s y.er with
 | none=>exact ⟨.dead y.val,by simp only [rA,hc,C.er],rfl,uD _⟩
 | some cs =>
  cases cs with
  | nil=>exact ⟨.dead y.val,by simp only [rA,hc,C.er],rfl,uD _⟩
  | cons a cs =>
   obtain ⟨x,x1,x2,x3⟩:=Ia h hb hG hy hc (by simp) n hn
   exact ⟨x,by rw [x1]; simp only [rA,hc],x2,x3⟩
end
section
variable {P : Program} {c : Ctx} {G : Nat→C} {zl : Nat→Nat→Prop} {s : ag} {a : Act} {w : World} {o : Oper} {K : ag→Prop}
def eC : List Operand→List (AV×PM)→Bool
 | [],[]=>true
 | x' :: l',(x,m) :: l=>aE x' x && (match m with | .gm n=>decide (0 < n) | .mut _=>(cJ l).isNone | _=>true) && eC l' l
 | _,_=>false
def MV (a : Act) : List Operand→List (AV×PM)→List C→Prop
 | [],[],[]=>True
 | x' :: l',(_,.mv) :: l,m :: ms=>m.val = a.eval x'∧MV a l' l ms
 | _ :: l',(_,.af) :: l,_ :: ms=>MV a l' l ms
 | _ :: l',(_,.gm _) :: l,_ :: ms=>MV a l' l ms
 | _ :: l',(_,.mut _) :: l,_ :: ms=>MV a l' l ms
 | _,_,_=>False
theorem za : ∀ {l' : List Operand} {l : List (AV×PM)},eC l' l = true→∀ {G : Nat→C} {s : ag},St c G zl s a w →
  ∃ ms G',ms.map C.er = (bn l s).1∧MV a l' l ms∧aW w zl c.zb G ms G' (bn l s).2
 | [],[],_,G,s,h=>⟨[],G,rfl,trivial,aW.nil h.inv⟩
 | x' :: l',(x,pm) :: l,hc,G,s,h=>by
  simp only [eC,Bool.and_eq_true] at hc
  have other : (bn ((x,pm) :: l) s = (.dead :: (bn l s).1,(bn l s).2))→(∀ m ms,MV a l' l ms→MV a (x' :: l') ((x,pm) :: l) (m :: ms))→∃ ms G',ms.map C.er = (bn ((x,pm) :: l) s).1∧MV a (x' :: l') ((x,pm) :: l) ms∧aW w zl c.zb G ms G' (bn ((x,pm) :: l) s).2:=fun e hm=>by
   obtain ⟨ms,G',g1,g2,g3⟩:=za hc.2 h
   rw [e]
   exact ⟨.dead undef :: ms,G',by simp [C.er,g1],hm _ _ g2,aW.cons (dy.self h.inv trivial trivial fun _ _ h=>h) g3⟩
  cases pm with
  | mv =>
   obtain ⟨p,p1,p2,p3⟩:=bA h hc.1.1
   obtain ⟨y,G1,f1,f2,f3,f4⟩:=l9 .mv h.inv p3
   obtain ⟨ms,G',g1,g2,g3⟩:=za hc.2 (h.rQ f4)
   rw [p1] at f1 g1 g3 f4
   exact ⟨y :: ms,G',by simp [bn,f1,g1],⟨by rw [f2,p2],g2⟩,aW.cons f4 g3⟩
  | af=>exact other rfl fun _ _ h=>h
  | gm n=>exact other rfl fun _ _ h=>h
  | «mut» n=>exact other rfl fun _ _ h=>h
 | [],_ :: _,hc,_,_,_=>by cases hc
 | _ :: _,[],hc,_,_,_=>by cases hc
theorem wm {G2 : Nat→C} {s2 : ag} {aR : Nat→Nat→Prop} (h : St c G2 zl s2 a w) (hb : ∀ b k,c.zb b k→aR b k) (hG : ∀ t b k,(G2 t).fp b k→aR b k) {y : C} (hy : y.ok w (Zf zl aR)) (xy : y.bare) : ∀ {l' : List Operand} {l : List (AV×PM)},eC l' l = true→∀ {ms : List C},MV a l' l ms →
  (∀ x∈ms,x.ok w (Zf zl aR)∧x.bare∧∀ b k,x.fp b k→¬ y.fp b k)→(ms.Pairwise fun a b=>∀ x k,a.fp x k→¬ b.fp x k)→(∀ (i : Nat) (x : AV) (n : Nat) (x' : Operand),l[i]? = some (x,PM.mut n)→l'[i]? = some x'→y.val = a.eval x') →
  ∃ cs : List C,cs.map C.er = dV s2 y.er l (ms.map C.er)∧cs.map C.val = l'.map a.eval∧(∀ x∈cs,x.ok w (Zf zl aR)∧x.bare∧∀ b k,x.fp b k→(∃ m∈ms,m.fp b k)∨((cJ l).isSome = true∧y.fp b k))∧cs.Pairwise fun a b=>∀ x k,a.fp x k→¬ b.fp x k
 | [],[],_,[],_,_,_,_=>⟨[],rfl,rfl,fun _ hx=>(by cases hx),List.Pairwise.nil⟩
 | x' :: l',(x,pm) :: l,hc,[],hm,_,_,_=>by cases pm <;> exact hm.elim
 | x' :: l',(x,pm) :: l,hc,m :: ms,hm,BV,fI,ko=>by
  simp only [eC,Bool.and_eq_true] at hc
  have qq:=List.pairwise_cons.1 fI
  have ih:=fun (hm : MV a l' l ms)=>wm h hb hG hy xy hc.2 hm (fun x hx=>BV x (List.mem_cons_of_mem _ hx)) qq.2 (fun i x n x' h1 h2=>ko (i + 1) x n x' (by simpa using h1) (by simpa using h2))
  have Hx : ∀ z : C,z.val = a.eval x'→dM w zl aR z→MV a l' l ms→dV s2 y.er ((x,pm) :: l) ((m :: ms).map C.er) = z.er :: dV s2 y.er l (ms.map C.er)→((cJ l).isSome = true→(cJ ((x,pm) :: l)).isSome = true)→∃ cs : List C,cs.map C.er = dV s2 y.er ((x,pm) :: l) ((m :: ms).map C.er)∧cs.map C.val = (x' :: l').map a.eval ∧
    (∀ z∈cs,z.ok w (Zf zl aR)∧z.bare∧∀ b k,z.fp b k→(∃ m'∈m :: ms,m'.fp b k)∨((cJ ((x,pm) :: l)).isSome = true∧y.fp b k))∧cs.Pairwise fun a b=>∀ x k,a.fp x k→¬ b.fp x k:=fun z z1 z2 hm' he hmo=>by
   obtain ⟨cs,c1,c2,c3,c4⟩:=ih hm'
   refine ⟨z :: cs,by rw [he,List.map_cons,c1],by simp [z1,c2],fun u hu=>?_,List.pairwise_cons.2 ⟨fun u _ b k hf=>(z2.cg b k hf).elim,c4⟩⟩
   rcases List.mem_cons.1 hu with rfl | hu
   ·exact ⟨z2.ok,z2.bare,fun b k hf=>(z2.cg b k hf).elim⟩
   ·obtain ⟨u1,u2,u3⟩:=c3 u hu
    exact ⟨u1,u2,fun b k hf=>(u3 b k hf).imp (fun ⟨m',hm',hf⟩=>⟨m',List.mem_cons_of_mem _ hm',hf⟩) fun hh=>⟨hmo hh.1,hh.2⟩⟩
  obtain ⟨p,p1,p2,p3⟩:=bA h hc.1.1
  cases pm with
  | af =>
   obtain ⟨z,z1,z2,z3⟩:=Ur h.inv hb hG p3
   rw [p1] at z1
   exact Hx z (by rw [z2,p2]) z3 hm (by simp only [List.map_cons,dV,z1]) fun hh=>hh
  | gm n =>
   obtain ⟨z,z1,z2,z3⟩:=Uq h.inv hb hG p3 n (by simpa using hc.1.2)
   rw [p1] at z1
   exact Hx z (by rw [z2,p2]) z3 hm (by simp only [List.map_cons,dV,z1]) fun hh=>hh
  | mv =>
   obtain ⟨hv,hm⟩:=hm
   obtain ⟨cs,c1,c2,c3,c4⟩:=ih hm
   obtain ⟨m1,m2,m3⟩:=BV m (List.mem_cons_self ..)
   refine ⟨m :: cs,by simp only [List.map_cons,dV,c1],by simp [hv,c2],fun u hu=>?_,List.pairwise_cons.2 ⟨fun u hu b k hf hf'=>?_,c4⟩⟩
   ·rcases List.mem_cons.1 hu with rfl | hu
    ·exact ⟨m1,m2,fun b k hf=>.inl ⟨u,List.mem_cons_self ..,hf⟩⟩
    ·obtain ⟨u1,u2,u3⟩:=c3 u hu
     exact ⟨u1,u2,fun b k hf=>(u3 b k hf).imp (fun ⟨m',hm',hf⟩=>⟨m',List.mem_cons_of_mem _ hm',hf⟩) id⟩
   ·rcases (c3 u hu).2.2 b k hf' with ⟨m',hm',eR⟩ | ⟨_,eR⟩
    ·exact qq.1 m' hm' b k hf eR
    ·exact m3 b k hf eR
  | «mut» n =>
   obtain ⟨cs,c1,c2,c3,c4⟩:=ih hm
   have hno : cJ l = none:=by simpa using hc.1.2
   have hv:=ko 0 x n x' rfl rfl
   refine ⟨y :: cs,by simp only [List.map_cons,dV,c1],by simp [hv,c2],fun u hu=>?_,List.pairwise_cons.2 ⟨fun u hu b k hf hf'=>?_,c4⟩⟩
   ·rcases List.mem_cons.1 hu with rfl | hu
    ·exact ⟨hy,xy,fun b k hf=>.inr ⟨rfl,hf⟩⟩
    ·obtain ⟨u1,u2,u3⟩:=c3 u hu
     refine ⟨u1,u2,fun b k hf=>(u3 b k hf).imp (fun ⟨m',hm',hf⟩=>⟨m',List.mem_cons_of_mem _ hm',hf⟩) fun hh=>⟨rfl,hh.2⟩⟩
   ·rcases (c3 u hu).2.2 b k hf' with ⟨m',hm',eR⟩ | ⟨hh,_⟩
    ·exact (BV m' (List.mem_cons_of_mem _ hm')).2.2 b k eR hf
    ·rw [hno] at hh; cases hh
 | [],_ :: _,hc,_,_,_,_,_=>by cases hc
 | _ :: _,[],hc,_,_,_,_,_=>by cases hc
 | [],[],_,_ :: _,hm,_,_,_=>hm.elim
theorem ME {G2 : Nat→C} {s2 : ag} {aR : Nat→Nat→Prop} (h : St c G2 zl s2 a w) (hb : ∀ b k,c.zb b k→aR b k) (hG : ∀ t b k,(G2 t).fp b k→aR b k) {x : AV} {x' : Operand} (hx : aE x' x = true) {f : FuncId} {cs : List X} (he : ai s2 x = .fn f cs) :
  ∃ l : List C,l.map C.er = j0 s2 (some x)∧a.eval x' = .func (.func f) #[] (l.map C.val).toArray∧∀ x∈l,dM w zl aR x:=by
 obtain ⟨p,p1,p2,p3⟩:=bA h hx
 rw [he] at p1
 cases p with
 | fn g n fc =>
  simp only [C.er,X.fn.injEq] at p1
  obtain ⟨rfl,p1⟩:=p1
  obtain ⟨l',l1,l2,l3⟩:=DC h.inv hb hG ((List.range n).map fc) fun x hx=>by
   obtain ⟨j,hj,rfl⟩:=List.mem_map.1 hx
   have hj' : j < n:=by simpa using hj
   exact ⟨(p3.ok j hj').1,p3.rf j hj',(p3.ok j hj').2⟩
  refine ⟨l',?_,?_,l3⟩
  ·rw [l1,j0,he,← p1,List.map_map]
   rfl
  ·rw [← p2,l2,List.map_map]
   rfl
 | _=>simp [C.er] at p1
end
end M
namespace M
open Go Go.RowKit
variable [Bs]
theorem gp {l : List X} : X.clean.bK l = true↔∀ x∈l,x.clean = true:=by
 induction l with
 | nil=>simp [X.clean.bK]
 | cons a l ih=>simp [X.clean.bK,ih]
theorem Fm {l : List (List X)} : X.clean.aS l = true↔∀ x∈l,∀ y∈x,y.clean = true:=by
 induction l with
 | nil=>simp [X.clean.aS]
 | cons a l ih=>simp [X.clean.aS,ih,gp]
namespace C
def cM : C→C
 | .row _ sz A len cap e=>.row .sl sz A len cap fun i j=>(e i j).cM
 | .ptr _ g o n c=>.ptr .sl g o n fun j=>(c j).cM
 | .agg n c=>.agg n fun j=>(c j).cM
 | .ak n c=>.ak n fun j=>(c j).cM
 | .fn f n c=>.fn f n fun j=>(c j).cM
 | .ref v _ _=>.dead v
 | .aA v _ _ _ _=>.dead v
 | .cut v _ _ _ _=>.dead v
 | .dead v=>.dead v
 | .int k n=>.int k n
 | .bool b=>.bool b
 | .str s=>.str s
theorem qY : ∀ c : C,c.cM.er = c.er.md .sl
 | .row m sz A len cap e=>by
  simp only [cM,er,X.md]
  rw [X.yZ .sl (fun _=>List.range sz) (fun i j=>(e i j).er)]
  congr 1
  exact List.map_congr_left fun i _=>List.map_congr_left fun j _=>qY (e i j)
 | .ptr m g o n c=>by simp only [cM,er,X.md,X.jL]; congr 1; exact List.map_congr_left fun j _=>qY (c j)
 | .agg n c=>by simp only [cM,er,X.md,X.jL]; congr 1; exact List.map_congr_left fun j _=>qY (c j)
 | .ak n c=>by simp only [cM,er,X.md,X.jL]; congr 1; exact List.map_congr_left fun j _=>qY (c j)
 | .fn f n c=>by simp only [cM,er,X.md,X.jL]; congr 1; exact List.map_congr_left fun j _=>qY (c j)
 | .ref _ _ _=>by simp only [cM,er,X.md]
 | .aA _ _ _ _ _=>by simp only [cM,er,X.md]
 | .cut _ _ _ _ _=>by simp only [cM,er,X.md]
 | .dead _=>by simp only [cM,er,X.md]
 | .int _ _=>by simp only [cM,er,X.md]
 | .bool _=>by simp only [cM,er,X.md]
 | .str _=>by simp only [cM,er,X.md]
theorem q6 : ∀ c : C,c.cM.val = c.val
 | .row m sz A len cap e=>rfl
 | .ptr m g o n c=>rfl
 | .agg n c=>by simp only [cM,val]; congr 2; exact List.map_congr_left fun j _=>q6 (c j)
 | .ak n c=>by simp only [cM,val]; congr 2; exact List.map_congr_left fun j _=>q6 (c j)
 | .fn f n c=>by simp only [cM,val]; congr 2; exact List.map_congr_left fun j _=>q6 (c j)
 | .ref _ _ _=>rfl
 | .aA _ _ _ _ _=>rfl
 | .cut _ _ _ _ _=>rfl
 | .dead _=>rfl
 | .int _ _=>rfl
 | .bool _=>rfl
 | .str _=>rfl
theorem nu : ∀ (c : C) (b k : Nat),¬ c.cM.fp b k
 | .row m sz A len cap e,b,k=>fun h=>by cases h.1
 | .ptr m g o n c,b,k=>fun h=>by cases h.1
 | .agg n c,b,k=>fun ⟨j,_,hf⟩=>nu (c j) b k hf
 | .ak n c,b,k=>fun ⟨j,_,hf⟩=>nu (c j) b k hf
 | .fn f n c,b,k=>fun h=>h
 | .ref _ _ _,b,k=>fun h=>h
 | .aA _ _ _ _ _,b,k=>fun h=>h
 | .cut _ _ _ _ _,b,k=>fun h=>h
 | .dead _,b,k=>fun h=>h
 | .int _ _,b,k=>fun h=>h
 | .bool _,b,k=>fun h=>h
 | .str _,b,k=>fun h=>h
theorem Dg {c : C} (h : c.cell) : c.cM.cell:=by
 cases c <;> first | exact h | exact h.elim | trivial
theorem SO {c : C} (h : c.dJ) : c.cM.dJ:=by
 cases c <;> first | exact h | exact h.elim | trivial
theorem SQ {c : C} (h : c.bU) : c.cM.bU:=by
 cases c <;> first | exact h | exact h.elim | trivial
theorem HE (c : C) : c.cM.fits .sl:=by
 cases c <;> first | trivial | exact .inr (.inl rfl)
theorem SP {c : C} (h : c.plain) : c.cM.plain:=by cases c <;> first | exact h | exact h.elim | trivial
variable {w : World} {zl az zb : Nat→Nat→Prop}
theorem qZ (hz : ∀ b k,zl b k→az b k) : ∀ c : C,c.er.clean = true→(∀ b k,c.fp b k→az b k)→c.ok w (Zf zl zb)→c.cM.ok w (Zf az zb)
 | .row m sz A len cap e,hcl,hf,h=>by
  obtain ⟨h1,h2,h3,h4,h5⟩:=h
  simp only [er,X.clean,Bool.and_eq_true] at hcl
  refine ⟨h1,fun i j hi hj=>?_,fun i j hi hj=>?_,fun hm=>by (cases hm),fun i j hi hj b k hh=>(nu _ b k hh).elim⟩
  ·obtain ⟨g,o,hA,hc,oq⟩:=h2 i j hi hj
   refine ⟨g,o,hA,by rw [q6]; exact hc,fun _=>?_⟩
   cases m with
   | own=>exact hf _ _ ⟨rfl,.inl ⟨o,hA⟩⟩
   | sl=>exact hz _ _ (oq (by simp))
   | af=>simp at hcl
  ·obtain ⟨a1,a2,a3,a4⟩:=h3 i j hi hj
   exact ⟨Dg a1,SQ a2,HE _,qZ hz (e i j) (Fm.1 hcl.2 _ (List.mem_map.2 ⟨i,by simpa using hi,rfl⟩) _ (List.mem_map.2 ⟨j,by simpa using hj,rfl⟩)) (fun b k hk=>hf b k (gD a1 a3 hi hj hk)) a4⟩
 | .ptr m g o n c,hcl,hf,h=>by
  obtain ⟨h1,h2,h3,h4⟩:=h
  simp only [er,X.clean,Bool.and_eq_true] at hcl
  refine ⟨fun j hj=>?_,h2,fun j hj=>?_,fun j hj b k hh=>(nu _ b k hh).elim⟩
  ·obtain ⟨a1,a2,a3⟩:=h1 j hj
   refine ⟨by rw [q6]; exact a1,fun _=>?_,fun hm=>by (cases hm)⟩
   cases m with
   | own=>exact hf _ _ ⟨rfl,.inl ⟨rfl,by omega,by omega⟩⟩
   | sl=>exact hz _ _ (a2 (by simp))
   | af=>simp at hcl
  ·obtain ⟨a1,a2,a3⟩:=h3 j hj
   exact ⟨Dg a1,HE _,qZ hz (c j) (gp.1 hcl.2 _ (List.mem_map.2 ⟨j,by simpa using hj,rfl⟩)) (fun b k hk=>hf b k (gX a1 a2 hj hk)) a3⟩
 | .agg n c,hcl,hf,h=>by
  simp only [er,X.clean] at hcl
  exact ⟨fun j hj=>⟨Dg (h.1 j hj).1,qZ hz (c j) (gp.1 hcl _ (List.mem_map.2 ⟨j,by simpa using hj,rfl⟩)) (fun b k hk=>hf b k ⟨j,hj,hk⟩) (h.1 j hj).2⟩,fun j hj b k hh=>(nu _ b k hh).elim⟩
 | .ak n c,hcl,hf,h=>by
  simp only [er,X.clean] at hcl
  exact ⟨fun j hj=>⟨SO (h.1 j hj).1,qZ hz (c j) (gp.1 hcl _ (List.mem_map.2 ⟨j,by simpa using hj,rfl⟩)) (fun b k hk=>hf b k ⟨j,hj,hk⟩) (h.1 j hj).2⟩,fun j hj b k hh=>(nu _ b k hh).elim⟩
 | .fn f n c,hcl,hf,h=>by
  simp only [er,X.clean] at hcl
  exact fun j hj=>⟨qZ hz (c j) (gp.1 hcl _ (List.mem_map.2 ⟨j,by simpa using hj,rfl⟩)) (fun b k hk=>((h j hj).2 b k hk).elim) (h j hj).1,fun b k hh=>nu _ b k hh⟩
 | .ref _ _ _,_,_,_=>trivial
 | .aA _ _ _ _ _,_,_,_=>trivial
 | .cut _ _ _ _ _,_,_,_=>trivial
 | .dead _,_,_,_=>trivial
 | .int _ _,_,_,_=>trivial
 | .bool _,_,_,_=>trivial
 | .str _,_,_,h=>h
end C
variable {w : World} {zl zb : Nat→Nat→Prop} {G : Nat→C} {s : ag}
theorem Inv.more {az : Nat→Nat→Prop} (h : Inv w zl zb G s) (h1 : ∀ b k,zl b k→az b k) (h2 : ∀ b k,az b k→(zl b k∨∀ t,¬ (G t).fp b k)∧b < w.heap.size) : Inv w az zb G s where
 er:=h.er
 ok:=fun t=>C.ei (fun m b k hz=>by
  cases m with
  | own=>exact hz
  | sl=>exact h1 b k hz
  | af=>exact hz.imp (h1 b k) id) _ (h.ok t)
 sep:=h.sep
 fz:=fun t b k hf=>⟨fun hz=>by
  rcases (h2 b k hz).1 with hh | hh
  ·exact (h.fz t b k hf).1 hh
  ·exact hh t hf,(h.fz t b k hf).2⟩
 rf:=h.rf
 bJ:=fun b k hz=>hz.elim (fun hz=>(h2 b k hz).2) fun hz=>h.bJ b k (.inr hz)
section
variable {P : Program} {c : Ctx} {a : Act} {o : Oper} {K : ag→Prop}
theorem St.more {az : Nat→Nat→Prop} (h : St c G zl s a w) (h1 : ∀ b k,zl b k→az b k) (h2 : ∀ b k,az b k→(zl b k∨∀ t,¬ (G t).fp b k)∧b < w.heap.size) (h3 : ∀ b k,az b k→zl b k∨c.F0 b k∨c.w0.heap.size≤b) : St c G az s a w where
 inv:=h.inv.more h1 h2
 val:=h.val
 size:=h.size
 small:=h.small
 defers:=h.defers
 tr:=⟨h.tr.ext,h.tr.dom,fun b k hz=>h1 b k (h.tr.kO b k hz),fun b k hz=>(h3 b k hz).elim (h.tr.zl b k) .inr,h.tr.gl,h.tr.sU⟩
 args:=h.args
theorem H6 {d : Nat} {v : Value} (hd : a.tmps.getD d undef = v) (hn : d < a.tmps.size) : a.put (some d) v = a:=by
 unfold Act.put
 simp only
 congr 1
 apply Array.ext_getElem?
 intro i
 by_cases e : d = i
 ·subst e
  rw [Array.getElem?_setIfInBounds_self_of_lt hn,← hd,Array.getD_eq_getD_getElem?,Array.getElem?_eq_getElem hn]
  rfl
 ·rw [Array.getElem?_setIfInBounds_ne e]
theorem Gg {d : Nat} {s' : ag} (h : St c G zl s a w) (hn : d < c.nt) (cs : List C) (hcs : ∀ x∈cs,rX w zl c.zb G x) (k : List C→C) (kx : List X→X) (hk : ∀ l : List C,l.length = cs.length→(k l).er = kx (l.map C.er))
  (hkv : ∀ l : List C,l.map C.val = cs.map C.val→(k l).val = a.tmps.getD d undef) (xh : ∀ {az : Nat→Nat→Prop},∀ l : List C,l.length = cs.length→(∀ x∈l,x.plain∧x.ok w (Zf az c.zb)∧∀ b k,¬ x.fp b k)→(k l).ok w (Zf az c.zb)∧(∀ b q,¬ (k l).fp b q)∧∀ G,(k l).rf G)
  (hg : wW d (cs.map C.er) kx s = some s') : ∃ G' az,St c G' az s' a w:=by
 obtain ⟨l,G1,e1,e2,e3,e4,e5⟩:=vG cs G s h.inv hcs
 unfold wW at hg
 rw [← e1] at hg
 cases hcl : X.clean.bK (l.map C.er) with
 | false=>rw [hcl] at hg; cases hg
 | true =>
  rw [hcl,cond_true] at hg
  have hlen : l.length = cs.length:=by have:=congrArg List.length e2; simpa using this
  let az : Nat→Nat→Prop:=fun b k=>zl b k∨∃ y∈l,y.fp b k
  have h1 : St c G1 zl (bp (cs.map C.er) s).2 a w:=h.move e4.inv e4.val (Ext.refl (fun _ _=>False) w) (fun _ _ hs=>hs.elim) (fun t b k hf=>.inl ⟨t,e4.mono t b k hf⟩)
  have h2 : St c G1 az (bp (cs.map C.er) s).2 a w:=h1.more (fun b k hz=>.inl hz) (fun b k hz=>by
   rcases hz with hz | ⟨y,hy,hf⟩
   ·exact ⟨.inl hz,h1.inv.bJ b k (.inl hz)⟩
   ·exact ⟨.inr fun t=>(e4.all y hy).2.1 t b k hf,C.dA _ (e4.all y hy).1 b k hf⟩) (fun b k hz=>by
   rcases hz with hz | ⟨y,hy,hf⟩
   ·exact .inl hz
   ·obtain ⟨t,ht⟩:=(e4.all y hy).2.2.2 b k hf
    exact .inr (h.tr.dom t b k ht))
  let m:=l.map C.cM
  have hml : m.length = cs.length:=by simp [m,hlen]
  have RD : m.map C.er = X.cO .sl (l.map C.er):=by
   rw [X.jL]
   simp only [m,List.map_map]
   exact List.map_congr_left fun x _=>C.qY x
  have GS : m.map C.val = cs.map C.val:=by
   rw [← e2]
   simp only [m,List.map_map]
   exact List.map_congr_left fun x _=>C.q6 x
  have hmem : ∀ x∈m,x.plain∧x.ok w (Zf az c.zb)∧∀ b k,¬ x.fp b k:=fun x hx=>by
   obtain ⟨y,hy,rfl⟩:=List.mem_map.1 hx
   exact ⟨C.SP (e3 y hy),C.qZ (fun b k hz=>.inl hz) y (gp.1 hcl _ (List.mem_map_of_mem hy)) (fun b k hf=>.inr ⟨y,hy,hf⟩) (e4.all y hy).1,C.nu y⟩
  rw [← RD] at hg
  cases hb : fD (cs.map C.er) (m.map C.er) (bp (cs.map C.er) s).2 with
  | none=>rw [hb] at hg; cases hg
  | some s3 =>
   rw [hb] at hg
   simp only [Option.map_some,Option.some.injEq] at hg
   subst hg
   obtain ⟨G2,g1,g2,g3⟩:=wo cs m h2.inv hml (fun v r p hm=>e5 v r p ((hcs _ hm).weak v r p rfl)) (fun i x y hx hy=>by
    have hy':=hmem y (List.mem_of_getElem? hy)
    refine ⟨hy'.1,?_,hy'.2.1⟩
    have:=congrArg (fun t : List Value=>t[i]?) GS
    simpa [List.getElem?_map,hx,hy] using this) (fun y hy=>⟨fun t b k hf=>((hmem y hy).2.2 b k hf).elim,fun b k hf=>((hmem y hy).2.2 b k hf).elim⟩) (mq fun x hx=>(hmem x hx).2.2) hb
   have h3 : St c G2 az s3 a w:=h2.move g1 g2 (Ext.refl (fun _ _=>False) w) (fun _ _ hs=>hs.elim) (fun t b k hf=>by
    rcases g3 t b k hf with hh | ⟨y,hy,hh⟩
    ·exact .inl ⟨t,hh⟩
    ·exact ((hmem y hy).2.2 b k hh).elim)
   obtain ⟨o1,o2,o3⟩:=xh m hml hmem
   obtain ⟨G3,h4⟩:=h3.put hn o1 (fun t _ b k hf=>(o2 b k hf).elim) (fun b k hf=>(o2 b k hf).elim) (o3 G2) (fun b k hf=>(o2 b k hf).elim)
   rw [hk m hml,H6 (hkv m GS).symm (by rw [h.size]; exact hn)] at h4
   exact ⟨G3,az,h4⟩
theorem QC {fz : Bool} {d : Nat} {s' : ag} (h : St c G zl s a w) (hn : d < c.nt) (hg : ghost fz d s = some s') : ∃ G' az,St c G' az s' a w:=by
 obtain ⟨e1,e2,e3⟩:=HQ h d
 have hd : d < base:=Nat.lt_of_lt_of_le hn h.small
 have hval : a.tmps.getD d undef = (G d).val:=(h.val d hd).symm
 unfold ghost at hg
 cases fz with
 | false =>
  obtain ⟨y,G1,f1,f2,f3,f4⟩:=l9 .mv h.inv e3
  rw [e1] at f1 f4
  have ku : y.val = a.tmps.getD d undef:=by rw [f2,e2,hval]
  simp only [cond_false,Option.some.injEq] at hg
  subst hg
  obtain ⟨G2,h2⟩:=h.Eg f4 hn
  rw [f1,H6 ku.symm (by rw [h.size]; exact hn)] at h2
  exact ⟨G2,zl,h2⟩
 | true =>
  simp only [cond_true] at hg
  rw [← e1] at hg
  cases hx : (G d).alias d [] with
  | agg n f =>
   rw [hx] at hg e2 e3
   have er : (C.agg n f).er = .agg (((List.range n).map f).map C.er):=by simp only [C.er,List.map_map]; rfl
   rw [er] at hg
   have hlen : ((List.range n).map f).length = n:=by simp
   refine Gg h hn ((List.range n).map f) (fun x hx=>?_) ey .agg (fun l _=>pL l) (fun l hl=>?_) (fun l hl hm=>⟨⟨fun j hj=>⟨C.iL (hm _ (bY hj _)).1,(hm _ (bY hj _)).2.1⟩,fun j hj b q hf=>((hm _ (bY hj _)).2.2 b q hf).elim⟩,fun b q hf=>?_,fun G j hj=>C.kD (hm _ (bY hj _)).1 G⟩) hg
   ·obtain ⟨j,hj,rfl⟩:=List.mem_map.1 hx
    have hj' : j < n:=by simpa using hj
    exact ⟨(e3.ok.1 j hj').1,(e3.ok.1 j hj').2,fun b k hf=>e3.cg b k ⟨j,hj',hf⟩,fun v r p e=>vJ (by rw [← e]; exact e3.rf j hj')⟩
   ·rw [rZ,hl,hval,← e2]
    simp only [C.val,List.map_map]
    rfl
   ·obtain ⟨x,hx,hf⟩:=(mo _ _ _).1 hf
    exact (hm x hx).2.2 b q hf
  | ref v r p =>
   rw [hx] at hg e2 e3
   refine Gg h hn [.ref v r p] (fun x hx=>?_) (fun l=>l.headD (.dead undef)) (fun l=>l.headD .dead) (fun l hl=>?_) (fun l hl=>?_) (fun l hl hm=>?_) hg
   ·obtain rfl:=List.mem_singleton.1 hx
    exact ⟨DF e3.rf,trivial,fun b k hf=>hf,fun v' r' p' e=>by cases e; exact vJ e3.rf⟩
   ·cases l with
    | nil=>simp at hl
    | cons x l=>rfl
   ·cases l with
    | nil=>simp at hl
    | cons x l =>
     have : x.val = v:=by have:=congrArg List.head? hl; simpa [C.val] using this
     show x.val = _
     rw [this,hval,← e2]
     rfl
   ·cases l with
    | nil=>simp at hl
    | cons x l =>
     obtain ⟨a1,a2,a3⟩:=hm x (List.mem_cons_self ..)
     exact ⟨a2,a3,fun G=>C.kD a1 G⟩
  | _ =>
   rw [hx] at hg
   simp only [C.er,Option.some.injEq] at hg
   subst hg
   exact ⟨G,zl,h⟩
theorem TO (h : St c G zl s a w) {d sz : Nat} {fz agg : Bool} {ty : TypeId} {x : AV} {x' : Operand} (ho : o.op = .load ty x') (hsz : ∃ i,P.info? ty = some i∧i.size = sz) (jA : ∃ dd,P.underlying ty = some dd∧(match dd with | .struct _=>true | .array _ _=>true | _=>false) = agg)
  (h1 : agg = true∨sz = 1) (hd : o.dst = some d) (hn : d < c.nt) (hx : aE x' x = true)
  (hK : aH P (.oE d fz sz agg x) s K) : cE P c o a w K:=by
 obtain ⟨cs,k1,k2,s',k3,k4⟩:=hK
 obtain ⟨v,hr,G1,nI,s1,q1,q2⟩:=HO (K:=fun t=>t = put d (bif agg then .agg (cs.take sz) else cs.headD .dead) s) h ho hsz jA h1 hd hn hx ⟨cs,k1,k2,rfl⟩
 subst q1
 obtain ⟨G2,nJ,h2⟩:=QC q2 hn k3
 exact ⟨v,hr,G2,nJ,s',k4,h2⟩
end
end M
namespace M
open Go Go.RowKit
variable [Bs]
section
variable {P : Program} {c : Ctx} {G : Nat→C} {zl : Nat→Nat→Prop} {s : ag} {a : Act} {w : World} {o : Oper} {K : ag→Prop}
def me (P : Program) (c : Ctx) (o : Oper) (a : Act) (w : World) (K : ag→Prop) (q : Bool) : Prop :=
 ∃ f args,(execOp a.eval o).run P w = .ok (.enter f args) w∧Calls P f args w fun e w'=>∃ v,e = .returned v∧Rel q w w'∧∃ G' az s',K s'∧St c G' az s' (a.put o.dst v) w'
theorem DJ {f : FuncId} {fn : Func} (hf : P.funcs[f]? = some fn) (hname : (fn.name == "runtime.NumGoroutine") = false) (hb : fn.body.isNone = false) (args : Array Value) (w : World) : (callFunc f args).run P w = .ok (.enter f args) w:=by
 simp only [callFunc,Sem.run_bind,run_program,Result.andThen_ok,hf,hname,hb,Bool.false_eq_true,if_false,Sem.run_pure]
theorem St.result {az : Nat→Nat→Prop} (h : St c G az s a w) {x : C} (d : Option Nat) (hn : ∀ n,d = some n→n < c.nt) (hok : x.ok w (Zf az fun _ _=>False)) (hb : x.bare) (hsep : ∀ t b k,x.fp b k→¬ (G t).fp b k) (hfz : ∀ b k,x.fp b k→¬ az b k∧¬ c.zb b k)
  (qk : ∀ b k,x.fp b k→c.F0 b k∨c.w0.heap.size≤b) : ∃ G',St c G' az (dL d x.er s) (a.put d x.val) w:=by
 cases d with
 | none=>exact ⟨G,h⟩
 | some n =>
  refine h.put (hn n rfl) (C.ei (fun m b k hz=>?_) _ hok) (fun t _=>hsep t) hfz (C.mB G _ hb) qk
  cases m with
  | own=>exact hz
  | sl=>exact hz
  | af=>exact hz.imp id fun h=>h.elim
theorem St.after {az : Nat→Nat→Prop} {w' : World} {G1 : Nat→C} {s1 : ag} {S : Nat→Nat→Prop} (h : St c G zl s a w) (hi : Inv w' az c.zb G1 s1) (hv : ∀ t,(G1 t).val = (G t).val) (hE : Ext S w w') (hS : ∀ b k,S b k→∃ t,(G t).fp b k)
  (hd : ∀ t b k,(G1 t).fp b k→(∃ u,(G u).fp b k)∨w.heap.size≤b) (hz1 : ∀ b k,zl b k→az b k) (hz2 : ∀ b k,az b k→zl b k∨(∃ t,(G t).fp b k)∨w.heap.size≤b) : St c G1 az s1 a w' where
 inv:=hi
 val:=fun t ht=>(hv t).trans (h.val t ht)
 size:=h.size
 small:=h.small
 defers:=h.defers
 tr:=⟨h.tr.ext.trans hE (fun b k hs hb=>by
   obtain ⟨t,ht⟩:=hS b k hs
   rcases h.tr.dom t b k ht with hh | hh
   ·exact hh
   ·omega),fun t b k hf=>by
   rcases hd t b k hf with ⟨u,hu⟩ | hb
   ·exact h.tr.dom u b k hu
   ·exact .inr (Nat.le_trans h.tr.ext.size hb),fun b k hz=>hz1 b k (h.tr.kO b k hz),fun b k hz=>by
   rcases hz2 b k hz with hz | ⟨t,ht⟩ | hb
   ·exact h.tr.zl b k hz
   ·exact .inr (h.tr.dom t b k ht)
   ·exact .inr (.inr (Nat.le_trans h.tr.ext.size hb)),h.tr.gl,h.tr.sU⟩
 args:=fun i v hi=>(hv _).trans (h.args i v hi)
theorem St.Bw (h : St c G zl s a w) (aR : Nat→Nat→Prop) (hz : ∀ b k,c.zb b k→aR b k) : kQ w zl aR:=fun b hb=>by
 obtain ⟨h1,h2⟩:=h.tr.gl b hb
 refine ⟨?_,fun k=>(h2 k).imp (h.tr.kO b k) (hz b k)⟩
 rw [← h1]
 have hlt : b < c.w0.heap.size:=by
  rcases Nat.lt_or_ge b c.w0.heap.size with h | h
  ·exact h
  ·rw [Array.getElem?_eq_none h] at h1
   have:=Array.getElem?_eq_none_iff.1 h1.symm
   omega
 rcases h.tr.ext.block b hlt with e | ⟨arr,dN,t,fz,e1,e2,e3,e4⟩
 ·exact e
 ·have : dN = arr:=by
   apply Array.ext_getElem?
   intro i
   exact e4 i (h.tr.sU b i hb)
  rw [e1,e2,this]
theorem Ac {G1 : Nat→C} {s1 : ag} {l : List C} (h : St c G zl s a w) (hT : aW w zl c.zb G l G1 s1) : St c G1 zl s1 a w :=
 h.move hT.inv hT.val (Ext.refl (fun _ _=>False) w) (fun _ _ hs=>hs.elim) (fun t b k hf=>.inl ⟨t,hT.mono t b k hf⟩)
structure nK (P : Program) (c : Ctx) (zl : Nat→Nat→Prop) (o : Oper) (a : Act) (w : World) (l' : List Operand) (f : FuncId) (fv : Option AV) : Prop where
 run : ∃ kW : List Value,(execOp a.eval o).run P w = .ok (.enter f ((l'.map a.eval) ++ kW).toArray) w ∧
  ∀ {G2 : Nat→C} {s2 : ag} {aR : Nat→Nat→Prop},St c G2 zl s2 a w→(∀ b k,c.zb b k→aR b k)→(∀ t b k,(G2 t).fp b k→aR b k)→mD s2 fv f→∃ l : List C,l.map C.er = j0 s2 fv∧l.map C.val = kW∧∀ x∈l,dM w zl aR x
def fM : List (AV×PM)→Bool
 | []=>true
 | (_,.af) :: l=>fM l
 | (_,.gm _) :: l=>fM l
 | _ :: _=>false
theorem Dj : ∀ {l : List (AV×PM)} (s : ag),fM l = true→∀ x∈(bn l s).1,x = .dead
 | [],s,_,x,hx=>by cases hx
 | (_,.af) :: l,s,h,x,hx=>(List.mem_cons.1 hx).elim id (Dj (l:=l) s h x)
 | (_,.gm _) :: l,s,h,x,hx=>(List.mem_cons.1 hx).elim id (Dj (l:=l) s h x)
 | (_,.mv) :: l,s,h,x,hx=>by cases h
 | (_,.mut _) :: l,s,h,x,hx=>by cases h
theorem q8 : ∀ {l : List (AV×PM)},fM l = true→cJ l = none
 | [],_=>rfl
 | (_,.af) :: l,h=>q8 (l:=l) h
 | (_,.gm _) :: l,h=>q8 (l:=l) h
 | (_,.mv) :: l,h=>by cases h
 | (_,.mut _) :: l,h=>by cases h
theorem Fc (q : Bool) (h : St c G zl s a w) {l' : List Operand} {as : List (AV×PM)} (hc : eC l' as = true) (hno : cJ as = none) {f : FuncId} {fv : Option AV} (hop : nK P c zl o a w l' f fv) (hq : q = true→fM as = true) (hn : ∀ n,o.dst = some n→n < c.nt) (hK : nU P f o.dst as fv s K) : me P c o a w K q:=by
 obtain ⟨k1,k2⟩:=hK
 rw [hno] at k2
 obtain ⟨k2,k3⟩:=k2
 obtain ⟨ms,G1,g1,g2,hT⟩:=za hc h
 obtain ⟨kW,hrun,sZ⟩:=hop.run
 have h1:=Ac h hT
 rw [← g1] at k1 k3
 have fY : ∀ b k,c.zb b k→(c.zb b k∨∃ t,(G1 t).fp b k):=fun b k hz=>.inl hz
 have mW : ∀ t b k,(G1 t).fp b k→(c.zb b k∨∃ t,(G1 t).fp b k):=fun t b k hf=>.inr ⟨t,hf⟩
 obtain ⟨l,l1,l2,l3⟩:=sZ (aR:=fun b k=>c.zb b k∨∃ t,(G1 t).fp b k) h1 fY mW k2
 have RE : ∀ x∈ms,x.ok w (Zf zl fun b k=>c.zb b k∨∃ t,(G1 t).fp b k)∧x.bare∧∀ b k,x.fp b k→¬ (C.dead undef).fp b k:=fun x hx=>by
  refine ⟨C.ei (fun m b k hz=>?_) _ (hT.all x hx).1,(C.iR x).1 (C.pQ.1 k1 _ (List.mem_map_of_mem hx)),fun _ _ _ h=>h⟩
  cases m with
  | own=>exact hz
  | sl=>exact hz
  | af=>exact hz.imp id .inl
 obtain ⟨cs,c1,c2,c3,c4⟩:=wm (aR:=fun b k=>c.zb b k∨∃ t,(G1 t).fp b k) h1 fY mW (y:=.dead undef) trivial trivial hc g2 RE hT.apart (fun i x n x' hi _=>by
  exfalso
  have : ∀ {l : List (AV×PM)} {i : Nat},l[i]? = some (x,PM.mut n)→cJ l≠none:=by
   intro l
   induction l with
   | nil=>intro i hi; simp at hi
   | cons p l ih =>
    intro i hi
    obtain ⟨y,pm⟩:=p
    cases i with
    | zero =>
     simp only [List.getElem?_cons_zero,Option.some.injEq,Prod.mk.injEq] at hi
     obtain ⟨_,rfl⟩:=hi
     simp [cJ]
    | succ i =>
     have:=ih (by simpa using hi)
     cases pm <;> simp [cJ] <;> first | exact this | skip
  exact this hi hno)
 have bq : ∀ x∈cs ++ l,∀ b k,x.fp b k→∃ m∈ms,m.fp b k:=fun x hx b k hf=>by
  rcases List.mem_append.1 hx with hx | hx
  ·rcases (c3 x hx).2.2 b k hf with hh | hh
   ·exact hh
   ·exact hh.2.elim
  ·exact ((l3 x hx).cg b k hf).elim
 have hA : js w zl (fun b k=>c.zb b k∨∃ t,(G1 t).fp b k) (cs ++ l):={
  ok:=fun x hx=>(List.mem_append.1 hx).elim (fun hx=>(c3 x hx).1) fun hx=>(l3 x hx).ok
  bare:=fun x hx=>(List.mem_append.1 hx).elim (fun hx=>(c3 x hx).2.1) fun hx=>(l3 x hx).bare
  fz:=fun x hx b k hf=>by
   obtain ⟨m,hm,hf⟩:=bq x hx b k hf
   exact ⟨((hT.all m hm).2.2.1 b k hf).1,fun hz=>hz.elim ((hT.all m hm).2.2.1 b k hf).2 fun ⟨t,ht⟩=>(hT.all m hm).2.1 t b k hf ht⟩
  bJ:=fun b k hz=>by
   rcases hz with hz | hz | ⟨t,ht⟩
   ·exact hT.inv.bJ b k (.inl hz)
   ·exact hT.inv.bJ b k (.inr hz)
   ·exact C.dA _ (hT.inv.ok t) b k ht
  apart:=List.pairwise_append.2 ⟨c4,mq fun x hx=>(l3 x hx).cg,fun x _ y hy b k _ hf=>(l3 y hy).cg b k hf⟩ }
 have mP:=k3 w zl _ (cs ++ l) (by rw [List.map_append,c1,l1]; rfl) hA (h.Bw _ fun b k hz=>.inl hz)
 have oo : (cs ++ l).map C.val = l'.map a.eval ++ kW:=by rw [List.map_append,c2,l2]
 rw [oo] at mP
 refine ⟨f,_,hrun,mP.mono ?_⟩
 rintro e w' ⟨r,ps,az,hD,hk⟩
 have hin : ∀ b k,az b k→b < w'.heap.size:=fun b k hz=>hD.all.bJ b k (.inl hz)
 have gW : ∀ b k,(∃ m∈ms,m.fp b k)→(∀ t,¬ (G1 t).fp b k)∧¬ zl b k∧¬ c.zb b k:=fun b k ⟨m,hm,hf⟩=>⟨fun t=>(hT.all m hm).2.1 t b k hf,(hT.all m hm).2.2.1 b k hf⟩
 have kg : ∀ b k,(∃ x∈cs ++ l,x.fp b k)→∃ m∈ms,m.fp b k:=fun b k ⟨x,hx,hf⟩=>bq x hx b k hf
 have tG : ∀ b k,az b k→zl b k∨(∃ m∈ms,m.fp b k)∨w.heap.size≤b:=fun b k hz=>(hD.nJ b k hz).imp id fun hh=>hh.imp (kg b k) id
 have hi:=hT.inv.EG hD.ext (fun b k hs=>gW b k (kg b k hs)) hD.nI (fun b k hz=>⟨hin b k hz,fun t hf=>by
  rcases tG b k hz with hz | hm | hb
  ·exact (hT.inv.fz t b k hf).1 hz
  ·exact (gW b k hm).1 t hf
  ·have:=C.dA _ (hT.inv.ok t) b k hf; omega⟩)
 have kn : ∀ b k,(∃ m∈ms,m.fp b k)→∃ t,(G t).fp b k:=fun b k ⟨m,hm,hf⟩=>(hT.all m hm).2.2.2 b k hf
 have h2 : St c G1 az (bn as s).2 a w':=h.after hi hT.val hD.ext (fun b k hs=>kn b k (kg b k hs)) (fun t b k hf=>.inl ⟨t,hT.mono t b k hf⟩) hD.nI (fun b k hz=>(tG b k hz).imp id fun hh=>hh.imp (kn b k) id)
 have hrd : ∀ b k,r.fp b k→(∃ m∈ms,m.fp b k)∨w.heap.size≤b:=fun b k hf=>(hD.dom r (List.mem_cons_self ..) b k hf).imp (kg b k) id
 obtain ⟨G3,h3⟩:=h2.result (x:=r) o.dst hn (hD.all.ok r (List.mem_cons_self ..)) (hD.all.bare r (List.mem_cons_self ..)) (fun t b k hf hf'=>by
   rcases hrd b k hf with hm | hb
   ·exact (gW b k hm).1 t hf'
   ·have:=C.dA _ (hT.inv.ok t) b k hf'; omega) (fun b k hf=>⟨(hD.all.fz r (List.mem_cons_self ..) b k hf).1,fun hz=>by
   rcases hrd b k hf with hm | hb
   ·exact (gW b k hm).2.2 hz
   ·have:=hT.inv.bJ b k (.inr hz); omega⟩) (fun b k hf=>by
   rcases hrd b k hf with hm | hb
   ·obtain ⟨t,ht⟩:=kn b k hm
    exact h.tr.dom t b k ht
   ·exact .inr (Nat.le_trans h.tr.ext.size hb))
 refine ⟨r.val,hD.ends,fun B6=>hD.ext.mono fun b k hs _=>?_,G3,az,_,hk,h3⟩
 obtain ⟨m,hm,hf⟩:=kg b k hs
 have hd:=Dj s (hq B6) m.er (by rw [← g1]; exact List.mem_map_of_mem hm)
 cases m <;> first | exact hf | (simp [C.er] at hd)
end
end M
namespace M
open Go Go.RowKit
variable [Bs]
structure cX (w w' : World) (zl az zb : Nat→Nat→Prop) (G : Nat→C) (r : Nat) (p : Path) (D y q : C) (S M : Nat→Nat→Prop) : Prop where
 sub : (G r).sub p = some D
 yD : ∀ b k,y.fp b k→D.fp b k
 ext : Ext S w w'
 mZ : ∀ b k,S b k→M b k∨y.fp b k
 ru : ∀ b k,M b k→(∀ t,¬ (G t).fp b k)∧¬ zl b k∧¬ zb b k
 zi : q.ok w' (Zf az zb)
 bare : q.bare
 val : q.val = y.val
 fp : ∀ b k,q.fp b k→S b k∨w.heap.size≤b
 qz : ∀ b k,q.fp b k→¬ az b k
 z1 : ∀ b k,zl b k→az b k
 z2 : ∀ b k,az b k→zl b k∨S b k∨w.heap.size≤b
 bJ : ∀ b k,az b k→b < w'.heap.size
section
variable {w w' : World} {zl az zb : Nat→Nat→Prop} {G : Nat→C} {s : ag} {r : Nat} {p : Path} {D y q : C} {S M : Nat→Nat→Prop}
theorem cX.DG (h : cX w w' zl az zb G r p D y q S M) (hi : Inv w zl zb G s) {b k : Nat} (hf : D.fp b k) : (G r).fp b k:=C.ep p h.sub (hi.ok r) hf
theorem cX.notM (h : cX w w' zl az zb G r p D y q S M) (hi : Inv w zl zb G s) {b k : Nat} (hf : D.fp b k) : ¬ M b k:=fun hm=>(h.ru b k hm).1 r (h.DG hi hf)
theorem cX.HH (h : cX w w' zl az zb G r p D y q S M) (hi : Inv w zl zb G s) {b k : Nat} (hf : D.fp b k) : ¬ w.heap.size≤b:=fun hb=>by have:=C.dA _ (hi.ok r) b k (h.DG hi hf); omega
theorem cX.qD (h : cX w w' zl az zb G r p D y q S M) (hi : Inv w zl zb G s) {b k : Nat} (hq : q.fp b k) (hf : D.fp b k) : y.fp b k:=by
 rcases h.fp b k hq with hs | hb
 ·exact (h.mZ b k hs).resolve_left (h.notM hi hf)
 ·exact (h.HH hi hf hb).elim
theorem cX.zD (h : cX w w' zl az zb G r p D y q S M) (hi : Inv w zl zb G s) {b k : Nat} (hz : az b k) (hf : D.fp b k) : y.fp b k:=by
 rcases h.z2 b k hz with hz | hs | hb
 ·exact ((hi.fz r b k (h.DG hi hf)).1 hz).elim
 ·exact (h.mZ b k hs).resolve_left (h.notM hi hf)
 ·exact (h.HH hi hf hb).elim
theorem cX.SD (h : cX w w' zl az zb G r p D y q S M) (hi : Inv w zl zb G s) {b k : Nat} (hs : S b k) (hf : D.fp b k) : y.fp b k:=(h.mZ b k hs).resolve_left (h.notM hi hf)
theorem cX.Z (h : cX w w' zl az zb G r p D y q S M) (hi : Inv w zl zb G s) : ∀ m b k,Zf zl zb m b k→¬ S b k:=fun m b k hz hs=>by
 rcases h.mZ b k hs with hm | hy
 ·obtain ⟨_,a1,a2⟩:=h.ru b k hm
  cases m with
  | own=>exact hz
  | sl=>exact a1 hz
  | af=>exact hz.elim a1 a2
 ·exact hi.rU r m b k hz (h.DG hi (h.yD b k hy))
theorem cX.mono (h : cX w w' zl az zb G r p D y q S M) : ∀ m b k,Zf zl zb m b k→Zf az zb m b k:=fun m b k hz=>by
 cases m with
 | own=>exact hz
 | sl=>exact h.z1 b k hz
 | af=>exact hz.imp (h.z1 b k) id
theorem cX.back (h : cX w w' zl az zb G r p D y q S M) (hi : Inv w zl zb G s) {d0 : C} (hok : d0.ok w' (Zf az zb)) (hF : C.dU D d0) (hl : C.eM D d0) (cr : (d0.aq (C.belows r p)).rf fun t=>(G t).aq (C.belows r p)) (bq : ∀ b k,d0.fp b k→q.fp b k∨(D.fp b k∧¬ y.fp b k)) (hz : ∀ b k,d0.fp b k→¬ az b k) :
  ∃ G',Inv w' az zb G' (dB r p d0.er s)∧(∀ t,(G' t).val = (G t).val)∧∀ t b k,(G' t).fp b k→q.fp b k∨((∃ u,(G u).fp b k)∧¬ y.fp b k):=by
 have h1:=hi.de r p
 have hs1 : ((G r).aq (C.belows r p)).sub p = some (D.aq (C.belows r p)):=C.fJ _ p _ _ (hi.ok r) h.sub
 have s8 : ∀ t b k,((G t).aq (C.belows r p)).fp b k↔(G t).fp b k:=fun t b k=>C.bT _ _ b k
 have QU : C.dU (D.aq (C.belows r p)) (d0.aq (C.belows r p)):=by
  cases hF with
  | row=>exact .row ..
  | ptr=>exact .ptr ..
 have mS : C.eM (D.aq (C.belows r p)) (d0.aq (C.belows r p)):=by
  cases hF with
  | row m m' sz A len cap e e'=>exact ⟨rfl,fun h=>h,fun h=>h,fun h=>h,hl.fits⟩
  | ptr m m' g o n c c'=>exact ⟨rfl,fun h=>h,fun h=>h,fun h=>h,hl.fits⟩
 obtain ⟨i1,i2,i3⟩:=h1.Aw r p (fun t=>C.dZ _ _) hs1 QU mS ⟨cr,C.dZ _ _⟩ h.ext (fun b k hs=>by
   rcases h.mZ b k hs with hm | hy
   ·obtain ⟨a1,a2,a3⟩:=h.ru b k hm
    exact .inr ⟨fun t hf=>a1 t ((s8 t b k).1 hf),a2,a3⟩
   ·exact .inl ((C.bT _ D b k).2 (h.yD b k hy))) (C.jg _ _ hok) h.z1 (fun b k oq=>⟨fun hf=>hz b k ((C.bT _ d0 b k).1 hf) oq,h.bJ b k oq,fun t hf=>by
   refine (C.bT _ D b k).2 ?_
   have hf:=(s8 t b k).1 hf
   rcases h.z2 b k oq with dQ | hs | hb
   ·exact ((hi.fz t b k hf).1 dQ).elim
   ·rcases h.mZ b k hs with hm | hy
    ·exact ((h.ru b k hm).1 t hf).elim
    ·exact h.yD b k hy
   ·have:=C.dA _ (hi.ok t) b k hf; omega⟩) (fun b k hf=>by
   rcases (bq b k ((C.bT _ d0 b k).1 hf)).symm with hf | hf
   ·exact .inl ((C.bT _ D b k).2 hf.1)
   ·rcases h.fp b k hf with hs | hb
    ·rcases h.mZ b k hs with hm | hy
     ·obtain ⟨a1,a2,a3⟩:=h.ru b k hm
      exact .inr ⟨fun t hf=>a1 t ((s8 t b k).1 hf),a3⟩
     ·exact .inl ((C.bT _ D b k).2 (h.yD b k hy))
    ·exact .inr ⟨fun t hf=>by have:=C.dA _ (hi.ok t) b k ((s8 t b k).1 hf); omega,fun hz=>by have:=hi.bJ b k (.inr hz); omega⟩)
 rw [C.qG] at i1
 refine ⟨_,i1,fun t=>(i2 t).trans (C.fK _ _),fun t b k hf=>?_⟩
 rcases i3 t b k hf with hf | hf
 ·rcases bq b k ((C.bT _ d0 b k).1 hf) with hf | hf
  ·exact .inl hf
  ·exact .inr ⟨⟨r,h.DG hi hf.1⟩,hf.2⟩
 ·exact .inr ⟨⟨t,(s8 t b k).1 hf.1⟩,fun hy=>hf.2 ((C.bT _ D b k).2 (h.yD b k hy))⟩
end
end M
namespace M
open Go Go.RowKit
variable [Bs]
theorem Iy {α : Type} (f g : Nat→α) {nn c n : Nat} (h : c + n≤nn) : ((List.range nn).map fun j=>if c≤j∧j < c + n then g (j - c) else f j) = ((List.range nn).map f).take c ++ (List.range n).map g ++ ((List.range nn).map f).drop (c + n):=by
 apply List.ext_getElem?
 intro i
 rw [C.cm]
 have mR : (((List.range nn).map f).take c).length = c:=by simp; omega
 have qn : (((List.range nn).map f).take c ++ (List.range n).map g).length = c + n:=by rw [List.length_append,mR]; simp
 by_cases h0 : i < nn
 ·rw [if_pos h0]
  by_cases h1 : i < c
  ·rw [if_neg (by omega),List.getElem?_append_left (by omega),List.getElem?_append_left (by omega),List.getElem?_take_of_lt h1,C.cm,if_pos h0]
  ·by_cases h2 : i < c + n
   ·rw [if_pos ⟨by omega,h2⟩,List.getElem?_append_left (by omega),List.getElem?_append_right (by omega),mR,C.cm,if_pos (by omega)]
   ·rw [if_neg (by omega),List.getElem?_append_right (by omega),qn,List.getElem?_drop,C.cm,show c + n + (i - (c + n)) = i by omega,if_pos h0]
 ·rw [if_neg h0,List.getElem?_append_right (by omega),qn,List.getElem?_drop,C.cm,if_neg (by omega)]
section
variable {w w' : World} {zl az zb : Nat→Nat→Prop} {G : Nat→C} {s : ag} {r : Nat} {p : Path} {S M : Nat→Nat→Prop}
theorem cX.ptr {g o nn n c : Nat} {f qf : Nat→C} (h : cX w w' zl az zb G r p (.ptr .own g o nn f) (.ptr .own g (o + c) n fun j=>f (j + c)) (.ptr .own g (o + c) n qf) S M) (hi : Inv w zl zb G s) (hn : c + n≤nn) :
  ∃ G',Inv w' az zb G' (dB r p (.ptr .own (((List.range nn).map fun j=>(f j).er).take c ++ ((List.range n).map fun j=>(qf j).er) ++ ((List.range nn).map fun j=>(f j).er).drop (c + n))) s)∧(∀ t,(G' t).val = (G t).val)∧∀ t b k,(G' t).fp b k→(C.ptr .own g (o + c) n qf).fp b k∨((∃ u,(G u).fp b k)∧¬ (C.ptr .own g (o + c) n fun j=>f (j + c)).fp b k):=by
 obtain ⟨D1,D2,D3,D4⟩:=C.eL p h.sub (hi.ok r)
 obtain ⟨q1,q2,q3,q4⟩:=h.zi
 have jE : ∀ j,j < n→∀ b k,(qf j).fp b k→(C.ptr .own g (o + c) n qf).fp b k:=fun j hj b k hf=>C.gX (q3 j hj).1 (q3 j hj).2.1 hj hf
 have jz : ∀ j,j < nn→∀ b k,(f j).fp b k→(C.ptr .own g o nn f).fp b k:=fun j hj b k hf=>C.gX (D3 j hj).1 (D3 j hj).2.1 hj hf
 have lp : ∀ k,o≤k→k < o + nn→(C.ptr .own g o nn f).fp g k:=fun k h1 h2=>⟨rfl,.inl ⟨rfl,h1,h2⟩⟩
 have jb : ∀ k,o≤k→k < o + nn→(C.ptr .own g (o + c) n fun j=>f (j + c)).fp g k→o + c≤k∧k < o + c + n:=fun k h1 h2 ⟨_,hf⟩=>by
  rcases hf with hf | ⟨j,hj,hf⟩
  ·exact hf.2
  ·exact ((D4 (j + c) (by omega) g k hf).1 rfl ⟨rfl,h1,h2⟩).elim
 have jG : ∀ j,j < nn→¬ (c≤j∧j < c + n)→∀ b k,(f j).fp b k→¬ (C.ptr .own g (o + c) n fun j=>f (j + c)).fp b k:=fun j hj hne b k hf ⟨_,hf'⟩=>by
  rcases hf' with hf' | ⟨j',hj',hf'⟩
  ·exact (D4 j hj b k hf).1 rfl ⟨hf'.1,by omega,by omega⟩
  ·exact (D4 j hj b k hf).2 (j' + c) (by omega) (by omega) hf'
 let d : Nat→C:=fun j=>if c≤j∧j < c + n then qf (j - c) else f j
 have fe : ∀ j,c≤j∧j < c + n→d j = qf (j - c):=fun j hj=>if_pos hj
 have ff : ∀ j,¬ (c≤j∧j < c + n)→d j = f j:=fun j hj=>if_neg hj
 have hok : (C.ptr .own g o nn d).ok w' (Zf az zb):=by
  refine ⟨fun j hj=>⟨?_,fun hm=>(hm rfl).elim,fun _=>(h.ext.frozen D2).trans ((D1 j hj).2.2 rfl)⟩,Nat.lt_of_lt_of_le D2 h.ext.size,fun j hj=>?_,fun j hj b k hf=>⟨fun _ hb=>?_,fun j' hj' hne=>?_⟩⟩
  ·by_cases hr : c≤j∧j < c + n
   ·rw [fe j hr]
    have:=(q1 (j - c) (by omega)).1
    rwa [show o + c + (j - c) = o + j by omega] at this
   ·rw [ff j hr]
    exact h.ext.cell (fun hs=>hr (by have:=jb (o + j) (by omega) (by omega) (h.SD hi hs (lp _ (by omega) (by omega))); omega)) (D1 j hj).1
  ·by_cases hr : c≤j∧j < c + n
   ·rw [fe j hr]
    obtain ⟨a1,a2,a3⟩:=q3 (j - c) (by omega)
    exact ⟨a1,a2,a3⟩
   ·rw [ff j hr]
    obtain ⟨a1,a2,a3⟩:=D3 j hj
    exact ⟨a1,a2,C.ei h.mono _ (C.dx h.ext (h.Z hi) _ (fun b k hf hs=>jG j hj hr b k hf (h.SD hi hs (jz j hj b k hf))) a3)⟩
  ·obtain ⟨rfl,cT,fF⟩:=hb
   by_cases hr : c≤j∧j < c + n
   ·rw [fe j hr] at hf
    have:=jb k cT fF (h.qD hi (jE _ (by omega) _ _ hf) (lp k cT fF))
    exact (q4 (j - c) (by omega) _ k hf).1 rfl ⟨rfl,this.1,this.2⟩
   ·rw [ff j hr] at hf
    exact (D4 j hj _ k hf).1 rfl ⟨rfl,cT,fF⟩
  ·by_cases hr : c≤j∧j < c + n
   ·rw [fe j hr] at hf
    by_cases hr' : c≤j'∧j' < c + n
    ·rw [fe j' hr']
     exact (q4 (j - c) (by omega) b k hf).2 (j' - c) (by omega) (by omega)
    ·rw [ff j' hr']
     exact fun hf'=>jG j' hj' hr' b k hf' (h.qD hi (jE _ (by omega) _ _ hf) (jz j' hj' b k hf'))
   ·rw [ff j hr] at hf
    by_cases hr' : c≤j'∧j' < c + n
    ·rw [fe j' hr']
     exact fun hf'=>jG j hj hr b k hf (h.qD hi (jE _ (by omega) _ _ hf') (jz j hj b k hf))
    ·rw [ff j' hr']
     exact (D4 j hj b k hf).2 j' hj' hne
 have QS:=Inv.pn.vF p ((hi.de r p).ok r) (C.fJ (C.belows r p) p _ _ (hi.ok r) h.sub) ((hi.de r p).rf r)
 obtain ⟨G',i1,i2,i3⟩:=h.back hi (d0:=.ptr .own g o nn d) hok (.ptr ..) ⟨rfl,fun h=>h,fun h=>h,fun h=>h,fun _ h=>h⟩ (fun j hj=>by
   by_cases hr : c≤j∧j < c + n
   ·show ((d j).aq _).rf _
    rw [fe j hr]
    exact C.jN _ _ (C.mB _ _ (h.bare (j - c) (by omega)))
   ·show ((d j).aq _).rf _
    rw [ff j hr]
    exact QS j hj) (fun b k hf=>by
   obtain ⟨_,hf | ⟨j,hj,hf⟩⟩:=hf
   ·obtain ⟨rfl,h1,h2⟩:=hf
    by_cases hr : o + c≤k∧k < o + c + n
    ·exact .inl ⟨rfl,.inl ⟨rfl,hr.1,hr.2⟩⟩
    ·exact .inr ⟨lp k h1 h2,fun hy=>hr (jb k h1 h2 hy)⟩
   ·by_cases hr : c≤j∧j < c + n
    ·rw [fe j hr] at hf
     exact .inl (jE _ (by omega) _ _ hf)
    ·rw [ff j hr] at hf
     exact .inr ⟨jz j hj b k hf,jG j hj hr b k hf⟩) (fun b k hf hz=>by
   obtain ⟨_,hf | ⟨j,hj,hf⟩⟩:=hf
   ·obtain ⟨rfl,h1,h2⟩:=hf
    have:=jb k h1 h2 (h.zD hi hz (lp k h1 h2))
    exact h.qz _ k ⟨rfl,.inl ⟨rfl,this.1,this.2⟩⟩ hz
   ·by_cases hr : c≤j∧j < c + n
    ·rw [fe j hr] at hf
     exact h.qz b k (jE _ (by omega) _ _ hf) hz
    ·rw [ff j hr] at hf
     exact jG j hj hr b k hf (h.zD hi hz (jz j hj b k hf)))
 have gS : (C.ptr .own g o nn d).er = .ptr .own (((List.range nn).map fun j=>(f j).er).take c ++ ((List.range n).map fun j=>(qf j).er) ++ ((List.range nn).map fun j=>(f j).er).drop (c + n)):=by
  rw [← Iy (fun j=>(f j).er) (fun j=>(qf j).er) hn]
  simp only [C.er]
  congr 1
  refine List.map_congr_left fun j _=>?_
  show (if _ then _ else _ : C).er = _
  split <;> rfl
 rw [gS] at i1
 exact ⟨G',i1,i2,i3⟩
theorem cX.row {z len cap : Nat} {A : Option Ad} {e qe : Nat→Nat→C} (h : cX w w' zl az zb G r p (.row .own z A len cap e) (.row .own z A len cap e) (.row .own z A len cap qe) S M) (hi : Inv w zl zb G s) :
  ∃ G',Inv w' az zb G' (dB r p (.row .own z (cD z len qe)) s)∧(∀ t,(G' t).val = (G t).val)∧∀ t b k,(G' t).fp b k→(C.row .own z A len cap qe).fp b k∨((∃ u,(G u).fp b k)∧¬ (C.row .own z A len cap e).fp b k) :=
 h.back hi (d0:=.row .own z A len cap qe) h.zi (.row ..) ⟨rfl,fun h=>h,fun h=>h,fun h=>h,fun _ h=>h⟩ trivial (fun b k hf=>.inl hf) (fun b k hf=>h.qz b k hf)
theorem cX.elem {z g o len cap n c i : Nat} {e : Nat→Nat→C} {qf : Nat→C} (h : cX w w' zl az zb G r p (.row .own z (some (g,o,none)) len cap e) (.ptr .own g (o + i * z + c) n fun j=>e i (j + c)) (.ptr .own g (o + i * z + c) n qf) S M) (hi : Inv w zl zb G s) (td : i < len) (hn : c + n≤z) (RS : ∀ j,j < n→(qf j).bU) :
  ∃ G',Inv w' az zb G' (dB r p (.row .own z ((cD z len e).set i (((List.range z).map fun j=>(e i j).er).take c ++ ((List.range n).map fun j=>(qf j).er) ++ ((List.range z).map fun j=>(e i j).er).drop (c + n)))) s)∧(∀ t,(G' t).val = (G t).val)∧∀ t b k,(G' t).fp b k→(C.ptr .own g (o + i * z + c) n qf).fp b k∨((∃ u,(G u).fp b k)∧¬ (C.ptr .own g (o + i * z + c) n fun j=>e i (j + c)).fp b k):=by
 obtain ⟨D1,D2,D3,D4,D5⟩:=C.eL p h.sub (hi.ok r)
 obtain ⟨q1,q2,q3,q4⟩:=h.zi
 have jE : ∀ j,j < n→∀ b k,(qf j).fp b k→(C.ptr .own g (o + i * z + c) n qf).fp b k:=fun j hj b k hf=>C.gX (q3 j hj).1 (q3 j hj).2.1 hj hf
 have jz : ∀ i' j,i' < len→j < z→∀ b k,(e i' j).fp b k→(C.row .own z (some (g,o,none)) len cap e).fp b k:=fun i' j hi' hj b k hf=>C.gD (D3 i' j hi' hj).1 (D3 i' j hi' hj).2.2.1 hi' hj hf
 have lp : ∀ k,(C.row .own z (some (g,o,none)) len cap e).fp g k:=fun k=>⟨rfl,.inl ⟨o,rfl⟩⟩
 have jb : ∀ k,(C.ptr .own g (o + i * z + c) n fun j=>e i (j + c)).fp g k→o + i * z + c≤k∧k < o + i * z + c + n:=fun k ⟨_,hf⟩=>by
  rcases hf with hf | ⟨j,hj,hf⟩
  ·exact hf.2
  ·exact ((D5 i (j + c) td (by omega) g k hf).1 rfl o rfl).elim
 have jG : ∀ i' j,i' < len→j < z→¬ (i' = i∧c≤j∧j < c + n)→∀ b k,(e i' j).fp b k→¬ (C.ptr .own g (o + i * z + c) n fun j=>e i (j + c)).fp b k:=fun i' j hi' hj hne b k hf ⟨_,hf'⟩=>by
  rcases hf' with hf' | ⟨j',hj',hf'⟩
  ·exact (D5 i' j hi' hj b k hf).1 rfl o (by rw [hf'.1])
  ·exact (D5 i' j hi' hj b k hf).2 i (j' + c) td (by omega) (fun e=>by simp only [Prod.mk.injEq] at e; exact hne ⟨e.1,by omega,by omega⟩) hf'
 let d : Nat→Nat→C:=fun i' j=>if i' = i∧c≤j∧j < c + n then qf (j - c) else e i' j
 have fe : ∀ i' j,i' = i∧c≤j∧j < c + n→d i' j = qf (j - c):=fun i' j hj=>if_pos hj
 have ff : ∀ i' j,¬ (i' = i∧c≤j∧j < c + n)→d i' j = e i' j:=fun i' j hj=>if_neg hj
 have hok : (C.row .own z (some (g,o,none)) len cap d).ok w' (Zf az zb):=by
  refine ⟨D1,fun i' j hi' hj=>⟨g,o,rfl,?_,fun hm=>(hm rfl).elim⟩,fun i' j hi' hj=>?_,fun _=>?_,fun i' j hi' hj b k hf=>⟨fun _ o' hA=>?_,fun i2 j2 hi2 hj2 hne=>?_⟩⟩
  ·by_cases hr : i' = i∧c≤j∧j < c + n
   ·rw [fe i' j hr]
    obtain ⟨rfl,h1,h2⟩:=hr
    have:=(q1 (j - c) (by omega)).1
    rwa [show o + i' * z + c + (j - c) = o + i' * z + j by omega] at this
   ·rw [ff i' j hr]
    obtain ⟨g',o',hA,hcl,_⟩:=D2 i' j hi' hj
    injection hA with hA
    injection hA with e1 e2
    injection e2 with e2
    subst e1; subst e2
    refine h.ext.cell (fun hs=>hr ?_) hcl
    have:=jb _ (h.SD hi hs (lp _))
    have hj0 : o + i' * z + j - (o + i * z) < z:=by omega
    have:=Dv hj hj0 (show i' * z + j = i * z + (o + i' * z + j - (o + i * z)) by omega)
    exact ⟨this.1,by omega,by omega⟩
  ·by_cases hr : i' = i∧c≤j∧j < c + n
   ·rw [fe i' j hr]
    obtain ⟨a1,a2,a3⟩:=q3 (j - c) (by omega)
    exact ⟨a1,RS _ (by omega),a2,a3⟩
   ·rw [ff i' j hr]
    obtain ⟨a1,a2,a3,a4⟩:=D3 i' j hi' hj
    exact ⟨a1,a2,a3,C.ei h.mono _ (C.dx h.ext (h.Z hi) _ (fun b k hf hs=>jG i' j hi' hj hr b k hf (h.SD hi hs (jz i' j hi' hj b k hf))) a4)⟩
  ·rcases D4 rfl with ⟨hA,_⟩ | ⟨g',o',arr,t,fz,hA,hh,hsz,hfr⟩
   ·cases hA
   ·injection hA with hA
    injection hA with e1 e2
    injection e2 with e2
    subst e1; subst e2
    have hg : g < w.heap.size:=(Array.getElem?_eq_some_iff.1 hh).1
    rcases h.ext.block g hg with e' | ⟨a1,a2,t',iX,r1,r2,r3,r4⟩
    ·exact .inr ⟨g,o,arr,t,fz,rfl,e'.trans hh,hsz,fun k hk hk'=>(h.ext.frozen hg).trans (hfr k hk hk')⟩
    ·rw [hh] at r1
     injection r1 with r1
     injection r1 with s1 s2 s3
     subst s1
     exact .inr ⟨g,o,a2,t',iX,rfl,r2,by omega,fun k hk hk'=>(h.ext.frozen hg).trans (hfr k hk hk')⟩
  ·injection hA with hA
   injection hA with e1 e2
   subst e1
   by_cases hr : i' = i∧c≤j∧j < c + n
   ·rw [fe i' j hr] at hf
    have:=jb k (h.qD hi (jE _ (by omega) _ _ hf) (lp k))
    exact (q4 (j - c) (by omega) _ k hf).1 rfl ⟨rfl,this.1,this.2⟩
   ·rw [ff i' j hr] at hf
    exact (D5 i' j hi' hj _ k hf).1 rfl o rfl
  ·by_cases hr : i' = i∧c≤j∧j < c + n
   ·rw [fe i' j hr] at hf
    by_cases hr' : i2 = i∧c≤j2∧j2 < c + n
    ·rw [fe i2 j2 hr']
     exact (q4 (j - c) (by omega) b k hf).2 (j2 - c) (by omega) (fun e=>hne (by simp only [Prod.mk.injEq]; exact ⟨by rw [hr.1,hr'.1],by omega⟩))
    ·rw [ff i2 j2 hr']
     exact fun hf'=>jG i2 j2 hi2 hj2 hr' b k hf' (h.qD hi (jE _ (by omega) _ _ hf) (jz i2 j2 hi2 hj2 b k hf'))
   ·rw [ff i' j hr] at hf
    by_cases hr' : i2 = i∧c≤j2∧j2 < c + n
    ·rw [fe i2 j2 hr']
     exact fun hf'=>jG i' j hi' hj hr b k hf (h.qD hi (jE _ (by omega) _ _ hf') (jz i' j hi' hj b k hf))
    ·rw [ff i2 j2 hr']
     exact (D5 i' j hi' hj b k hf).2 i2 j2 hi2 hj2 hne
 obtain ⟨G',i1,i2,i3⟩:=h.back hi (d0:=.row .own z (some (g,o,none)) len cap d) hok (.row ..) ⟨rfl,fun h=>h,fun h=>h,fun h=>h,fun _ h=>h⟩ trivial (fun b k hf=>by
   obtain ⟨_,hf | ⟨i',j,hi',hj,hf⟩⟩:=hf
   ·obtain ⟨o',hA⟩:=hf
    injection hA with hA
    injection hA with e1 e2
    subst e1
    by_cases hr : o + i * z + c≤k∧k < o + i * z + c + n
    ·exact .inl ⟨rfl,.inl ⟨rfl,hr.1,hr.2⟩⟩
    ·exact .inr ⟨lp k,fun hy=>hr (jb k hy)⟩
   ·by_cases hr : i' = i∧c≤j∧j < c + n
    ·rw [fe i' j hr] at hf
     exact .inl (jE _ (by omega) _ _ hf)
    ·rw [ff i' j hr] at hf
     exact .inr ⟨jz i' j hi' hj b k hf,jG i' j hi' hj hr b k hf⟩) (fun b k hf hz=>by
   obtain ⟨_,⟨o',hA⟩ | ⟨i',j,hi',hj,hf⟩⟩:=hf
   ·injection hA with hA
    injection hA with e1 e2
    subst e1
    have:=jb k (h.zD hi hz (lp k))
    exact h.qz _ k ⟨rfl,.inl ⟨rfl,this.1,this.2⟩⟩ hz
   ·by_cases hr : i' = i∧c≤j∧j < c + n
    ·rw [fe i' j hr] at hf
     exact h.qz b k (jE _ (by omega) _ _ hf) hz
    ·rw [ff i' j hr] at hf
     exact jG i' j hi' hj hr b k hf (h.zD hi hz (jz i' j hi' hj b k hf)))
 have gS : (C.row .own z (some (g,o,none)) len cap d).er = .row .own z ((cD z len e).set i (((List.range z).map fun j=>(e i j).er).take c ++ ((List.range n).map fun j=>(qf j).er) ++ ((List.range z).map fun j=>(e i j).er).drop (c + n))):=by
  rw [← Iy (fun j=>(e i j).er) (fun j=>(qf j).er) hn]
  simp only [C.er]
  congr 1
  symm
  refine C.uH _ _ len i _ fun i' hi'=>?_
  split
  ·rename_i s9
   subst s9
   refine List.map_congr_left fun j _=>?_
   show (if _ then _ else _ : C).er = _
   simp only [true_and]
   split <;> rfl
  ·rename_i s9
   refine List.map_congr_left fun j _=>?_
   show (if _ then _ else _ : C).er = _
   rw [if_neg (fun hh=>s9 hh.1)]
 rw [gS] at i1
 exact ⟨G',i1,i2,i3⟩
end
end M
namespace M
open Go Go.RowKit
variable [Bs]
section
variable {P : Program} {c : Ctx} {G : Nat→C} {zl : Nat→Nat→Prop} {s : ag} {a : Act} {w : World} {o : Oper} {K : ag→Prop}
theorem Dl : ∀ {l' : List Operand} {l : List (AV×PM)} {x : AV} {n : Nat},eC l' l = true→cJ l = some (x,n)→∃ i x',l[i]? = some (x,PM.mut n)∧l'[i]? = some x'∧aE x' x = true∧(∀ (j : Nat) (x2 : AV) (n2 : Nat),l[j]? = some (x2,PM.mut n2)→j = i)∧∀ ps : List X,eV l ps = ps.getD i .dead
 | [],[],x,n,_,h=>by cases h
 | Jb :: l',(x0,pm) :: l,x,n,hc,h=>by
  simp only [eC,Bool.and_eq_true] at hc
  have other : cJ l = some (x,n)→(∀ n2,pm≠PM.mut n2)→(∀ (y : X) ps,eV ((x0,pm) :: l) (y :: ps) = eV l ps)→(eV ((x0,pm) :: l) [] = .dead)→∃ i x',((x0,pm) :: l)[i]? = some (x,PM.mut n)∧(Jb :: l')[i]? = some x'∧aE x' x = true∧(∀ (j : Nat) (x2 : AV) (n2 : Nat),((x0,pm) :: l)[j]? = some (x2,PM.mut n2)→j = i)∧∀ ps : List X,eV ((x0,pm) :: l) ps = ps.getD i .dead:=fun hm RN h1 h2=>by
   obtain ⟨i,x',i1,i2,i3,i4,i5⟩:=Dl hc.2 hm
   refine ⟨i + 1,x',by simpa using i1,by simpa using i2,i3,fun j x2 n2 hj=>?_,fun ps=>?_⟩
   ·cases j with
    | zero =>
     simp only [List.getElem?_cons_zero,Option.some.injEq,Prod.mk.injEq] at hj
     exact (RN n2 hj.2).elim
    | succ j=>rw [i4 j x2 n2 (by simpa using hj)]
   ·cases ps with
    | nil=>rw [h2]; rfl
    | cons y ps=>rw [h1,i5]; rfl
  cases pm with
  | mv=>exact other h (fun _ e=>by cases e) (fun _ _=>rfl) rfl
  | af=>exact other h (fun _ e=>by cases e) (fun _ _=>rfl) rfl
  | gm m=>exact other h (fun _ e=>by cases e) (fun _ _=>rfl) rfl
  | «mut» m =>
   simp only [cJ,Option.some.injEq,Prod.mk.injEq] at h
   obtain ⟨rfl,rfl⟩:=h
   refine ⟨0,Jb,rfl,rfl,hc.1.1,fun j x2 n2 hj=>?_,fun ps=>?_⟩
   ·cases j with
    | zero=>rfl
    | succ j =>
     exfalso
     have hno : cJ l = none:=by simpa using hc.1.2
     have : ∀ {l : List (AV×PM)} {i : Nat},l[i]? = some (x2,PM.mut n2)→cJ l≠none:=by
      intro l
      induction l with
      | nil=>intro i hi; simp at hi
      | cons p l ih =>
       intro i hi
       obtain ⟨y,pm⟩:=p
       cases i with
       | zero =>
        simp only [List.getElem?_cons_zero,Option.some.injEq,Prod.mk.injEq] at hi
        obtain ⟨_,rfl⟩:=hi
        simp [cJ]
       | succ i =>
        have:=ih (by simpa using hi)
        cases pm <;> simp [cJ] <;> first | exact this | skip
     exact this (by simpa using hj) hno
   ·cases ps <;> rfl
 | [],_ :: _,_,_,hc,_=>by cases hc
 | _ :: _,[],_,_,hc,_=>by cases hc
theorem Dm (h : St c G zl s a w) {l' : List Operand} {as : List (AV×PM)} (hc : eC l' as = true) {x : AV} {n : Nat} (ko : cJ as = some (x,n)) {f : FuncId} {fv : Option AV} (hop : nK P c zl o a w l' f fv) (hn : ∀ n,o.dst = some n→n < c.nt)
  {ms : List C} {G1 : Nat→C} {sm : ag} (hT : aW w zl c.zb G ms G1 sm) (g2 : MV a l' as ms) (hmb : ∀ m∈ms,m.bare) {r : Nat} {p : Path} {D y : C} (hsub : (G1 r).sub p = some D) (lD : y.ok w (Zf zl c.zb)) (xy : y.bare) (ku : ∀ (i : Nat) (x' : Operand),as[i]? = some (x,PM.mut n)→l'[i]? = some x'→y.val = a.eval x') (Cg : ∀ b k,y.fp b k→D.fp b k)
  (sZ : mD (fA r p .dead sm) fv f) {back : X→(ag→Prop)→Prop} (hk : AC P f (dV (fA r p .dead sm) y.er as (ms.map C.er) ++ j0 (fA r p .dead sm) fv) fun q ps=>back (eV as ps) fun s'=>K (dL o.dst q s'))
  (Q6 : ∀ {w' : World} {az : Nat→Nat→Prop} {S M : Nat→Nat→Prop} {q : C},cX w w' zl az c.zb G1 r p D y q S M→∀ Kx,back q.er Kx→∃ s',Kx s'∧∃ G',Inv w' az c.zb G' s'∧(∀ t,(G' t).val = (G1 t).val)∧∀ t b k,(G' t).fp b k→q.fp b k∨((∃ u,(G1 u).fp b k)∧¬ y.fp b k)) : me P c o a w K false:=by
 obtain ⟨kW,hrun,Ra⟩:=hop.run
 have h1:=Ac h hT
 obtain ⟨D',G2,t1,t2,t3,t4,t5,t6,t7,t8,t9,t10,t11,t12⟩:=h1.inv.pn r p D hsub
 have h2 : St c G2 zl (fA r p .dead sm) a w:=h1.move t3 t10 (Ext.refl (fun _ _=>False) w) (fun _ _ hs=>hs.elim) (fun t b k hf=>.inl ⟨t,t11 t b k hf⟩)
 have R9 : ∀ b k,y.fp b k→∀ t,¬ (G2 t).fp b k:=fun b k hf t=>t8 t b k ((t12 b k).2 (Cg b k hf))
 have xx : ∀ b k,y.fp b k→(G1 r).fp b k:=fun b k hf=>C.ep p hsub (hT.inv.ok r) (Cg b k hf)
 have fY : ∀ b k,c.zb b k→(c.zb b k∨∃ t,(G2 t).fp b k):=fun b k hz=>.inl hz
 have mW : ∀ t b k,(G2 t).fp b k→(c.zb b k∨∃ t,(G2 t).fp b k):=fun t b k hf=>.inr ⟨t,hf⟩
 obtain ⟨l,l1,l2,l3⟩:=Ra (aR:=fun b k=>c.zb b k∨∃ t,(G2 t).fp b k) h2 fY mW sZ
 have G4 : ∀ m b k,Zf zl c.zb m b k→Zf zl (fun b k=>c.zb b k∨∃ t,(G2 t).fp b k) m b k:=fun m b k hz=>by
  cases m with
  | own=>exact hz
  | sl=>exact hz
  | af=>exact hz.imp id .inl
 obtain ⟨i,x',i1,i2,i3,i4,i5⟩:=Dl hc ko
 have Hg:=ku i x' i1 i2
 obtain ⟨cs,c1,c2,c3,c4⟩:=wm (aR:=fun b k=>c.zb b k∨∃ t,(G2 t).fp b k) h2 fY mW (y:=y) (C.ei G4 _ lD) xy hc g2 (fun x hx=>⟨C.ei G4 _ (hT.all x hx).1,hmb x hx,fun b k hf hf'=>(hT.all x hx).2.1 r b k hf (xx b k hf')⟩) hT.apart (fun j x2 n2 x2' hj hj'=>by
  have:=i4 j x2 n2 hj
  subst this
  rw [i2] at hj'
  injection hj' with hj'
  rw [← hj']; exact Hg)
 have bq : ∀ x∈cs ++ l,∀ b k,x.fp b k→(∃ m∈ms,m.fp b k)∨y.fp b k:=fun x hx b k hf=>by
  rcases List.mem_append.1 hx with hx | hx
  ·exact ((c3 x hx).2.2 b k hf).imp id fun hh=>hh.2
  ·exact ((l3 x hx).cg b k hf).elim
 have gW : ∀ b k,(∃ m∈ms,m.fp b k)→(∀ t,¬ (G1 t).fp b k)∧¬ zl b k∧¬ c.zb b k:=fun b k ⟨m,hm,hf⟩=>⟨fun t=>(hT.all m hm).2.1 t b k hf,(hT.all m hm).2.2.1 b k hf⟩
 have hA : js w zl (fun b k=>c.zb b k∨∃ t,(G2 t).fp b k) (cs ++ l):={
  ok:=fun x hx=>(List.mem_append.1 hx).elim (fun hx=>(c3 x hx).1) fun hx=>(l3 x hx).ok
  bare:=fun x hx=>(List.mem_append.1 hx).elim (fun hx=>(c3 x hx).2.1) fun hx=>(l3 x hx).bare
  fz:=fun x hx b k hf=>by
   rcases bq x hx b k hf with hm | hy
   ·obtain ⟨a1,a2,a3⟩:=gW b k hm
    exact ⟨a2,fun hz=>hz.elim a3 fun ⟨t,ht⟩=>a1 t (t11 t b k ht)⟩
   ·have:=hT.inv.fz r b k (xx b k hy)
    exact ⟨this.1,fun hz=>hz.elim this.2 fun ⟨t,ht⟩=>R9 b k hy t ht⟩
  bJ:=fun b k hz=>by
   rcases hz with hz | hz | ⟨t,ht⟩
   ·exact hT.inv.bJ b k (.inl hz)
   ·exact hT.inv.bJ b k (.inr hz)
   ·exact C.dA _ (t3.ok t) b k ht
  apart:=List.pairwise_append.2 ⟨c4,mq fun x hx=>(l3 x hx).cg,fun x _ y hy b k _ hf=>(l3 y hy).cg b k hf⟩ }
 have mP:=hk w zl _ (cs ++ l) (by rw [List.map_append,c1,l1]) hA (h.Bw _ fun b k hz=>.inl hz)
 have oo : (cs ++ l).map C.val = l'.map a.eval ++ kW:=by rw [List.map_append,c2,l2]
 rw [oo] at mP
 refine ⟨f,_,hrun,mP.mono ?_⟩
 rintro e w' ⟨r0,ps,az,hD,hkk⟩
 have td : i < ps.length:=by
  have h1:=congrArg List.length hD.vals
  have h2:=congrArg List.length oo
  simp only [List.length_map,List.length_append] at h1 h2
  have h3:=(List.getElem?_eq_some_iff.1 i2).1
  omega
 have hq : ps[i]? = some ps[i]:=List.getElem?_eq_getElem td
 have GX : ps[i]∈ps:=List.getElem_mem td
 have RU : (ps[i]).val = y.val:=by
  have : (ps.map C.val)[i]? = (l'.map a.eval ++ kW)[i]?:=by rw [hD.vals,oo]
  rw [List.getElem?_map,hq,List.getElem?_append_left (by simpa using (List.getElem?_eq_some_iff.1 i2).1),List.getElem?_map,i2] at this
  simp only [Option.map_some,Option.some.injEq] at this
  rw [this,Hg]
 have hmp : eV as (ps.map C.er) = (ps[i]).er:=by
  rw [i5]
  exact lf (by rw [List.getElem?_map,hq]; rfl) _
 rw [hmp] at hkk
 have xp:=List.mem_cons_of_mem r0 GX
 have Gy : cX w w' zl az c.zb G1 r p D y ps[i] (fun b k=>∃ x∈cs ++ l,x.fp b k) (fun b k=>∃ m∈ms,m.fp b k):={
  sub:=hsub
  yD:=Cg
  ext:=hD.ext
  mZ:=fun b k ⟨x,hx,hf⟩=>bq x hx b k hf
  ru:=gW
  zi:=C.ei (fun m b k hz=>by
   cases m with
   | own=>exact hz
   | sl=>exact hz
   | af=>exact hz.imp id fun h=>h.elim) _ (hD.all.ok _ xp)
  bare:=hD.all.bare _ xp
  val:=RU
  fp:=fun b k hf=>hD.dom _ xp b k hf
  qz:=fun b k hf=>(hD.all.fz _ xp b k hf).1
  z1:=hD.nI
  z2:=hD.nJ
  bJ:=fun b k hz=>hD.all.bJ b k (.inl hz) }
 obtain ⟨s',hKs,G',j1,j2,j3⟩:=Q6 Gy _ hkk
 have kn : ∀ b k,(∃ m∈ms,m.fp b k)→∃ t,(G t).fp b k:=fun b k ⟨m,hm,hf⟩=>(hT.all m hm).2.2.2 b k hf
 have mN : ∀ b k,(∃ x∈cs ++ l,x.fp b k)→∃ t,(G t).fp b k:=fun b k ⟨x,hx,hf⟩=>by
  rcases bq x hx b k hf with hm | hy
  ·exact kn b k hm
  ·exact ⟨r,hT.mono r b k (xx b k hy)⟩
 have h3 : St c G' az s' a w':=h.after j1 (fun t=>(j2 t).trans (hT.val t)) hD.ext mN (fun t b k hf=>by
   rcases j3 t b k hf with hq | ⟨⟨u,hu⟩,_⟩
   ·exact (Gy.fp b k hq).imp (mN b k) id
   ·exact .inl ⟨u,hT.mono u b k hu⟩) hD.nI (fun b k hz=>(hD.nJ b k hz).imp id fun hh=>hh.imp (mN b k) id)
 have qu:=List.mem_cons_self (a:=r0) (l:=ps)
 obtain ⟨G3,h4⟩:=h3.result (x:=r0) o.dst hn (hD.all.ok r0 qu) (hD.all.bare r0 qu) (fun t b k hf hf'=>by
   rcases j3 t b k hf' with hq | ⟨⟨u,hu⟩,RH⟩
   ·exact (List.pairwise_cons.1 hD.all.apart).1 _ GX b k hf hq
   ·rcases hD.dom r0 qu b k hf with ⟨x,hx,hf⟩ | hb
    ·rcases bq x hx b k hf with hm | hy
     ·exact (gW b k hm).1 u hu
     ·exact RH hy
    ·have:=C.dA _ (hT.inv.ok u) b k hu; omega) (fun b k hf=>⟨(hD.all.fz r0 qu b k hf).1,fun hz=>by
   rcases hD.dom r0 qu b k hf with ⟨x,hx,hf⟩ | hb
   ·rcases bq x hx b k hf with hm | hy
    ·exact (gW b k hm).2.2 hz
    ·exact (hT.inv.fz r b k (xx b k hy)).2 hz
   ·have:=hT.inv.bJ b k (.inr hz); omega⟩) (fun b k hf=>by
   rcases hD.dom r0 qu b k hf with hs | hb
   ·obtain ⟨t,ht⟩:=mN b k hs
    exact h.tr.dom t b k ht
   ·exact .inr (Nat.le_trans h.tr.ext.size hb))
 exact ⟨r0.val,hD.ends,(fun h=>by cases h),G3,az,_,hKs,h4⟩
end
end M
namespace M
open Go Go.RowKit
variable [Bs]
section
variable {P : Program} {c : Ctx} {G : Nat→C} {zl : Nat→Nat→Prop} {s : ag} {a : Act} {w : World} {o : Oper} {K : ag→Prop}
theorem Bg {x : C} {m : Md} {xs : List X} (h : x.er = .ptr m xs) : ∃ g o n f,x = .ptr m g o n f∧xs = (List.range n).map fun j=>(f j).er:=by
 cases x with
 | ptr m' g o n f =>
  simp only [C.er] at h
  injection h with h1 h2
  subst h1
  exact ⟨g,o,n,f,rfl,h2.symm⟩
 | _=>simp [C.er] at h
theorem Uy {m m' : Md} {z z' len len' cap cap' : Nat} {A A' : Option Ad} {e e' : Nat→Nat→C} (h : (C.row m z A len cap e).val = (C.row m' z' A' len' cap' e').val) : A = A'∧len = len'∧cap = cap':=by
 simp only [C.val] at h
 injection h with h1 h2 h3
 refine ⟨?_,h2,h3⟩
 cases A with
 | none=>cases A' with
  | none=>rfl
  | some q=>simp at h1
 | some q=>cases A' with
  | none=>simp at h1
  | some q' =>
   simp only [Option.map_some,Option.some.injEq,Addr.mk.injEq,and_true] at h1
   rw [show q = q' from Prod.ext h1.1 (Prod.ext h1.2.1 h1.2.2)]
theorem HV (n : Nat) (f : Nat→C) {k sz : Nat} (h : k + sz≤n) : ((List.range sz).map fun j=>(f (j + k)).er) = (((List.range n).map fun j=>(f j).er).drop k).take sz:=by
 rw [← List.map_drop,kF,← List.map_take,← List.map_take,List.take_range,Nat.min_eq_left (by omega),List.map_map]
 rfl
theorem Fb (h : St c G zl s a w) {l' : List Operand} {as : List (AV×PM)} (hc : eC l' as = true) {x : AV} {n : Nat} (ko : cJ as = some (x,n)) {f : FuncId} {fv : Option AV} (hop : nK P c zl o a w l' f fv) (hn : ∀ n,o.dst = some n→n < c.nt) (hK : nU P f o.dst as fv s K) : me P c o a w K false:=by
 obtain ⟨k1,k2⟩:=hK
 rw [ko] at k2
 simp only at k2
 obtain ⟨ms,G1,g1,g2,hT⟩:=za hc h
 have h1:=Ac h hT
 rw [← g1] at k1 k2
 have hmb : ∀ m∈ms,m.bare:=fun m hm=>(C.iR m).1 (C.pQ.1 k1 _ (List.mem_map_of_mem hm))
 obtain ⟨i,x',i1,i2,i3,i4,i5⟩:=Dl hc ko
 obtain ⟨u,u1,u2,u3⟩:=bA h1 i3
 rw [← u1] at k2
 have hval : ∀ y : C,y.val = u.val→∀ (j : Nat) (x2 : Operand),as[j]? = some (x,PM.mut n)→l'[j]? = some x2→y.val = a.eval x2:=fun y hy j x2 hj hj'=>by
  have:=i4 j x n hj
  subst this
  rw [i2] at hj'
  injection hj' with hj'
  rw [hy,u2,hj']
 cases u with
 | ref v r p =>
  obtain ⟨y',z',hs,hF,hv,m,z1,A,len,cap,e,rfl⟩:=u3.rf
  cases hF with
  | row m m' sz' A len cap e e' =>
   simp only [C.er,placeOf,q7] at k2
   split at k2
   ·rename_i z xs hlk
    obtain ⟨k2,k3,k4⟩:=k2
    simp only [look] at hlk
    rw [← h1.inv.er,C.eo,hs] at hlk
    simp only [Option.map_some,Option.some.injEq] at hlk
    obtain ⟨A2,aaz,cap2,e2,he,rfl⟩:=sK hlk
    injection he with b1 b2 b3 b4 b5 b6
    subst b1; subst b2; subst b3; subst b4; subst b5; subst b6
    have hok:=C.eL p hs (h1.inv.ok r)
    refine Dm h hc ko hop hn hT g2 hmb hs (y:=.row .own z1 A len cap e') (back:=fun y Kx=>match y with
     | .row .own z' ys=>z' = z1∧Kx (dB r p (.row .own z1 ys) (bn as s).2)
     | _=>False) hok trivial (hval _ hv) (fun b k hf=>hf) k3 (by rw [hlk]; exact k4) fun {w' az S M q} hM Kx hb=>?_
    split at hb
    ·rename_i z' ys hq
     obtain ⟨rfl,hb⟩:=hb
     obtain ⟨A3,aaA,YH,e3,rfl,rfl⟩:=sK hq
     obtain ⟨c1,c2,c3⟩:=Uy hM.val
     subst c1; subst c2; subst c3
     obtain ⟨G',j1,j2,j3⟩:=hM.row h1.inv
     exact ⟨_,hb,G',j1,j2,j3⟩
    ·exact hb.elim
   ·exact k2.elim
 | aA v r p i k =>
  obtain ⟨D,hs,hp⟩:=u3.rf
  have hok:=C.eL p hs (h1.inv.ok r)
  simp only [C.er,placeOf,q7] at k2
  have hlk : look (bn as s).2 r p = some D.er:=by
   simp only [look]
   rw [← h1.inv.er,C.eo,hs]
   rfl
  rw [hlk] at k2
  rcases hp with ⟨m,z,g,o',len,cap,e,rfl,rfl⟩ | ⟨m,g,o',nn,f',rfl,rfl,rfl⟩
  ·simp only [C.er] at k2
   cases m with
   | own =>
    simp only [C.cm] at k2
    split at k2
    ·rename_i e0 iB
     split at iB
     ·rename_i hi
      injection iB with iB
      obtain ⟨k0,k2,k3,k4⟩:=k2
      have hkn : k + n≤z:=by rw [← iB] at k0; simpa using k0
      obtain ⟨D1,D2,D3,D4,D5⟩:=hok
      have tE : (C.ptr .own g (o' + i * z + k) n fun j=>e i (j + k)).er = .ptr .own ((e0.drop k).take n):=by
       rw [← iB,← HV z (fun j=>e i j) hkn]
       rfl
      have hfr : ∀ j,j < z→w.frozen? ⟨g,o' + i * z + j,none⟩ = false∧g < w.heap.size:=fun j hj=>by
       rcases D4 rfl with ⟨hA,_⟩ | ⟨g',o2,arr,t,fz,hA,hh,hsz,hfr⟩
       ·cases hA
       ·injection hA with hA
        injection hA with e1 e2
        injection e2 with e2
        subst e1; subst e2
        refine ⟨hfr _ (by omega) ?_,(Array.getElem?_eq_some_iff.1 hh).1⟩
        have : (i + 1) * z≤cap * z:=Nat.mul_le_mul_right _ (by omega)
        rw [Nat.add_mul] at this
        omega
      have gT : g < w.heap.size:=by
       rcases D4 rfl with ⟨hA,_⟩ | ⟨g',o2,arr,t,fz,hA,hh,hsz,hfr⟩
       ·cases hA
       ·injection hA with hA
        injection hA with e1 e2
        subst e1
        exact (Array.getElem?_eq_some_iff.1 hh).1
      have lD : (C.ptr .own g (o' + i * z + k) n fun j=>e i (j + k)).ok w (Zf zl c.zb):=by
       refine ⟨fun j hj=>⟨?_,fun hm=>(hm rfl).elim,fun _=>?_⟩,gT,fun j hj=>?_,fun j hj b k' hf=>⟨fun _ hb=>?_,fun j' hj' hne=>?_⟩⟩
       ·obtain ⟨g',o2,hA,hcl,_⟩:=D2 i (j + k) hi (by omega)
        injection hA with hA
        injection hA with e1 e2
        injection e2 with e2
        subst e1; subst e2
        rw [show o' + i * z + k + j = o' + i * z + (j + k) by omega]
        exact hcl
       ·rw [show o' + i * z + k + j = o' + i * z + (j + k) by omega]
        exact (hfr (j + k) (by omega)).1
       ·obtain ⟨a1,a2,a3,a4⟩:=D3 i (j + k) hi (by omega)
        exact ⟨a1,a3,a4⟩
       ·exact (D5 i (j + k) hi (by omega) b k' hf).1 rfl o' (by rw [hb.1])
       ·exact (D5 i (j + k) hi (by omega) b k' hf).2 i (j' + k) hi (by omega) (fun e=>by simp only [Prod.mk.injEq] at e; omega)
      refine Dm h hc ko hop hn hT g2 hmb hs (back:=fun y Kx=>match y with
       | .ptr .own ys=>ys.length = n∧eK ys = true∧Kx (dB r p (.row .own z ((cD z len e).set i (e0.take k ++ ys ++ e0.drop (k + n)))) (bn as s).2)
       | _=>False) lD ((C.iR _).1 (by rw [tE]; exact k2)) (hval _ rfl) (fun b k' hf=>?_) k3 (by rw [tE]; exact k4) fun {w' az S M q} hM Kx hb=>?_
      ·obtain ⟨_,hf | ⟨j,hj,hf⟩⟩:=hf
       ·exact ⟨rfl,.inl ⟨o',by rw [hf.1]⟩⟩
       ·exact ⟨rfl,.inr ⟨i,j + k,hi,by omega,hf⟩⟩
      ·split at hb
       ·rename_i ys hq
        obtain ⟨cT,fF,kj⟩:=hb
        obtain ⟨g3,o3,n3,f3,rfl,rfl⟩:=Bg hq
        have iE:=hM.val
        simp only [C.val] at iE
        injection iE with iE
        injection iE with iE
        injection iE with c1 c2 c3
        subst c1; subst c2
        have BW : n3 = n:=by simpa using cT
        subst BW
        obtain ⟨G',j1,j2,j3⟩:=hM.elem h1.inv hi hkn (fun j hj=>Iv (zT fF _ (List.mem_map.2 ⟨j,by simpa using hj,rfl⟩)))
        rw [iB] at j1
        exact ⟨_,kj,G',j1,j2,j3⟩
       ·exact hb.elim
     ·cases iB
    ·exact k2.elim
   | sl=>exact k2.elim
   | af=>exact k2.elim
  ·simp only [C.er] at k2
   cases m with
   | own =>
    obtain ⟨k0,k2,k3,k4⟩:=k2
    have hkn : k + n≤nn:=by simpa using k0
    obtain ⟨D1,D2,D3,D4⟩:=hok
    have tE : (C.ptr .own g (o' + k) n fun j=>f' (j + k)).er = .ptr .own ((((List.range nn).map fun j=>(f' j).er).drop k).take n):=by
     rw [← HV nn f' hkn]
     rfl
    have lD : (C.ptr .own g (o' + k) n fun j=>f' (j + k)).ok w (Zf zl c.zb):=by
     refine ⟨fun j hj=>⟨?_,fun hm=>(hm rfl).elim,fun _=>?_⟩,D2,fun j hj=>D3 (j + k) (by omega),fun j hj b k' hf=>⟨fun _ hb=>?_,fun j' hj' hne=>?_⟩⟩
     ·rw [show o' + k + j = o' + (j + k) by omega]
      exact (D1 (j + k) (by omega)).1
     ·rw [show o' + k + j = o' + (j + k) by omega]
      exact (D1 (j + k) (by omega)).2.2 rfl
     ·exact (D4 (j + k) (by omega) b k' hf).1 rfl ⟨hb.1,by omega,by omega⟩
     ·exact (D4 (j + k) (by omega) b k' hf).2 (j' + k) (by omega) (by omega)
    refine Dm h hc ko hop hn hT g2 hmb hs (back:=fun y Kx=>match y with
     | .ptr .own ys=>ys.length = n∧Kx (dB r p (.ptr .own (((List.range nn).map fun j=>(f' j).er).take k ++ ys ++ ((List.range nn).map fun j=>(f' j).er).drop (k + n))) (bn as s).2)
     | _=>False) lD ((C.iR _).1 (by rw [tE]; exact k2)) (hval _ rfl) (fun b k' hf=>?_) k3 (by rw [tE]; exact k4) fun {w' az S M q} hM Kx hb=>?_
    ·obtain ⟨_,hf | ⟨j,hj,hf⟩⟩:=hf
     ·exact ⟨rfl,.inl ⟨hf.1,by omega,by omega⟩⟩
     ·exact ⟨rfl,.inr ⟨j + k,by omega,hf⟩⟩
    ·split at hb
     ·rename_i ys hq
      obtain ⟨cT,kj⟩:=hb
      obtain ⟨g3,o3,n3,f3,rfl,rfl⟩:=Bg hq
      have iE:=hM.val
      simp only [C.val] at iE
      injection iE with iE
      injection iE with iE
      injection iE with c1 c2 c3
      subst c1; subst c2
      have BW : n3 = n:=by simpa using cT
      subst BW
      obtain ⟨G',j1,j2,j3⟩:=hM.ptr h1.inv hkn
      exact ⟨_,kj,G',j1,j2,j3⟩
     ·exact hb.elim
   | sl=>exact k2.elim
   | af=>exact k2.elim
 | _=>exact k2.elim
theorem Bq {f : FuncId} (h : ax P f = true) : ∃ fn,P.funcs[f]? = some fn∧(fn.name == "runtime.NumGoroutine") = false∧fn.body.isNone = false:=by
 unfold ax at h
 split at h
 ·rename_i fn hf
  simp only [Bool.and_eq_true,Bool.not_eq_true'] at h
  exact ⟨fn,hf,h.1,h.2⟩
 ·cases h
theorem TC (h : St c G zl s a w) {f : FuncId} {fn : Func} {as' : Array Operand} {as : List (AV×PM)} {ts : Array TypeId} (ho : o.op = .call { callee:=.value (.func f),args:=as',argTypes:=ts }) (hf : P.funcs[f]? = some fn) (hname : (fn.name == "runtime.NumGoroutine") = false) (hb : fn.body.isNone = false)
  (hn : ∀ n,o.dst = some n→n < c.nt) (hc : eC as'.toList as = true) (hK : aH P (.call o.dst f as) s K) : me P c o a w K (fM as):=by
 have hop : nK P c zl o a w as'.toList f none:=⟨[],by
  simp only [execOp,ho,resolve,Act.eval,Deferred.ofValue,Sem.run_bind,Sem.run_pure,Result.andThen_ok,invoke,DJ hf hname hb]
  congr 2
  apply Array.ext'
  simp,fun _ _ _ _=>⟨[],rfl,rfl,fun _ hx=>(by cases hx)⟩⟩
 cases hm : cJ as with
 | none=>exact Fc _ h hc hm hop (fun h=>h) hn hK
 | some q =>
  have hq : fM as = false:=by
   cases hq : fM as with
   | false=>rfl
   | true=>rw [q8 hq] at hm; cases hm
  rw [hq]
  exact Fb h hc hm hop hn hK
theorem TE (h : St c G zl s a w) {x : AV} {x' : Operand} {as' : Array Operand} {as : List (AV×PM)} {ts : Array TypeId} (ho : o.op = .call { callee:=.value x',args:=as',argTypes:=ts }) (hx : aE x' x = true)
  (hn : ∀ n,o.dst = some n→n < c.nt) (hc : eC as'.toList as = true) (hK : aH P (.jZ o.dst x as) s K) : me P c o a w K (fM as):=by
 simp only [aH] at hK
 split at hK
 ·rename_i f cs he
  obtain ⟨hf,hK⟩:=hK
  obtain ⟨fn,Rh,eR,Ri⟩:=Bq hf
  obtain ⟨p,p1,p2,p3⟩:=bA h hx
  rw [he] at p1
  cases p with
  | fn g n fc =>
   simp only [C.er,X.fn.injEq] at p1
   obtain ⟨rfl,p1⟩:=p1
   have hop : nK P c zl o a w as'.toList g (some x):=⟨(List.range n).map fun j=>(fc j).val,by
    simp only [execOp,ho,resolve,← p2,C.val,Deferred.ofValue,Sem.run_bind,Sem.run_pure,Result.andThen_ok,invoke,DJ Rh eR Ri]
    congr 2
    apply Array.ext'
    simp,fun {G2 s2 aR} h2 hb hG hi=>by
    simp only [mD] at hi
    split at hi
    ·rename_i g' cs' he'
     subst hi
     obtain ⟨l,l1,l2,l3⟩:=ME h2 hb hG hx he'
     refine ⟨l,l1,?_,l3⟩
     rw [← p2] at l2
     simp only [C.val,Value.func.injEq,true_and] at l2
     exact (Array.mk.injEq _ _ ▸ l2 : _).symm
    ·exact hi.elim⟩
   cases hm : cJ as with
   | none=>exact Fc _ h hc hm hop (fun h=>h) hn hK
   | some q =>
    have hq : fM as = false:=by
     cases hq : fM as with
     | false=>rfl
     | true=>rw [q8 hq] at hm; cases hm
    rw [hq]
    exact Fb h hc hm hop hn hK
  | _=>simp [C.er] at p1
 ·exact hK.elim
end
end M
namespace M
open Go Go.RowKit
variable [Bs]
section
variable {P : Program} {c : Ctx} {G : Nat→C} {zl : Nat→Nat→Prop} {s : ag} {a : Act} {w : World} {o : Oper} {K : ag→Prop}
theorem UM {x : C} (hc : x.cell) (hs : M.bU x.er = true) : x.plain:=by
 cases x <;> first | trivial | exact hc | (simp [C.er,M.bU] at hs)
theorem Ub {x : C} (h : x.plain) : x.bare:=by
 cases x <;> first | trivial | exact h.elim
theorem UK {l : List X} (h : eK l = true) : ∀ x∈l,M.bU x = true:=by
 induction l with
 | nil=>intro x hx; cases hx
 | cons a l ih =>
  simp only [eK,Bool.and_eq_true] at h
  intro x hx
  rcases List.mem_cons.1 hx with rfl | hx
  ·exact h.1
  ·exact ih h.2 x hx
theorem An : ∀ {l' : List Operand} {l : List (AV×PM)},eC l' l = true→fM l = true→MV a l' l (l.map fun _=>.dead undef)
 | [],[],_,_=>trivial
 | x' :: l',(x,.af) :: l,hc,hq=>An (l':=l') (l:=l) (by simp only [eC,Bool.and_eq_true] at hc; exact hc.2) hq
 | x' :: l',(x,.gm n) :: l,hc,hq=>An (l':=l') (l:=l) (by simp only [eC,Bool.and_eq_true] at hc; exact hc.2) hq
 | x' :: l',(x,.mv) :: l,hc,hq=>by cases hq
 | x' :: l',(x,.mut _) :: l,hc,hq=>by cases hq
 | [],_ :: _,hc,_=>by cases hc
 | _ :: _,[],hc,_=>by cases hc
theorem MD (h : St c G zl s a w) {x' : Operand} {l' : List Operand} {x : AV} {as : List (AV×PM)} (hx : aE x' x = true) (hc : eC l' as = true) (hq : fM as = true) {f : FuncId} (hop : nK P c zl o a w (x' :: l') f none) (hn : ∀ n,o.dst = some n→n < c.nt) (hK : aH P (.iq o.dst f x as) s K) : me P c o a w K false:=by
 obtain ⟨p,p1,p2,p3⟩:=bA h hx
 simp only [aH] at hK
 rw [← p1] at hK
 cases p with
 | agg n f0 =>
  have T9 : (C.agg n f0).er = .agg (((List.range n).map f0).map C.er):=by simp only [C.er,List.map_map]; rfl
  rw [T9] at hK
  simp only at hK
  obtain ⟨k1,k3⟩:=hK
  have hcells : ∀ c'∈(List.range n).map f0,rX w zl c.zb G c':=fun c' gA=>by
   obtain ⟨j,hj,rfl⟩:=List.mem_map.1 gA
   have hj' : j < n:=by simpa using hj
   exact ⟨(p3.ok.1 j hj').1,(p3.ok.1 j hj').2,fun b k hf=>p3.cg b k ⟨j,hj',hf⟩,fun v r p e=>vJ (by rw [← e]; exact p3.rf j hj')⟩
  obtain ⟨l0,G1,e1,e2,e3,e4,e5⟩:=vG _ G s h.inv hcells
  obtain ⟨kW,hrun,sZ⟩:=hop.run
  have h1:=Ac h e4
  rw [← e1] at k1 k3
  have fY : ∀ b k,c.zb b k→(c.zb b k∨∃ t,(G1 t).fp b k):=fun b k hz=>.inl hz
  have mW : ∀ t b k,(G1 t).fp b k→(c.zb b k∨∃ t,(G1 t).fp b k):=fun t b k hf=>.inr ⟨t,hf⟩
  obtain ⟨l,q1,q2,q3⟩:=sZ h1 fY mW trivial
  have hl0 : l = []:=by simpa [j0] using q1
  subst hl0
  have hcap : kW = []:=by simpa using q2.symm
  subst hcap
  obtain ⟨sC,r1,r2,r3,r4⟩:=wm h1 fY mW (y:=.dead undef) trivial trivial hc (An hc hq) (fun x hx=>by
   obtain ⟨_,_,rfl⟩:=List.mem_map.1 hx
   exact ⟨trivial,trivial,fun b k hf=>hf.elim⟩) (mq fun x hx=>by
   obtain ⟨_,_,rfl⟩:=List.mem_map.1 hx
   exact fun b k hf=>hf) (fun i x n x' hi _=>by
    exfalso
    have hno:=q8 hq
    have : ∀ {l : List (AV×PM)} {i : Nat},l[i]? = some (x,PM.mut n)→cJ l≠none:=by
     intro l
     induction l with
     | nil=>intro i hi; simp at hi
     | cons y l ih =>
      intro i hi
      obtain ⟨y,pm⟩:=y
      cases i with
      | zero =>
       simp only [List.getElem?_cons_zero,Option.some.injEq,Prod.mk.injEq] at hi
       obtain ⟨_,rfl⟩:=hi
       simp [cJ]
      | succ i =>
       have:=ih (by simpa using hi)
       cases pm <;> simp [cJ] <;> first | exact this | skip
    exact this hi hno)
  have xj : ∀ x∈sC,∀ b k,¬ x.fp b k:=fun x hx b k hf=>by
   rcases (r3 x hx).2.2 b k hf with ⟨m,hm,hh⟩ | ⟨hh,_⟩
   ·obtain ⟨_,_,rfl⟩:=List.mem_map.1 hm
    exact hh
   ·rw [q8 hq] at hh; cases hh
  have kr : l0.length = n:=by have:=congrArg List.length e2; simpa using this
  have Hf : ∀ b k,(ey l0).fp b k→∃ m∈l0,m.fp b k:=fun b k hf=>(mo _ _ _).1 hf
  have hpl : ∀ x∈l0,x.ok w (Zf zl fun b k=>c.zb b k∨∃ t,(G1 t).fp b k):=fun x hx=>C.ei (fun m b k hz=>by
   cases m with
   | own=>exact hz
   | sl=>exact hz
   | af=>exact hz.imp id .inl) _ (e4.all x hx).1
  have hA : js w zl (fun b k=>c.zb b k∨∃ t,(G1 t).fp b k) (ey l0 :: sC):={
   ok:=fun x hx=>by
    rcases List.mem_cons.1 hx with rfl | hx
    ·exact ⟨fun j hj=>⟨C.iL (e3 _ (bY hj _)),hpl _ (bY hj _)⟩,fun j hj b k hf j' hj' hne=>ry e4.apart _ hj hj' hne hf⟩
    ·exact (r3 x hx).1
   bare:=fun x hx=>by
    rcases List.mem_cons.1 hx with rfl | hx
    ·exact fun j hj=>Ub (e3 _ (bY hj (C.dead undef)))
    ·exact (r3 x hx).2.1
   fz:=fun x hx b k hf=>by
    rcases List.mem_cons.1 hx with rfl | hx
    ·obtain ⟨m,hm,hf⟩:=Hf b k hf
     exact ⟨((e4.all m hm).2.2.1 b k hf).1,fun hz=>hz.elim ((e4.all m hm).2.2.1 b k hf).2 fun ⟨t,ht⟩=>(e4.all m hm).2.1 t b k hf ht⟩
    ·exact (xj x hx b k hf).elim
   bJ:=fun b k hz=>by
    rcases hz with hz | hz | ⟨t,ht⟩
    ·exact e4.inv.bJ b k (.inl hz)
    ·exact e4.inv.bJ b k (.inr hz)
    ·exact C.dA _ (e4.inv.ok t) b k ht
   apart:=List.pairwise_cons.2 ⟨fun x hx b k _ hf=>xj x hx b k hf,mq xj⟩ }
  have mP:=k3 w zl _ (ey l0 :: sC) (by
   rw [List.map_cons,r1,pL]
   simp only [List.map_map]
   rfl) hA (h1.Bw _ fun b k hz=>.inl hz)
  have Hh : (ey l0).val = a.eval x':=by rw [rZ,e2,← p2]; simp only [C.val,List.map_map]; rfl
  have oo : (ey l0 :: sC).map C.val = (x' :: l').map a.eval ++ []:=by rw [List.map_cons,Hh,r2]; simp
  rw [oo] at mP
  refine ⟨f,_,hrun,mP.mono ?_⟩
  rintro e w' ⟨r,ps,az,hD,hk⟩
  have hin : ∀ b k,az b k→b < w'.heap.size:=fun b k hz=>hD.all.bJ b k (.inl hz)
  have gW : ∀ b k,(∃ m∈l0,m.fp b k)→(∀ t,¬ (G1 t).fp b k)∧¬ zl b k∧¬ c.zb b k:=fun b k ⟨m,hm,hf⟩=>⟨fun t=>(e4.all m hm).2.1 t b k hf,(e4.all m hm).2.2.1 b k hf⟩
  have kg : ∀ b k,(∃ x∈ey l0 :: sC,x.fp b k)→∃ m∈l0,m.fp b k:=fun b k ⟨x,hx,hf⟩=>by
   rcases List.mem_cons.1 hx with rfl | hx
   ·exact Hf b k hf
   ·exact (xj x hx b k hf).elim
  have tG : ∀ b k,az b k→zl b k∨(∃ m∈l0,m.fp b k)∨w.heap.size≤b:=fun b k hz=>(hD.nJ b k hz).imp id fun hh=>hh.imp (kg b k) id
  have hi:=e4.inv.EG hD.ext (fun b k hs=>gW b k (kg b k hs)) hD.nI (fun b k hz=>⟨hin b k hz,fun t hf=>by
   rcases tG b k hz with hz | hm | hb
   ·exact (e4.inv.fz t b k hf).1 hz
   ·exact (gW b k hm).1 t hf
   ·have:=C.dA _ (e4.inv.ok t) b k hf; omega⟩)
  have kn : ∀ b k,(∃ m∈l0,m.fp b k)→∃ t,(G t).fp b k:=fun b k ⟨m,hm,hf⟩=>(e4.all m hm).2.2.2 b k hf
  have xm : ∀ x∈r :: ps,∀ b k,x.fp b k→(∃ m∈l0,m.fp b k)∨w.heap.size≤b:=fun x hx b k hf=>(hD.dom x hx b k hf).imp (kg b k) id
  have GU : ∀ x∈r :: ps,∀ t b k,x.fp b k→¬ (G1 t).fp b k:=fun x hx t b k hf hf'=>by
   rcases xm x hx b k hf with hm | hb
   ·exact (gW b k hm).1 t hf'
   ·have:=C.dA _ (e4.inv.ok t) b k hf'; omega
  have GW : ∀ x∈r :: ps,∀ b k,x.fp b k→¬ az b k∧¬ c.zb b k:=fun x hx b k hf=>⟨(hD.all.fz x hx b k hf).1,fun hz=>by
   rcases xm x hx b k hf with hm | hb
   ·exact (gW b k hm).2.2 hz
   ·have:=e4.inv.bJ b k (.inr hz); omega⟩
  cases ps with
  | nil=>exact hk.elim
  | cons p0 ps =>
   cases p0 with
   | agg n0 g0 =>
    simp only [List.map_cons,C.er] at hk
    obtain ⟨j1,s',j2,j3⟩:=hk
    have xl : (C.agg n0 g0)∈r :: C.agg n0 g0 :: ps:=List.mem_cons_of_mem _ (List.mem_cons_self ..)
    have hv0 : (C.agg n0 g0).val = (C.agg n f0).val:=by
     have:=congrArg List.head? hD.vals
     simp only [List.map_cons,List.head?_cons,Option.some.injEq] at this
     rw [this,Hh,p2]
    simp only [C.val,Value.agg.injEq,Array.mk.injEq,List.toArray_inj] at hv0
    have dP : n0 = n:=by have:=congrArg List.length hv0; simpa using this
    subst dP
    have B1:=hD.all.ok _ xl
    have xg : ∀ y∈(List.range n0).map g0,∀ b k,y.fp b k→(C.agg n0 g0).fp b k:=fun y hy b k hf=>by
     obtain ⟨j,hj,rfl⟩:=List.mem_map.1 hy
     exact ⟨j,by simpa using hj,hf⟩
    rw [show ((List.range n0).map fun j=>(g0 j).er) = ((List.range n0).map g0).map C.er by simp only [List.map_map]; rfl] at j1 j2
    obtain ⟨G2,g1,g2,g3⟩:=wo ((List.range n0).map f0) ((List.range n0).map g0) hi (by simp) (fun v r p hm=>e5 v r p ((hcells _ hm).weak v r p rfl)) (fun i cc y hi1 hi2=>by
     have hy : y∈(List.range n0).map g0:=List.mem_of_getElem? hi2
     obtain ⟨j,hj,rfl⟩:=List.mem_map.1 hy
     have hj' : j < n0:=by simpa using hj
     refine ⟨UM (B1.1 j hj').1 (UK j1 _ (List.mem_map_of_mem hy)),?_,C.ei (fun m b k hz=>by
      cases m with
      | own=>exact hz
      | sl=>exact hz
      | af=>exact hz.imp id fun h=>h.elim) _ (B1.1 j hj').2⟩
     have:=congrArg (fun t : List Value=>t[i]?) hv0
     rw [show ((List.range n0).map fun j=>(g0 j).val) = ((List.range n0).map g0).map C.val by simp only [List.map_map]; rfl,show ((List.range n0).map fun j=>(f0 j).val) = ((List.range n0).map f0).map C.val by simp only [List.map_map]; rfl,List.getElem?_map (l:=(List.range n0).map g0),List.getElem?_map (l:=(List.range n0).map f0),hi1,hi2] at this
     simpa using this) (fun y hy=>⟨fun t b k hf=>GU _ xl t b k (xg y hy b k hf),fun b k hf=>GW _ xl b k (xg y hy b k hf)⟩) (by
     rw [List.pairwise_map]
     refine List.Pairwise.imp_of_mem ?_ List.nodup_range
     intro i j hi hj hne b k hf
     exact B1.2 i (by simpa using hi) b k hf j (by simpa using hj) hne) j2
    have tD : ∀ b k,(∃ y∈(List.range n0).map g0,y.fp b k)→(∃ m∈l0,m.fp b k)∨w.heap.size≤b:=fun b k ⟨y,hy,hf⟩=>xm _ xl b k (xg y hy b k hf)
    have h2 : St c G2 az s' a w':=h.after g1 (fun t=>(g2 t).trans (e4.val t)) hD.ext (fun b k hs=>kn b k (kg b k hs)) (fun t b k hf=>by
     rcases g3 t b k hf with hh | hh
     ·exact .inl ⟨t,e4.mono t b k hh⟩
     ·exact (tD b k hh).imp (kn b k) id) hD.nI (fun b k hz=>(tG b k hz).imp id fun hh=>hh.imp (kn b k) id)
    have hr : r∈r :: C.agg n0 g0 :: ps:=List.mem_cons_self ..
    obtain ⟨G3,h3⟩:=h2.result (x:=r) o.dst hn (hD.all.ok r hr) (hD.all.bare r hr) (fun t b k hf hf'=>by
      rcases g3 t b k hf' with hh | ⟨y,hy,hh⟩
      ·exact GU r hr t b k hf hh
      ·exact (List.pairwise_cons.1 hD.all.apart).1 _ (List.mem_cons_self ..) b k hf (xg y hy b k hh)) (GW r hr) (fun b k hf=>by
      rcases xm r hr b k hf with hm | hb
      ·obtain ⟨t,ht⟩:=kn b k hm
       exact h.tr.dom t b k ht
      ·exact .inr (Nat.le_trans h.tr.ext.size hb))
    exact ⟨r.val,hD.ends,fun B6=>by (cases B6),G3,az,_,j3,h3⟩
   | _=>exact hk.elim
 | _=>exact hK.elim
theorem TD (h : St c G zl s a w) {f : FuncId} {fn : Func} {as' : Array Operand} {x : AV} {x' : Operand} {l' : List Operand} {as : List (AV×PM)} {ts : Array TypeId} (ho : o.op = .call { callee:=.value (.func f),args:=as',argTypes:=ts }) (hl : as'.toList = x' :: l') (hf : P.funcs[f]? = some fn) (hname : (fn.name == "runtime.NumGoroutine") = false) (hb : fn.body.isNone = false)
  (hn : ∀ n,o.dst = some n→n < c.nt) (hx : aE x' x = true) (hc : eC l' as = true) (hq : fM as = true) (hK : aH P (.iq o.dst f x as) s K) : me P c o a w K false:=by
 have hop : nK P c zl o a w (x' :: l') f none:=⟨[],by
  simp only [execOp,ho,resolve,Act.eval,Deferred.ofValue,Sem.run_bind,Sem.run_pure,Result.andThen_ok,invoke,DJ hf hname hb]
  rw [← hl]
  congr 2
  apply Array.ext'
  simp,fun _ _ _ _=>⟨[],rfl,rfl,fun _ hx=>(by cases hx)⟩⟩
 exact MD h hx hc hq hop hn hK
end
end M
namespace M
open Go Go.RowKit
variable [Bs]
section
variable {P : Program} {ops : Array Oper} {Q : Exit→Act→World→Prop}
def wpAnyQ (P : Program) (ops : Array Oper) (quiet : Nat→Bool) (Q : Exit→Act→World→Prop) : Nat→Array Bool→Act→World→Prop
 | 0,listed,a,w=>Region.ready .any ops listed = []∧Q .normal a w
 | fuel + 1,listed,a,w=>(Region.ready .any ops listed = []→Q .normal a w) ∧
  ∀ i∈Region.ready .any ops listed,wpOp P ops Q i (fun a' w'=>Rel (quiet i) w w'∧wpAnyQ P ops quiet Q fuel (listed.setIfInBounds i true) a' w') a w
theorem wpAnyQ.any {quiet : Nat→Bool} : ∀ {fuel : Nat} {listed : Array Bool} {a : Act} {w : World},wpAnyQ P ops quiet Q fuel listed a w→wpAny P .any ops Q fuel listed a w
 | 0,_,_,_,h=>h
 | fuel + 1,_,_,_,h=>⟨h.1,fun i hi=>wpOp_mono (fun _ _ h=>h.2.any) (h.2 i hi)⟩
def jX (P : Program) (ops : Array Oper) (o : Oper) (v : Value) (a : Act) (w : World) : Prop :=
 (Region.wanted o (yielded ops a.tmps) = true∧∀ w',Ext (fun _ _=>False) w w'→(execOp a.eval o).run P w' = .ok (.value v) w') ∨
 (Region.wanted o (yielded ops a.tmps) = false∧v = undef)
theorem jX.wpOp {i : Nat} {o : Oper} {v : Value} {a : Act} {w : World} (hi : ops[i]? = some o) (hy : jX P ops o v a w) {K : Act→World→Prop} (h : K (a.put o.dst v) w) : wpOp P ops Q i K a w:=by
 unfold Go.wpOp
 simp only [hi]
 rcases hy with ⟨hw,hv⟩ | ⟨hw,rfl⟩
 ·simp only [hw,if_true,Oper.wp,hv w (Ext.refl _ _),Oper.upon]; exact .inl h
 ·simp only [hw,Bool.false_eq_true,if_false]; exact h
def mc (P : Program) (ops : Array Oper) (o : Oper) (v : Value) (a : Act) : Prop :=
 (Region.wanted o (yielded ops a.tmps) = true∧∀ w',(execOp a.eval o).run P w' = .ok (.value v) w') ∨
 (Region.wanted o (yielded ops a.tmps) = false∧v = undef)
theorem mc.later {o : Oper} {v : Value} {a : Act} (h : mc P ops o v a) (w : World) : jX P ops o v a w:=h.imp (fun h=>⟨h.1,fun w' _=>h.2 w'⟩) id
def vZ (ops : Array Oper) (o : Oper) (a a' : Act) : Prop:=execOp a'.eval o = execOp a.eval o∧Region.wanted o (yielded ops a'.tmps) = Region.wanted o (yielded ops a.tmps)
theorem jX.same {o : Oper} {v : Value} {a a' : Act} {w w' : World} (hy : jX P ops o v a w) (h : vZ ops o a a') (hE : Ext (fun _ _=>False) w w') : jX P ops o v a' w':=by
 unfold jX
 rw [h.1,h.2]
 exact hy.imp (fun hh=>⟨hh.1,fun w2 h2=>hh.2 w2 (hE.trans h2 fun _ _ h _=>h)⟩) id
theorem mc.same {o : Oper} {v : Value} {a a' : Act} (hy : mc P ops o v a) (h : vZ ops o a a') : mc P ops o v a':=by
 unfold mc
 rw [h.1,h.2]
 exact hy
theorem I9 {j : Nat} {oi oj : Oper} {v : Value} (hj : ops[j]? = some oj) (hap : oi.apart ops oj = true) (hsi : ∀ cs b,oi.op≠.select cs b) (hsj : ∀ cs b,oj.op≠.select cs b)
  (hQ : ∀ c a w,Q (.panic c) (a.put oi.dst v) w→Q (.panic c) a w) {K : Act→World→Prop} {a : Act} {w : World} (h : wpOp P ops Q j K (a.put oi.dst v) w) :
  wpOp P ops Q j (fun a' w'=>vZ ops oi a a'∧K (a'.put oi.dst v) w') a w:=by
 obtain ⟨h1,h2,h3⟩:=Oper.apart_spec hap
 have keep : ∀ u,vZ ops oi a (a.put oj.dst u):=fun u=>⟨execOp_put oi hsi a oj.dst u h3,wanted_put oi a oj.dst u h3⟩
 have put : ∀ u,(a.put oj.dst u).put oi.dst v = (a.put oi.dst v).put oj.dst u:=fun u=>(Act.put_comm a v u h2).symm
 unfold Go.wpOp at *
 simp only [hj] at *
 rw [wanted_put oj a oi.dst v h1] at h
 by_cases hw : Region.wanted oj (yielded ops a.tmps) = true
 ·rw [if_pos hw] at h ⊢
  have iY : execOp (a.put oi.dst v).eval oj = execOp a.eval oj:=execOp_put oj hsj a oi.dst v h1
  refine h.imp (fun h=>?_) fun h=>⟨?_,h.2⟩
  ·unfold Oper.wp at *
   rw [iY] at h
   generalize (execOp a.eval oj).run P w = r at h ⊢
   match r,h with
   | .ok (.value u) w',h=>exact ⟨keep u,by rw [put]; exact h⟩
   | .ok .skip w',h=>exact ⟨keep _,by rw [put]; exact h⟩
   | .ok (.defer d) w',h =>
    refine ⟨by
     have k:=keep undef
     unfold Act.put at *
     cases hd : oj.dst <;> rw [hd] at k <;> exact ⟨k.1,k.2⟩,?_⟩
    have h' : K (({ a.put oi.dst v with defers:=d :: (a.put oi.dst v).defers } : Act).put oj.dst undef) w':=h
    rw [Act.put_defers,Act.put_comm _ v undef h2] at h'
    exact h'
   | .ok (.enter f args) w',h =>
    refine Calls.mono h fun e w'' he=>?_
    match e,he with
    | .returned u,he=>exact ⟨keep u,by rw [put]; exact he⟩
    | .panicked c,he=>exact hQ _ _ _ he
    | .outgrown,he=>exact he
   | .ok (.row row args) w',h=>exact Rows.mono h fun u w'' he=>⟨keep u,by rw [put]; exact he⟩
   | .halt (.panic u) w',h=>exact hQ _ _ _ h
  ·have:=h.1
   unfold Oper.asks at this ⊢
   rwa [iY] at this
 ·rw [if_neg hw] at h ⊢
  exact ⟨keep _,by rw [put]; exact h⟩
def Down (ops : Array Oper) (listed : Array Bool) : Prop:=∀ k ok,ops[k]? = some ok→listed.getD k false = true→∀ e∈ok.after,Region.binds .any e = true→listed.getD e.on false = true
def pW (ops : Array Oper) (t : Nat→Nat→Bool) : Bool:=(List.range ops.size).all fun j=>(List.range ops.size).all fun i=>!t j i || (match ops[j]? with
 | some oj=>oj.after.any fun e=>Region.binds .any e && (e.on == i || (decide (e.on < j) && t e.on i))
 | none=>false)
theorem DB {t : Nat→Nat→Bool} (gA : pW ops t = true) {listed : Array Bool} (hd : Down ops listed) {i : Nat} (hi : listed.getD i false = false) : ∀ (n j : Nat),j < n→j < ops.size→i < ops.size→(∀ oj,ops[j]? = some oj→∀ e∈oj.after,Region.binds .any e = true→listed.getD e.on false = true)→t j i = false
 | 0,j,hj,_,_,_=>by omega
 | n + 1,j,hj,Ry,GK,hall=>by
  cases ht : t j i with
  | false=>rfl
  | true =>
   exfalso
   have hc:=gA
   simp only [pW,List.all_eq_true,List.mem_range] at hc
   have h1:=hc j Ry i GK
   rw [ht] at h1
   simp only [Bool.not_true,Bool.false_or] at h1
   split at h1
   ·rename_i oj dY
    obtain ⟨e,he,hb⟩:=Array.any_eq_true'.1 h1
    simp only [Bool.and_eq_true,Bool.or_eq_true,beq_iff_eq,decide_eq_true_eq] at hb
    have hl:=hall oj dY e he hb.1
    rcases hb.2 with h2 | ⟨h2,h3⟩
    ·rw [h2,hi] at hl; cases hl
    ·have:=DB gA hd hi n e.on (by omega) (by omega) GK (fun oe RJ e' he' hb'=>hd e.on oe RJ hl e' he' hb')
     rw [this] at h3; cases h3
   ·cases h1
theorem Down.set {listed : Array Bool} (h : Down ops listed) {j : Nat} {oj : Oper} (hj : ops[j]? = some oj) (hall : ∀ e∈oj.after,Region.binds .any e = true→listed.getD e.on false = true) : Down ops (listed.setIfInBounds j true):=by
 intro k ok hk hl e he hb
 by_cases mQ : j = k
 ·subst mQ
  rw [hj] at hk
  injection hk with hk
  subst hk
  exact getD_set_true (hall e he hb)
 ·rw [getD_set_ne false mQ] at hl
  exact getD_set_true (h k ok hk hl e he hb)
theorem wpAnyQ_first {quiet : Nat→Bool} {i : Nat} {oi : Oper} {v : Value} (hi : ops[i]? = some oi) (hsel : ∀ (j : Nat) (o : Oper) cs b,ops[j]? = some o→o.op≠.select cs b) (hQ : ∀ c a w,Q (.panic c) (a.put oi.dst v) w→Q (.panic c) a w) {t : Nat→Nat→Bool} (eT : pW ops t = true) :
  ∀ (fuel : Nat) (listed : Array Bool) (a : Act) (w : World),
   Down ops listed→(∀ j oj,ops[j]? = some oj→j≠i→listed.getD j true = false→t j i = false→oi.apart ops oj = true∧quiet j = true) →
   i∈Region.ready .any ops listed→jX P ops oi v a w →
   wpAnyQ P ops quiet Q fuel (listed.setIfInBounds i true) (a.put oi.dst v) w→wpAnyQ P ops quiet Q (fuel + 1) listed a w:=by
 intro fuel
 induction fuel with
 | zero =>
  intro listed a w _ _ hr hy H
  refine ⟨fun h=>(by rw [h] at hr; cases hr),fun j hj=>?_⟩
  by_cases hji : j = i
  ·subst hji; exact hy.wpOp hi ⟨Rel.refl _ _,H⟩
  ·have:=ready_mono hj hji
   rw [H.1] at this
   cases this
 | succ fuel ih =>
  intro listed a w s6 hfree hr hy H
  refine ⟨fun h=>(by rw [h] at hr; cases hr),fun j hj=>?_⟩
  by_cases hji : j = i
  ·subst hji; exact hy.wpOp hi ⟨Rel.refl _ _,H⟩
  ·have h1:=H.2 j (ready_mono hj hji)
   obtain ⟨tf,oj,dY,hall⟩:=mem_ready.1 hj
   have hi0 : listed.getD i false = false:=by
    have h0:=(mem_ready.1 hr).1
    rcases Nat.lt_or_ge i listed.size with h' | h'
    ·simpa [h'] using h0
    ·simp [Array.getElem?_eq_none h']
   have hnot : t j i = false:=DB eT s6 hi0 (j + 1) j (by omega) (Array.getElem?_eq_some_iff.1 dY).1 (Array.getElem?_eq_some_iff.1 hi).1 (fun Tl lB e he hb=>by
    rw [dY] at lB
    injection lB with lB
    rw [← lB] at he
    exact hall e he hb)
   obtain ⟨hap,RT⟩:=hfree j oj dY hji tf hnot
   have h2:=I9 dY hap (fun cs b=>hsel i oi cs b hi) (fun cs b=>hsel j oj cs b dY) hQ h1
   have BP : ∀ k ok,ops[k]? = some ok→k≠i→(listed.setIfInBounds j true).getD k true = false →
     t k i = false→oi.apart ops ok = true∧quiet k = true:=fun k ok hk hki hun hno=>by
    refine hfree k ok hk hki ?_ hno
    by_cases mQ : j = k
    ·subst mQ; exact tf
    ·rw [getD_set_ne true mQ] at hun; exact hun
   refine wpOp_mono (fun a' w' ⟨hsame,hrel,h3⟩=>⟨hrel,ih (listed.setIfInBounds j true) a' w' (s6.set dY hall) BP (ready_mono hr (Ne.symm hji)) (hy.same hsame (hrel RT)) ?_⟩) h2
   rw [Array.setIfInBounds_comm _ _ hji]
   exact h3
theorem XX {quiet : Nat→Bool} {i : Nat} {oi : Oper} {v : Value} (hi : ops[i]? = some oi) (hsel : ∀ (j : Nat) (o : Oper) cs b,ops[j]? = some o→o.op≠.select cs b) (hQ : ∀ c a w,Q (.panic c) (a.put oi.dst v) w→Q (.panic c) a w) {t : Nat→Nat→Bool} (eT : pW ops t = true) :
  ∀ (fuel : Nat) (listed : Array Bool) (a : Act) (w : World),
   Down ops listed→(∀ j oj,ops[j]? = some oj→j≠i→listed.getD j true = false→t j i = false→oi.apart ops oj = true) →
   i∈Region.ready .any ops listed→mc P ops oi v a →
   wpAnyQ P ops quiet Q fuel (listed.setIfInBounds i true) (a.put oi.dst v) w→wpAnyQ P ops quiet Q (fuel + 1) listed a w:=by
 intro fuel
 induction fuel with
 | zero =>
  intro listed a w _ _ hr hy H
  refine ⟨fun h=>(by rw [h] at hr; cases hr),fun j hj=>?_⟩
  by_cases hji : j = i
  ·subst hji; exact (hy.later w).wpOp hi ⟨Rel.refl _ _,H⟩
  ·have:=ready_mono hj hji
   rw [H.1] at this
   cases this
 | succ fuel ih =>
  intro listed a w s6 hfree hr hy H
  refine ⟨fun h=>(by rw [h] at hr; cases hr),fun j hj=>?_⟩
  by_cases hji : j = i
  ·subst hji; exact (hy.later w).wpOp hi ⟨Rel.refl _ _,H⟩
  ·have h1:=H.2 j (ready_mono hj hji)
   obtain ⟨tf,oj,dY,hall⟩:=mem_ready.1 hj
   have hi0 : listed.getD i false = false:=by
    have h0:=(mem_ready.1 hr).1
    rcases Nat.lt_or_ge i listed.size with h' | h'
    ·simpa [h'] using h0
    ·simp [Array.getElem?_eq_none h']
   have hnot : t j i = false:=DB eT s6 hi0 (j + 1) j (by omega) (Array.getElem?_eq_some_iff.1 dY).1 (Array.getElem?_eq_some_iff.1 hi).1 (fun Tl lB e he hb=>by
    rw [dY] at lB
    injection lB with lB
    rw [← lB] at he
    exact hall e he hb)
   have hap:=hfree j oj dY hji tf hnot
   have h2:=I9 dY hap (fun cs b=>hsel i oi cs b hi) (fun cs b=>hsel j oj cs b dY) hQ h1
   have BP : ∀ k ok,ops[k]? = some ok→k≠i→(listed.setIfInBounds j true).getD k true = false →
     t k i = false→oi.apart ops ok = true:=fun k ok hk hki hun hno=>by
    refine hfree k ok hk hki ?_ hno
    by_cases mQ : j = k
    ·subst mQ; exact tf
    ·rw [getD_set_ne true mQ] at hun; exact hun
   refine wpOp_mono (fun a' w' ⟨hsame,hrel,h3⟩=>⟨hrel,ih (listed.setIfInBounds j true) a' w' (s6.set dY hall) BP (ready_mono hr (Ne.symm hji)) (hy.same hsame) ?_⟩) h2
   rw [Array.setIfInBounds_comm _ _ hji]
   exact h3
end
end M
namespace M
open Go Go.RowKit
variable [Bs]
def iQ (P : Program) (t : TypeId) : Option TypeId:=match P.underlying t with
 | some (.slice e)=>some e
 | _=>none
def isStr (P : Program) (t : TypeId) : Bool:=match P.underlying t with
 | some .string=>true
 | _=>false
def Cw (P : Program) (t : TypeId) : Bool:=match P.underlying t with
 | some .bool=>true
 | _=>false
def isInt (P : Program) (t : TypeId) (k : IntKind) : Bool:=match P.underlying t with
 | some (.int k')=>decide (k' = k)
 | _=>false
def iz (P : Program) (t : TypeId) (n : Nat) : Bool:=match P.info? t with
 | some i=>decide (i.size = n)
 | none=>false
def Kt : TypeDesc→Bool
 | .struct _=>true
 | .array _ _=>true
 | _=>false
def oy (P : Program) (t : TypeId) (b : Bool) : Bool:=match P.underlying t with
 | some d=>Kt d == b
 | none=>false
section
variable {P : Program} {t : TypeId}
theorem jS {e : TypeId} (h : iQ P t = some e) : P.underlying t = some (.slice e):=by
 unfold iQ at h
 split at h
 ·rename_i e' he; injection h with h; subst h; exact he
 ·cases h
theorem tW (h : isStr P t = true) : P.underlying t = some .string:=by
 unfold isStr at h
 split at h
 ·assumption
 ·cases h
theorem Sc (h : Cw P t = true) : P.underlying t = some .bool:=by
 unfold Cw at h
 split at h
 ·assumption
 ·cases h
theorem Cx {k : IntKind} (h : isInt P t k = true) : P.underlying t = some (.int k):=by
 unfold isInt at h
 split at h
 ·rename_i k' hk; rw [hk,of_decide_eq_true h]
 ·cases h
theorem mO {n : Nat} (h : iz P t n = true) : ∃ i,P.info? t = some i∧i.size = n:=by
 unfold iz at h
 split at h
 ·rename_i i hi; exact ⟨i,hi,of_decide_eq_true h⟩
 ·cases h
theorem tV {b : Bool} (h : oy P t b = true) : ∃ dd,P.underlying t = some dd∧(match dd with | .struct _=>true | .array _ _=>true | _=>false) = b:=by
 unfold oy at h
 split at h
 ·rename_i d hd
  refine ⟨d,hd,?_⟩
  rw [beq_iff_eq] at h
  rw [← h]
  cases d <;> rfl
 ·cases h
end
def cy (nt : Nat) (o : Oper) (d : Nat) : Bool:=(match o.dst with | some d'=>d' == d | none=>false) && decide (d < nt)
theorem cF {nt : Nat} {o : Oper} {d : Nat} (h : cy nt o d = true) : o.dst = some d∧d < nt:=by
 simp only [cy,Bool.and_eq_true,decide_eq_true_eq] at h
 refine ⟨?_,h.2⟩
 have:=h.1
 split at this
 ·rename_i d' hd; rw [hd]; simpa using this
 ·cases this
def rz : bE→Bool
 | .mv _ _ | .pick _ _ _ _ | .un _ _ _ | .bin _ _ _ _ | .beq _ _ _ _ | .nN _ _ _ _ _ | .nx _ _ _ | .conv _ _ _ | .text _ _ | .load _ _ _ _ | .eZ _ _ | .kZ _ _ _ | .gv _ _ _ _ _ | .mY _ _ _ _ | .cU _ _ _ | .nP _ _ _ _ _ _
 | .ext _ _ _ | .jo _ _ _ _ | .nC _ _ _ _ _ | .lR _ _ _ | .len _ _ | .nF _ _ | .mn _ _ | .mx _ _ | .oE _ _ _ _ _=>true
 | _=>false
def nA : bE→Bool
 | .bO _ _ _ | .box _ _ _ | .new _ _ | .make _ _ _ _ _ | .bytes _ _ | .lit _ _ _ _ | .build _ _ _ _=>true
 | .call _ _ as=>fM as
 | .jZ _ _ as=>fM as
 | x=>rz x
def wB (P : Program) (nt : Nat) (o : Oper) : bE→Bool
 | .mv d x=>cy nt o d && (match o.op with | .move x'=>aE x' x | .assign x'=>aE x' x | _=>false)
 | .pick d c a b=>cy nt o d && (match o.op with | .pick c' a' b'=>aE c' c && aE a' a && aE b' b | _=>false)
 | .un d op x=>cy nt o d && (match o.op with | .unOp op' _ x'=>decide (op' = op) && aE x' x | _=>false)
 | .bin d op x y=>cy nt o d && (match o.op with | .binOp op' _ x' y' _=>decide (op' = op) && aE x' x && aE y' y | _=>false)
 | .beq d neg x y=>cy nt o d && (match o.op with | .binOp op' ty x' y' _=>decide (op' = bif neg then .neq else .eql) && Cw P ty && aE x' x && aE y' y | _=>false)
 | .nx d neg x=>cy nt o d && (match o.op with | .binOp op' ty x' (.const (.slice none 0 0)) _=>decide (op' = bif neg then .neq else .eql) && (iQ P ty).isSome && aE x' x | _=>false)
 | .nN d neg ks x y=>cy nt o d && (match o.op with | .binOp op' ty x' y' _=>decide (op' = bif neg then .neq else .eql) && Bp P ty ks && aE x' x && aE y' y | _=>false)
 | .conv d k x=>cy nt o d && (match o.op with | .convert src dst x'=>(P.underlying src).isSome && isInt P dst k && aE x' x | _=>false)
 | .text d x=>cy nt o d && (match o.op with | .convert src dst x'=>(match iQ P src with | some el=>isInt P el .u8 && isStr P dst && aE x' x | none=>false) | _=>false)
 | .load d sz agg x=>cy nt o d && (match o.op with | .load ty x'=>iz P ty sz && oy P ty agg && (agg || decide (sz = 1)) && aE x' x | _=>false)
 | .oE d fz sz agg x=>cy nt o d && (match o.op with | .load ty x'=>iz P ty sz && oy P ty agg && (agg || decide (sz = 1)) && aE x' x | _=>false)
 | .eZ d x=>cy nt o d && (match o.op with | .nilCheck x'=>aE x' x | _=>false)
 | .kZ d x off=>cy nt o d && (match o.op with | .fieldAddr ty x' fi=>(match P.underlying ty with | some (.struct fs)=>(match fs[fi]? with | some f=>decide (f.offset = off) && !iz P f.type 0 && (P.info? f.type).isSome && aE x' x | none=>false) | _=>false) | _=>false)
 | .gv d x off sz agg=>cy nt o d && (match o.op with | .field ty x' fi=>(match P.underlying ty with | some (.struct fs)=>(match fs[fi]? with | some f=>decide (f.offset = off) && iz P f.type sz && oy P f.type agg && (agg || decide (sz = 1)) && aE x' x | none=>false) | _=>false) | _=>false)
 | .mY d sz x y=>cy nt o d && (match o.op with | .indexAddr ty x' y'=>(match iQ P ty with | some el=>iz P el sz && decide (0 < sz) && aE x' x && aE y' y | none=>false) | _=>false)
 | .cU d x y=>cy nt o d && (match o.op with | .index ty x' y'=>isStr P ty && aE x' x && aE y' y | _=>false)
 | .nP d n sz agg x y=>cy nt o d && (match o.op with | .index ty x' y'=>(match P.underlying ty with | some (.array n' el)=>decide (n' = n) && iz P el sz && oy P el agg && (agg || decide (sz = 1)) && aE x' x && aE y' y | _=>false) | _=>false)
 | .ext d x i=>cy nt o d && (match o.op with | .extract x' i'=>i' == i && aE x' x | _=>false)
 | .jo d x lo hi=>cy nt o d && (match o.op with | .slice ty x' lo' hi' none=>isStr P ty && aE x' x && jv lo' lo && jv hi' hi | _=>false)
 | .nC d sz x lo hi=>cy nt o d && (match o.op with | .slice ty x' lo' hi' none=>(match iQ P ty with | some el=>iz P el sz && aE x' x && jv lo' lo && jv hi' hi | none=>false) | _=>false)
 | .lR d f cs=>cy nt o d && (match o.op with | .makeFunc (.func f') fs cs'=>f' == f && fs.toList.isEmpty && iS cs'.toList cs | _=>false)
 | .len d x=>cy nt o d && (match o.op with | .call ⟨.builtin .len,as,ts⟩=>(match as.toList,ts.toList with | [x'],[ty]=>(iQ P ty).isSome && aE x' x | _,_=>false) | _=>false)
 | .nF d x=>cy nt o d && (match o.op with | .call ⟨.builtin .len,as,ts⟩=>(match as.toList,ts.toList with | [x'],[ty]=>isStr P ty && aE x' x | _,_=>false) | _=>false)
 | .mn d [x,y]=>cy nt o d && (match o.op with | .call ⟨.builtin .min,as,_⟩=>(match as.toList with | [x',y']=>aE x' x && aE y' y | _=>false) | _=>false)
 | .mx d [x,y]=>cy nt o d && (match o.op with | .call ⟨.builtin .max,as,_⟩=>(match as.toList with | [x',y']=>aE x' x && aE y' y | _=>false) | _=>false)
 | _=>false
section
variable {P : Program} {c : Ctx} {G : Nat→C} {zl : Nat→Nat→Prop} {s : ag} {a : Act} {w : World} {o : Oper} {K : ag→Prop}
theorem Gt (op : BinOp) (ty : TypeId) (p q : Operand) (a b : Option Addr) (l m n k : Nat) : eqGuard op ty p q (.slice a l m) (.slice b n k) = pure ():=by unfold eqGuard; cases op <;> rfl
theorem Us {sz len : Nat} {e : Nat→Nat→C} (h : ji (cD sz len e) = true) : 0 < len∧0 < sz:=by
 unfold cD at h
 cases len with
 | zero=>cases h
 | succ len =>
  cases sz with
  | zero=>rw [List.range_succ_eq_map] at h; cases h
  | succ sz=>exact ⟨Nat.succ_pos _,Nat.succ_pos _⟩
theorem TV (h : St c G zl s a w) {d : Nat} {neg : Bool} {ty ty' : TypeId} {e : TypeId} {x : AV} {x' : Operand} (ho : o.op = .binOp (bif neg then .neq else .eql) ty x' (.const (.slice none 0 0)) ty') (ht : P.underlying ty = some (.slice e)) (hd : o.dst = some d) (hn : d < c.nt) (hx : aE x' x = true)
  (hK : aH P (.nx d neg x) s K) : cE P c o a w K:=by
 obtain ⟨p,p1,p2,p3⟩:=bA h hx
 simp only [aH] at hK
 split at hK
 ·rename_i m z xs h1
  rw [← p1] at h1
  obtain ⟨A,len,cap,f,rfl,hxs⟩:=sK h1
  have hb : ji xs = true→(A.map fun q=>(⟨q.1,q.2.1,q.2.2⟩ : Addr)).isNone = false:=fun hc=>by
   rw [hxs] at hc
   obtain ⟨h1,h2⟩:=Us hc
   obtain ⟨g,o',hA,_⟩:=p3.ok.2.1 0 0 h1 h2
   rw [hA]; rfl
  have eH:=hK _ hb
  obtain ⟨nb,hnb⟩ : ∃ nb,(A.map fun q=>(⟨q.1,q.2.1,q.2.2⟩ : Addr)).isNone = nb:=⟨_,rfl⟩
  rw [hnb] at eH
  have hc : a.eval (.const (.slice none 0 0)) = .slice none 0 0:=rfl
  refine cI h hd hn (x:=.bool (xor neg nb)) trivial (fun _ _ _ _ _ _ e=>(by cases e)) trivial (fun w' _=>?_) eH
  cases neg
  ·simp only [execOp,ho,hc,← p2,C.val,Gt,Sem.run_bind,Sem.run_pure,Result.andThen_ok,cond_false,Lib.run_eql_slice_nil w' ty e _ _ _ _ _ ht,Bool.false_bne,hnb]
  ·simp only [execOp,ho,hc,← p2,C.val,Gt,Sem.run_bind,Sem.run_pure,Result.andThen_ok,cond_true,run_neq_slice_nil w' ty e _ _ _ ht,Bool.true_bne,hnb]
 ·exact hK.elim
theorem zh {b : Bool} {n m : Nat} (h : (b || decide (n = m)) = true) : b = true∨n = m:=by simpa using h
theorem rP {α : Type} {xs : Array α} {x : α} (h : xs.toList = [x]) : xs = #[x]:=Array.ext' h
theorem Aa {α : Type} {xs : Array α} {x y : α} (h : xs.toList = [x,y]) : xs = #[x,y]:=Array.ext' h
theorem AY (h : St c G zl s a w) {x : bE} (hc : wB P c.nt o x = true) (hK : aH P x s K) : cE P c o a w K:=by
 unfold wB at hc
 split at hc
 ·simp only [Bool.and_eq_true] at hc
  obtain ⟨hd,hn⟩:=cF hc.1
  have hc:=hc.2
  split at hc
  ·rename_i ho; exact HP h (.inl ho) hd hn hc hK
  ·rename_i ho; exact HP h (.inr ho) hd hn hc hK
  ·cases hc
 ·simp only [Bool.and_eq_true] at hc
  obtain ⟨hd,hn⟩:=cF hc.1
  have hc:=hc.2
  split at hc
  ·rename_i ho
   simp only [Bool.and_eq_true] at hc
   exact TW h ho hd hn hc.1.1 hc.1.2 hc.2 hK
  ·cases hc
 ·simp only [Bool.and_eq_true] at hc
  obtain ⟨hd,hn⟩:=cF hc.1
  have hc:=hc.2
  split at hc
  ·rename_i ho
   simp only [Bool.and_eq_true,decide_eq_true_eq] at hc
   obtain ⟨rfl,hx⟩:=hc
   exact T5 h ho hd hn hx hK
  ·cases hc
 ·simp only [Bool.and_eq_true] at hc
  obtain ⟨hd,hn⟩:=cF hc.1
  have hc:=hc.2
  split at hc
  ·rename_i ho
   simp only [Bool.and_eq_true,decide_eq_true_eq] at hc
   obtain ⟨⟨rfl,hx⟩,hy⟩:=hc
   exact Tx h ho hd hn hx hy hK
  ·cases hc
 ·simp only [Bool.and_eq_true] at hc
  obtain ⟨hd,hn⟩:=cF hc.1
  have hc:=hc.2
  split at hc
  ·rename_i ho
   simp only [Bool.and_eq_true,decide_eq_true_eq] at hc
   obtain ⟨⟨⟨rfl,ht⟩,hx⟩,hy⟩:=hc
   exact Tw h ho (Sc ht) hd hn hx hy hK
  ·cases hc
 ·simp only [Bool.and_eq_true] at hc
  obtain ⟨hd,hn⟩:=cF hc.1
  have hc:=hc.2
  split at hc
  ·rename_i ho
   simp only [Bool.and_eq_true,decide_eq_true_eq] at hc
   obtain ⟨⟨rfl,ht⟩,hx⟩:=hc
   obtain ⟨el,ht⟩:=Option.isSome_iff_exists.1 ht
   exact TV h ho (jS ht) hd hn hx hK
  ·cases hc
 ·simp only [Bool.and_eq_true] at hc
  obtain ⟨hd,hn⟩:=cF hc.1
  have hc:=hc.2
  split at hc
  ·rename_i ho
   simp only [Bool.and_eq_true,decide_eq_true_eq] at hc
   obtain ⟨⟨⟨rfl,ht⟩,hx⟩,hy⟩:=hc
   exact Ts h ho ht hd hn hx hy hK
  ·cases hc
 ·simp only [Bool.and_eq_true] at hc
  obtain ⟨hd,hn⟩:=cF hc.1
  have hc:=hc.2
  split at hc
  ·rename_i ho
   simp only [Bool.and_eq_true] at hc
   obtain ⟨⟨hs,ht⟩,hx⟩:=hc
   obtain ⟨sd,hs⟩:=Option.isSome_iff_exists.1 hs
   exact TH h ho hs (Cx ht) hd hn hx hK
  ·cases hc
 ·simp only [Bool.and_eq_true] at hc
  obtain ⟨hd,hn⟩:=cF hc.1
  have hc:=hc.2
  split at hc
  ·rename_i ho
   split at hc
   ·rename_i el hel
    simp only [Bool.and_eq_true] at hc
    exact T4 h ho (jS hel) (Cx hc.1.1) (tW hc.1.2) hd hn hc.2 hK
   ·cases hc
  ·cases hc
 ·simp only [Bool.and_eq_true] at hc
  obtain ⟨hd,hn⟩:=cF hc.1
  have hc:=hc.2
  split at hc
  ·rename_i ho
   simp only [Bool.and_eq_true] at hc
   exact HO h ho (mO hc.1.1.1) (tV hc.1.1.2) (zh hc.1.2) hd hn hc.2 hK
  ·cases hc
 ·simp only [Bool.and_eq_true] at hc
  obtain ⟨hd,hn⟩:=cF hc.1
  have hc:=hc.2
  split at hc
  ·rename_i ho
   simp only [Bool.and_eq_true] at hc
   exact TO h ho (mO hc.1.1.1) (tV hc.1.1.2) (zh hc.1.2) hd hn hc.2 hK
  ·cases hc
 ·simp only [Bool.and_eq_true] at hc
  obtain ⟨hd,hn⟩:=cF hc.1
  have hc:=hc.2
  split at hc
  ·rename_i ho; exact TF h ho hd hn hc hK
  ·cases hc
 ·simp only [Bool.and_eq_true] at hc
  obtain ⟨hd,hn⟩:=cF hc.1
  have hc:=hc.2
  split at hc
  ·rename_i ho
   split at hc
   ·rename_i fs hfs
    split at hc
    ·rename_i f hf
     simp only [Bool.and_eq_true,decide_eq_true_eq,Bool.not_eq_true'] at hc
     obtain ⟨⟨⟨h1,h2⟩,h3⟩,h4⟩:=hc
     obtain ⟨i,hi⟩:=Option.isSome_iff_exists.1 h3
     refine TJ h ho hfs hf h1 ⟨i,hi,fun h0=>?_⟩ hd hn h4 hK
     simp [iz,hi,h0] at h2
    ·cases hc
   ·cases hc
  ·cases hc
 ·simp only [Bool.and_eq_true] at hc
  obtain ⟨hd,hn⟩:=cF hc.1
  have hc:=hc.2
  split at hc
  ·rename_i ho
   split at hc
   ·rename_i fs hfs
    split at hc
    ·rename_i f hf
     simp only [Bool.and_eq_true,decide_eq_true_eq] at hc
     obtain ⟨⟨⟨⟨h1,h2⟩,h3⟩,h4⟩,h5⟩:=hc
     exact TK h ho hfs hf h1 (mO h2) (tV h3) (zh h4) hd hn h5 hK
    ·cases hc
   ·cases hc
  ·cases hc
 ·simp only [Bool.and_eq_true] at hc
  obtain ⟨hd,hn⟩:=cF hc.1
  have hc:=hc.2
  split at hc
  ·rename_i ho
   split at hc
   ·rename_i el hel
    simp only [Bool.and_eq_true,decide_eq_true_eq] at hc
    obtain ⟨⟨⟨h1,h2⟩,h3⟩,h4⟩:=hc
    exact TL h ho (jS hel) (mO h1) h2 hd hn h3 h4 hK
   ·cases hc
  ·cases hc
 ·simp only [Bool.and_eq_true] at hc
  obtain ⟨hd,hn⟩:=cF hc.1
  have hc:=hc.2
  split at hc
  ·rename_i ho
   simp only [Bool.and_eq_true] at hc
   exact TY h ho (tW hc.1.1) hd hn hc.1.2 hc.2 hK
  ·cases hc
 ·simp only [Bool.and_eq_true] at hc
  obtain ⟨hd,hn⟩:=cF hc.1
  have hc:=hc.2
  split at hc
  ·rename_i ho
   split at hc
   ·rename_i n' el hel
    simp only [Bool.and_eq_true,decide_eq_true_eq] at hc
    obtain ⟨⟨⟨⟨⟨rfl,h2⟩,h3⟩,h4⟩,h5⟩,h6⟩:=hc
    exact Tt h ho hel (mO h2) (tV h3) (zh h4) hd hn h5 h6 hK
   ·cases hc
  ·cases hc
 ·simp only [Bool.and_eq_true] at hc
  obtain ⟨hd,hn⟩:=cF hc.1
  have hc:=hc.2
  split at hc
  ·rename_i ho
   simp only [Bool.and_eq_true,beq_iff_eq] at hc
   obtain ⟨rfl,hx⟩:=hc
   exact TI h ho hd hn hx hK
  ·cases hc
 ·simp only [Bool.and_eq_true] at hc
  obtain ⟨hd,hn⟩:=cF hc.1
  have hc:=hc.2
  split at hc
  ·rename_i ho
   simp only [Bool.and_eq_true] at hc
   obtain ⟨⟨⟨h1,h2⟩,h3⟩,h4⟩:=hc
   exact T0 h ho (tW h1) hd hn h2 h3 h4 hK
  ·cases hc
 ·simp only [Bool.and_eq_true] at hc
  obtain ⟨hd,hn⟩:=cF hc.1
  have hc:=hc.2
  split at hc
  ·rename_i ho
   split at hc
   ·rename_i el hel
    simp only [Bool.and_eq_true] at hc
    obtain ⟨⟨⟨h1,h2⟩,h3⟩,h4⟩:=hc
    exact TX h ho (jS hel) (mO h1) hd hn h2 h3 h4 hK
   ·cases hc
  ·cases hc
 ·simp only [Bool.and_eq_true] at hc
  obtain ⟨hd,hn⟩:=cF hc.1
  have hc:=hc.2
  split at hc
  ·rename_i fs cs' ho
   simp only [Bool.and_eq_true,beq_iff_eq] at hc
   obtain ⟨⟨rfl,h2⟩,h3⟩:=hc
   have hfs : fs = #[]:=Array.ext' (List.isEmpty_iff.1 h2)
   subst hfs
   exact TQ h ho hd hn h3 hK
  ·cases hc
 ·simp only [Bool.and_eq_true] at hc
  obtain ⟨hd,hn⟩:=cF hc.1
  have hc:=hc.2
  split at hc
  ·rename_i as ts ho
   split at hc
   ·rename_i x' ty has hts
    simp only [Bool.and_eq_true] at hc
    obtain ⟨el,hel⟩:=Option.isSome_iff_exists.1 hc.1
    rw [rP has,rP hts] at ho
    exact TM h ho (jS hel) hd hn hc.2 hK
   ·cases hc
  ·cases hc
 ·simp only [Bool.and_eq_true] at hc
  obtain ⟨hd,hn⟩:=cF hc.1
  have hc:=hc.2
  split at hc
  ·rename_i as ts ho
   split at hc
   ·rename_i x' ty has hts
    simp only [Bool.and_eq_true] at hc
    rw [rP has,rP hts] at ho
    exact TZ h ho (tW hc.1) hd hn hc.2 hK
   ·cases hc
  ·cases hc
 ·simp only [Bool.and_eq_true] at hc
  obtain ⟨hd,hn⟩:=cF hc.1
  have hc:=hc.2
  split at hc
  ·rename_i as ts ho
   split at hc
   ·rename_i x' y' has
    simp only [Bool.and_eq_true] at hc
    rw [Aa has] at ho
    exact TR h ho hd hn hc.1 hc.2 hK
   ·cases hc
  ·cases hc
 ·simp only [Bool.and_eq_true] at hc
  obtain ⟨hd,hn⟩:=cF hc.1
  have hc:=hc.2
  split at hc
  ·rename_i as ts ho
   split at hc
   ·rename_i x' y' has
    simp only [Bool.and_eq_true] at hc
    rw [Aa has] at ho
    exact TS h ho hd hn hc.1 hc.2 hK
   ·cases hc
  ·cases hc
 ·cases hc
end
end M
namespace M
open Go Go.RowKit
variable [Bs]
def Step (P : Program) (c : Ctx) (o : Oper) (a : Act) (w : World) (K : ag→Prop) (q : Bool) : Prop :=
 (∃ v w',((execOp a.eval o).run P w = .ok (.value v) w'∨((execOp a.eval o).run P w = .ok .skip w'∧v = undef))∧Rel q w w'∧∃ G' az s',K s'∧St c G' az s' (a.put o.dst v) w')∨me P c o a w K q
section
variable {P : Program} {c : Ctx} {G : Nat→C} {zl : Nat→Nat→Prop} {s : ag} {a : Act} {w : World} {o : Oper} {K : ag→Prop}
theorem Good.step (h : Good P c o a w K) : Step P c o a w K false:=by
 obtain ⟨v,w',hr,h⟩:=h
 exact .inl ⟨v,w',hr,fun hq=>by (cases hq),h⟩
theorem gi.step (h : gi P c o a w K) (q : Bool) : Step P c o a w K q:=by
 obtain ⟨v,w',hr,hE,h⟩:=h
 exact .inl ⟨v,w',.inl hr,fun _=>hE,h⟩
theorem Step.wp {q : Bool} (h : Step P c o a w K q) (Q : Exit→Act→World→Prop) : o.wp P a w (fun a' w'=>Rel q w w'∧∃ G' az s',K s'∧St c G' az s' a' w') Q:=by
 unfold Oper.wp
 rcases h with ⟨v,w',hr,hq,h⟩ | ⟨f,args,hr,hc⟩
 ·rcases hr with hr | ⟨hr,rfl⟩
  ·rw [hr]; exact ⟨hq,h⟩
  ·rw [hr]; exact ⟨hq,h⟩
 ·rw [hr]
  refine Calls.mono hc fun e w' he=>?_
  obtain ⟨v,rfl,hq,h⟩:=he
  exact ⟨hq,h⟩
def Er (P : Program) (t : TypeId) (sz bytes : Nat) (z : List X) : Bool:=match P.info? t with
 | some i=>decide (i.size = sz) && decide (i.bytes = bytes) && (match i.zero with | some v=>jw v.cells.toList z | none=>false)
 | none=>false
theorem X7 {t : TypeId} {sz bytes : Nat} {z : List X} (h : Er P t sz bytes z = true) : ∃ i v,P.info? t = some i∧i.size = sz∧i.bytes = bytes∧i.zero = some v∧jw v.cells.toList z = true:=by
 unfold Er at h
 split at h
 ·rename_i i hi
  simp only [Bool.and_eq_true,decide_eq_true_eq] at h
  obtain ⟨⟨h1,h2⟩,h3⟩:=h
  split at h3
  ·rename_i v hv; exact ⟨i,v,hi,h1,h2,hv,h3⟩
  ·cases h3
 ·cases h
def Eu (P : Program) (t : TypeId) (sz bytes : Nat) : Bool:=match P.info? t with
 | some i=>decide (i.size = sz) && decide (i.bytes = bytes) && (match i.zero with | some v=>decide (v.cells.size = sz) | none=>false)
 | none=>false
theorem Ya {t : TypeId} {sz bytes : Nat} (h : Eu P t sz bytes = true) : ∃ i v,P.info? t = some i∧i.size = sz∧i.bytes = bytes∧i.zero = some v∧v.cells.size = sz:=by
 unfold Eu at h
 split at h
 ·rename_i i hi
  simp only [Bool.and_eq_true,decide_eq_true_eq] at h
  obtain ⟨⟨h1,h2⟩,h3⟩:=h
  split at h3
  ·rename_i v hv; exact ⟨i,v,hi,h1,h2,hv,of_decide_eq_true h3⟩
  ·cases h3
 ·cases h
def Es (P : Program) (t : TypeId) (sz : Nat) : Bool:=match P.info? t with
 | some i=>decide (i.size = sz) && (match i.zero with | some v=>decide (v.cells.size = sz) | none=>false)
 | none=>false
theorem X9 {t : TypeId} {sz : Nat} (h : Es P t sz = true) : ∃ i v,P.info? t = some i∧i.size = sz∧i.zero = some v∧v.cells.size = sz:=by
 unfold Es at h
 split at h
 ·rename_i i hi
  simp only [Bool.and_eq_true,decide_eq_true_eq] at h
  obtain ⟨h1,h3⟩:=h
  split at h3
  ·rename_i v hv; exact ⟨i,v,hi,h1,hv,of_decide_eq_true h3⟩
  ·cases h3
 ·cases h
def vV (P : Program) (t : TypeId) (z : List X) : Bool:=match P.info? t with
 | some i=>(match i.zero with | some v=>jw v.cells.toList z | none=>false)
 | none=>false
theorem Et {t : TypeId} {z : List X} (h : vV P t z = true) : ∃ i v,P.info? t = some i∧i.zero = some v∧jw v.cells.toList z = true:=by
 unfold vV at h
 split at h
 ·rename_i i hi
  split at h
  ·rename_i v hv; exact ⟨i,v,hi,hv,h⟩
  ·cases h
 ·cases h
def placesOf (P : Program) (t : TypeId) : Option (List (Nat×Nat)):=match P.underlying t with
 | some (.struct fs)=>fs.toList.mapM fun f=>(P.info? f.type).map fun i=>(f.offset,i.size)
 | some (.array n e)=>(P.info? e).map fun i=>(List.range n).map fun k=>(k * i.size,i.size)
 | _=>none
theorem F2 {p q : Nat→Option (Nat×Nat)} (h : ∀ i r,p i = some r→q i = some r) : ∀ (parts : List (Nat×Value)) (cells r : Array Value),Instr.fill p cells parts = some r→Instr.fill q cells parts = some r
 | [],cells,r,hf=>hf
 | (i,v) :: rest,cells,r,hf=>by
  unfold Instr.fill at hf ⊢
  cases hp : p i with
  | none=>rw [hp] at hf; cases hf
  | some pr =>
   rw [hp] at hf
   rw [h i pr hp]
   obtain ⟨off,size⟩:=pr
   simp only at hf ⊢
   split at hf
   ·cases hf
   ·rename_i hc
    rw [if_neg hc]
    exact F2 h rest _ r hf
theorem Ua {t : TypeId} {places : List (Nat×Nat)} (hp : placesOf P t = some places) {i : TypeInfo} (hi : P.info? t = some i) {v : Value} (hz : i.zero = some v) : ∀ parts cells,Instr.fill (fun i=>places[i]?) v.cells parts = some cells→P.built t parts = some cells:=by
 intro parts cells hf
 unfold placesOf at hp
 unfold Program.built
 rw [hi]
 split at hp
 ·rename_i fs hfs
  rw [hfs]
  simp only [hz,hp]
  simpa using hf
 ·rename_i n e he
  rw [he]
  cases hie : P.info? e with
  | none=>rw [hie] at hp; cases hp
  | some ie =>
   rw [hie] at hp
   simp only [Option.map_some,Option.some.injEq] at hp
   simp only [hz,hie]
   refine F2 (fun k r hk=>?_) _ _ _ hf
   rw [← hp,C.cm] at hk
   split at hk
   ·exact hk
   ·cases hk
 ·cases hp
def sE (nt : Nat) (o : Oper) (d : Option Nat) : Bool:=match o.dst,d with
 | some d',some d=>d' == d && decide (d < nt)
 | none,none=>true
 | _,_=>false
theorem Bd {nt : Nat} {d : Option Nat} (h : sE nt o d = true) : o.dst = d∧∀ n,o.dst = some n→n < nt:=by
 unfold sE at h
 split at h
 ·rename_i d' d hd
  simp only [Bool.and_eq_true,beq_iff_eq,decide_eq_true_eq] at h
  rw [hd,h.1]
  exact ⟨rfl,fun n hn=>by injection hn with hn; rw [← hn]; exact h.2⟩
 ·rename_i hd
  rw [hd]
  exact ⟨rfl,fun n hn=>by cases hn⟩
 ·cases h
def AZ (P : Program) (nt : Nat) (o : Oper) : bE→Bool
 | .bO d h x=>cy nt o d && (match o.op with | .assign x'=>aE x' x | _=>false)
 | .box d h x=>cy nt o d && (match o.op with | .box _ x'=>aE x' x | _=>false)
 | .new d z=>cy nt o d && (match o.op with | .alloc ty=>vV P ty z | _=>false)
 | .make d sz bytes z n=>cy nt o d && (match o.op with | .makeSlice ty n1 n2=>(match iQ P ty with | some el=>Er P el sz bytes z && decide (0 < bytes) && decide (0 < sz) && decide (z.length = sz) && aE n1 n && aE n2 n | none=>false) | _=>false)
 | .bytes d x=>cy nt o d && (match o.op with | .convert src dst x'=>(match iQ P dst with | some el=>isInt P el .u8 && isStr P src && aE x' x | none=>false) | _=>false)
 | .lit d h sz ps=>cy nt o d && (match o.op with | .buildSlice ty n ps'=>(match iQ P ty with | some el=>Es P el sz && decide (0 < sz) && decide (ps'.toList.length = n) && decide (n * sz≤16777216) && sy 0 ps'.toList ps | none=>false) | _=>false)
 | .build d h z ps=>cy nt o d && (match o.op with | .build ty ps'=>(match placesOf P ty with | some places=>vV P ty z && nX places z.length ps'.toList ps | none=>false) | _=>false)
 | .store sz h y x=>(match o.dst with | none=>true | some _=>false) && (match o.op with | .store ty y' x'=>iz P ty sz && decide (0 < sz) && aE x' x && aE y' y | _=>false)
 | .app d h sz bytes x y=>cy nt o d && (match o.op with | .call ⟨.builtin .append,as,ts⟩=>(match as.toList,ts.toList with | [x',y'],[ty,ty']=>(match iQ P ty,iQ P ty' with | some el,some _=>Eu P el sz bytes && decide (0 < bytes) && decide (0 < sz) && aE x' x && aE y' y | _,_=>false) | _,_=>false) | _=>false)
 | .call d f as=>sE nt o d && (match o.op with | .call ⟨.value (.func f'),as',_⟩=>f' == f && ax P f && eC as'.toList as | _=>false)
 | .jZ d x as=>sE nt o d && (match o.op with | .call ⟨.value x',as',_⟩=>aE x' x && eC as'.toList as | _=>false)
 | .pX sz z x=>(match o.dst with | none=>true | some _=>false) && (match o.op with | .call ⟨.builtin .clear,as,ts⟩=>(match as.toList,ts.toList with | [x'],[ty]=>(match iQ P ty with | some el=>vV P el z && decide (z.length = sz) && decide (0 < sz) && aE x' x | _=>false) | _,_=>false) | _=>false)
 | .iq d f x as=>sE nt o d && (match o.op with | .call ⟨.value (.func f'),as',_⟩=>f' == f && ax P f && (match as'.toList with | x' :: l'=>aE x' x && eC l' as && fM as | []=>false) | _=>false)
 | _=>false
theorem MJ (h : St c G zl s a w) {x : bE} (hc : AZ P c.nt o x = true) (hK : aH P x s K) : Step P c o a w K (nA x):=by
 unfold AZ at hc
 split at hc
 ·simp only [Bool.and_eq_true] at hc
  obtain ⟨hd,hn⟩:=cF hc.1
  have hc:=hc.2
  split at hc
  ·rename_i ho; exact (Tv h ho hd hn hc hK).step _
  ·cases hc
 ·simp only [Bool.and_eq_true] at hc
  obtain ⟨hd,hn⟩:=cF hc.1
  have hc:=hc.2
  split at hc
  ·rename_i ho; exact (Tz h ho hd hn hc hK).step _
  ·cases hc
 ·simp only [Bool.and_eq_true] at hc
  obtain ⟨hd,hn⟩:=cF hc.1
  have hc:=hc.2
  split at hc
  ·rename_i ho
   obtain ⟨i,v,h1,h2,h3⟩:=Et hc
   exact (TU h ho h1 h2 h3 hd hn hK).step _
  ·cases hc
 ·simp only [Bool.and_eq_true] at hc
  obtain ⟨hd,hn⟩:=cF hc.1
  have hc:=hc.2
  split at hc
  ·rename_i ho
   split at hc
   ·rename_i el hel
    simp only [Bool.and_eq_true,decide_eq_true_eq] at hc
    obtain ⟨⟨⟨⟨⟨h1,h2⟩,h3⟩,h4⟩,h5⟩,h6⟩:=hc
    obtain ⟨i,v,i1,i2,i3,i4,i5⟩:=X7 h1
    exact (TP h ho (jS hel) i1 i4 i2 i3 h2 h3 h4 i5 hd hn h5 h6 hK).step _
   ·cases hc
  ·cases hc
 ·simp only [Bool.and_eq_true] at hc
  obtain ⟨hd,hn⟩:=cF hc.1
  have hc:=hc.2
  split at hc
  ·rename_i ho
   split at hc
   ·rename_i el hel
    simp only [Bool.and_eq_true] at hc
    exact (TB h ho (tW hc.1.2) (jS hel) (Cx hc.1.1) hd hn hc.2 hK).step _
   ·cases hc
  ·cases hc
 ·simp only [Bool.and_eq_true] at hc
  obtain ⟨hd,hn⟩:=cF hc.1
  have hc:=hc.2
  split at hc
  ·rename_i ho
   split at hc
   ·rename_i el hel
    simp only [Bool.and_eq_true,decide_eq_true_eq] at hc
    obtain ⟨⟨⟨⟨h1,h2⟩,h3⟩,h4⟩,h5⟩:=hc
    obtain ⟨i,v,i1,i2,i3,i4⟩:=X9 h1
    exact (TN h ho (jS hel) i1 i3 i2 h2 i4 h3 h4 hd hn h5 hK).step _
   ·cases hc
  ·cases hc
 ·simp only [Bool.and_eq_true] at hc
  obtain ⟨hd,hn⟩:=cF hc.1
  have hc:=hc.2
  split at hc
  ·rename_i ho
   split at hc
   ·rename_i places hp
    simp only [Bool.and_eq_true] at hc
    obtain ⟨i,v,i1,i2,i3⟩:=Et hc.1
    exact (TA (i:=i) h ho (Ua hp i1 i2) i3 hd hn hc.2 hK).step _
   ·cases hc
  ·cases hc
 ·simp only [Bool.and_eq_true] at hc
  obtain ⟨hd,hc⟩:=hc
  have hd : o.dst = none:=by
   split at hd
   ·assumption
   ·cases hd
  split at hc
  ·rename_i ho
   simp only [Bool.and_eq_true,decide_eq_true_eq] at hc
   obtain ⟨⟨⟨h1,h2⟩,h3⟩,h4⟩:=hc
   exact (T3 h ho (mO h1) h2 hd h3 h4 hK).step
  ·cases hc
 ·simp only [Bool.and_eq_true] at hc
  obtain ⟨hd,hn⟩:=cF hc.1
  have hc:=hc.2
  split at hc
  ·rename_i as ts ho
   split at hc
   ·rename_i x' y' ty ty' has hts
    split at hc
    ·rename_i el wH hel Rg
     simp only [Bool.and_eq_true,decide_eq_true_eq] at hc
     obtain ⟨⟨⟨⟨h1,h2⟩,h3⟩,h4⟩,h5⟩:=hc
     obtain ⟨i,v,i1,i2,i3,i4,i5⟩:=Ya h1
     rw [Aa has,Aa hts] at ho
     exact (Tu h ho (jS hel) (jS Rg) i1 i4 i2 i3 h2 h3 i5 hd hn h4 h5 hK).step
    ·cases hc
   ·cases hc
  ·cases hc
 ·simp only [Bool.and_eq_true] at hc
  obtain ⟨hd,hc⟩:=hc
  obtain ⟨hd,hn⟩:=Bd hd
  subst hd
  split at hc
  ·rename_i f' as' ts ho
   simp only [Bool.and_eq_true,beq_iff_eq] at hc
   obtain ⟨⟨rfl,h2⟩,h3⟩:=hc
   obtain ⟨fn,f1,f2,f3⟩:=Bq h2
   exact .inr (TC h ho f1 f2 f3 hn h3 hK)
  ·cases hc
 ·simp only [Bool.and_eq_true] at hc
  obtain ⟨hd,hc⟩:=hc
  obtain ⟨hd,hn⟩:=Bd hd
  subst hd
  split at hc
  ·rename_i x' as' ts ho
   simp only [Bool.and_eq_true] at hc
   exact .inr (TE h ho hc.1 hn hc.2 hK)
  ·cases hc
 ·simp only [Bool.and_eq_true] at hc
  obtain ⟨hd,hc⟩:=hc
  have hd : o.dst = none:=by
   split at hd
   ·assumption
   ·cases hd
  split at hc
  ·rename_i as ts ho
   split at hc
   ·rename_i x' ty has hts
    split at hc
    ·rename_i el hel
     simp only [Bool.and_eq_true,decide_eq_true_eq] at hc
     obtain ⟨⟨⟨h1,h2⟩,h3⟩,h4⟩:=hc
     obtain ⟨i,v,i1,i2,i3⟩:=Et h1
     rw [rP has,rP hts] at ho
     exact (TG h ho (jS hel) i1 i2 i3 h2 h3 hd h4 hK).step
    ·cases hc
   ·cases hc
  ·cases hc
 ·simp only [Bool.and_eq_true] at hc
  obtain ⟨hd,hc⟩:=hc
  obtain ⟨hd,hn⟩:=Bd hd
  subst hd
  split at hc
  ·rename_i f' as' ts ho
   simp only [Bool.and_eq_true,beq_iff_eq] at hc
   obtain ⟨⟨rfl,h2⟩,h3⟩:=hc
   obtain ⟨fn,f1,f2,f3⟩:=Bq h2
   split at h3
   ·rename_i x' l' hl
    simp only [Bool.and_eq_true] at h3
    exact .inr (TD h ho hl f1 f2 f3 hn h3.1.1 h3.1.2 h3.2 hK)
   ·cases h3
  ·cases hc
 ·cases hc
def sx (P : Program) (nt : Nat) (o : Oper) (x : bE) : Bool:=bif rz x then wB P nt o x else AZ P nt o x
theorem Fj (h : St c G zl s a w) {x : bE} (hc : sx P c.nt o x = true) (hK : aH P x s K) : Step P c o a w K (nA x):=by
 unfold sx at hc
 cases hr : rz x with
 | true=>rw [hr] at hc; exact (AY h hc hK).quiet.step _
 | false=>rw [hr] at hc; exact MJ h hc hK
end
end M
namespace M
open Go Go.RowKit
variable [Bs]
section
variable {P : Program} {c : Ctx} {G : Nat→C} {zl : Nat→Nat→Prop} {s s' : ag} {a : Act} {w : World} {K : ag→Prop} {ops : Array Oper}
theorem St.congr (h : St c G zl s a w) (he : ∀ t,get s t = get s' t) : St c G zl s' a w :=
 { h with inv:={ h.inv with er:=fun t=>(h.inv.er t).trans (he t) } }
def kX (P : Program) (nt : Nat) (ops : Array Oper) (i : Nat) (g : M.G) : Bool:=match ops[i]? with
 | some o=>(match o.guard,g.g with
  | none,none=>true
  | some (j,b),some (t,b')=>b == b' && decide (t < base) && (match ops[j]? with | some oj=>decide (oj.dst = some t) | none=>false)
  | _,_=>false) && decide (o.dst = g.o.dst) && (match g.o.dst with | some d=>decide (d < nt) | none=>true) && sx P nt o g.o
 | none=>false
def pK (c : Ctx) (K : ag→Prop) (a : Act) (w : World) : Prop:=∃ G zl s,K s∧St c G zl s a w
theorem Jc (h : St c G zl s a w) {t j : Nat} {v : Bool} (hv : get s t = .bool v) (ht : t < base) {oj : Oper} (hj : ops[j]? = some oj) (hd : oj.dst = some t) : yielded ops a.tmps j = some v:=by
 have hG:=h.inv.er t
 rw [hv] at hG
 have hc:=mK hG
 have:=h.val t ht
 rw [hc,C.val] at this
 unfold yielded
 simp only [hj,Option.bind_some,hd]
 rw [Array.getD_eq_getD_getElem?] at this
 cases ht : a.tmps[t]? with
 | none=>rw [ht] at this; simp [undef] at this
 | some u =>
  rw [ht] at this
  simp only [Option.getD_some] at this
  rw [← this]
theorem St.Ah (h : St c G zl s a w) (d : Option Nat) (hn : ∀ n,d = some n→n < c.nt) : ∃ G',St c G' zl (dL d (.ak []) s) (a.put d undef) w:=by
 cases d with
 | none=>exact ⟨G,h⟩
 | some n=>exact h.put (x:=.ak 0 fun _=>.dead undef) (hn n rfl) ⟨fun j hj=>(by omega),fun j hj=>(by omega)⟩ (fun _ _ b k ⟨j,hj,_⟩=>(by omega)) (fun b k ⟨j,hj,_⟩=>(by omega)) (fun j hj=>(by omega)) (fun b k ⟨j,hj,_⟩=>(by omega))
theorem w6 {t : Nat} {v : Bool} (hv : get s t = .bool v) : ∀ u,get s u = get ((t,.bool v) :: s) u:=fun u=>by
 rw [qi]
 split
 ·rename_i e; subst e; exact hv
 ·rfl
theorem Jd (h : St c G zl s a w) {t j : Nat} (hv : get s t = .ak []) (ht : t < base) {oj : Oper} (hj : ops[j]? = some oj) (hd : oj.dst = some t) : yielded ops a.tmps j = none:=by
 have hG:=h.inv.er t
 rw [hv] at hG
 have hval:=h.val t ht
 have : (G t).val = .tuple #[]:=by
  cases hc : G t with
  | ak n f =>
   rw [hc] at hG
   simp only [C.er,X.ak.injEq,List.map_eq_nil_iff,List.range_eq_nil] at hG
   subst hG
   rfl
  | _=>rw [hc] at hG; simp [C.er] at hG
 rw [this] at hval
 unfold yielded
 simp only [hj,Option.bind_some,hd]
 rw [Array.getD_eq_getD_getElem?] at hval
 cases ht : a.tmps[t]? with
 | none=>rfl
 | some u =>
  rw [ht] at hval
  simp only [Option.getD_some] at hval
  rw [← hval]
theorem Fh {i : Nat} {g : M.G} (h : St c G zl s a w) (hc : kX P c.nt ops i g = true) (hK : kT P g s K) (Q : Exit→Act→World→Prop) :
  wpOp P ops Q i (fun a' w'=>Rel (nA g.o) w w'∧pK c K a' w') a w:=by
 unfold kX at hc
 split at hc
 ·rename_i o ho
  simp only [Bool.and_eq_true,decide_eq_true_eq] at hc
  obtain ⟨⟨⟨hg,hd⟩,hn⟩,hop⟩:=hc
  unfold wpOp
  simp only [ho]
  obtain ⟨gg,go⟩:=g
  split at hg
  ·rename_i h1 h2
   subst h2
   have hw : Region.wanted o (yielded ops a.tmps) = true:=by simp [Region.wanted,h1]
   rw [if_pos hw]
   exact .inl ((Fj h hop hK).wp Q)
  ·rename_i j b t b' h1 h2
   subst h2
   simp only [Bool.and_eq_true,beq_iff_eq,decide_eq_true_eq] at hg
   obtain ⟨⟨rfl,ht⟩,hj⟩:=hg
   split at hj
   ·rename_i oj dY
    have hj:=of_decide_eq_true hj
    simp only [kT] at hK
    split at hK
    ·rename_i v hv
     have hy:=Jc h hv ht dY hj
     obtain ⟨k1,k2⟩:=hK
     have mV : Region.wanted o (yielded ops a.tmps) = (v == b):=by
      simp only [Region.wanted,h1,hy]
      cases v <;> cases b <;> rfl
     rw [mV]
     by_cases iD : v = b
     ·subst iD
      rw [if_pos (by simp)]
      exact .inl ((Fj (h.congr (w6 hv)) hop (k1 rfl)).wp Q)
     ·have hnb : v = !b:=by cases v <;> cases b <;> first | rfl | exact absurd rfl iD
      rw [if_neg (by simpa using iD)]
      subst hnb
      obtain ⟨G',h'⟩:=(h.congr (w6 hv)).Ah o.dst (fun n dP=>by
       rw [hd] at dP
       simp only [dP] at hn
       simpa using hn)
      rw [hd] at h' ⊢
      exact ⟨Rel.refl _ _,G',zl,_,k2 rfl,h'⟩
    ·rename_i hv
     have hy:=Jd h hv ht dY hj
     have mV : Region.wanted o (yielded ops a.tmps) = false:=by
      simp only [Region.wanted,h1,hy]
      rfl
     rw [mV,if_neg (by simp)]
     obtain ⟨G',h'⟩:=h.Ah o.dst (fun n dP=>by
      rw [hd] at dP
      simp only [dP] at hn
      simpa using hn)
     rw [hd] at h' ⊢
     exact ⟨Rel.refl _ _,G',zl,_,hK,h'⟩
    ·exact hK.elim
   ·cases hj
  ·cases hg
 ·cases hc
theorem MI {i : Nat} {g : M.G} (h : St c G zl s a w) (hc : kX P c.nt ops i g = true) (hr : rz g.o = true) (hK : kT P g s K) :
  ∃ o v,ops[i]? = some o∧jX P ops o v a w∧pK c K (a.put o.dst v) w:=by
 unfold kX at hc
 split at hc
 ·rename_i o ho
  simp only [Bool.and_eq_true,decide_eq_true_eq] at hc
  obtain ⟨⟨⟨hg,hd⟩,hn⟩,hop⟩:=hc
  obtain ⟨gg,go⟩:=g
  unfold sx at hop
  simp only at hr hop
  rw [hr] at hop
  simp only [cond_true] at hop
  refine ⟨o,?_⟩
  split at hg
  ·rename_i h1 h2
   subst h2
   have hw : Region.wanted o (yielded ops a.tmps) = true:=by simp [Region.wanted,h1]
   obtain ⟨v,hv,G',az,s',k1,k2⟩:=AY h hop hK
   exact ⟨v,ho,.inl ⟨hw,hv⟩,G',az,s',k1,k2⟩
  ·rename_i j b t b' h1 h2
   subst h2
   simp only [Bool.and_eq_true,beq_iff_eq,decide_eq_true_eq] at hg
   obtain ⟨⟨rfl,ht⟩,hj⟩:=hg
   split at hj
   ·rename_i oj dY
    have hj:=of_decide_eq_true hj
    simp only [kT] at hK
    split at hK
    ·rename_i v hv
     have hy:=Jc h hv ht dY hj
     obtain ⟨k1,k2⟩:=hK
     have mV : Region.wanted o (yielded ops a.tmps) = (v == b):=by
      simp only [Region.wanted,h1,hy]
      cases v <;> cases b <;> rfl
     by_cases iD : v = b
     ·subst iD
      obtain ⟨u,hu,G',az,s',k3,k4⟩:=AY (h.congr (w6 hv)) hop (k1 rfl)
      exact ⟨u,ho,.inl ⟨by rw [mV]; simp,hu⟩,G',az,s',k3,k4⟩
     ·have hnb : v = !b:=by cases v <;> cases b <;> first | rfl | exact absurd rfl iD
      subst hnb
      obtain ⟨G',h'⟩:=(h.congr (w6 hv)).Ah o.dst (fun n dP=>by
       rw [hd] at dP
       simp only [dP] at hn
       simpa using hn)
      refine ⟨undef,ho,.inr ⟨by rw [mV]; simp,rfl⟩,G',zl,_,k2 rfl,?_⟩
      rw [hd] at h' ⊢
      exact h'
    ·rename_i hv
     have hy:=Jd h hv ht dY hj
     have mV : Region.wanted o (yielded ops a.tmps) = false:=by
      simp only [Region.wanted,h1,hy]
      rfl
     obtain ⟨G',h'⟩:=h.Ah o.dst (fun n dP=>by
      rw [hd] at dP
      simp only [dP] at hn
      simpa using hn)
     refine ⟨undef,ho,.inr ⟨mV,rfl⟩,G',zl,_,hK,?_⟩
     rw [hd] at h' ⊢
     exact h'
    ·exact hK.elim
   ·cases hj
  ·cases hg
 ·cases hc
def gd (c : Ctx) (Q : Ex→ag→Prop) : Exit→Act→World→Prop
 | .normal,a,w=>pK c (Q .normal) a w
 | .exit id,a,w=>pK c (Q (.exit id)) a w
 | .ret,a,w=>pK c (Q .ret) a w
 | _,_,_=>False
def mF (P : Program) (nt : Nat) (ops : Array Oper) : Nat→List M.G→Bool
 | k,[]=>decide (k = ops.size)
 | k,g :: l=>kX P nt ops k g && mF P nt ops (k + 1) l
theorem HR {Q : Ex→ag→Prop} : ∀ (l : List M.G) (k : Nat) {G : Nat→C} {zl : Nat→Nat→Prop} {s : ag} {a : Act} {w : World},mF P c.nt ops k l = true→St c G zl s a w→gM P l s Q→wpOps P ops (gd c Q) (List.range' k l.length) a w
 | [],k,G,zl,s,a,w,hc,h,hK=>⟨G,zl,s,hK,h⟩
 | g :: l,k,G,zl,s,a,w,hc,h,hK=>by
  simp only [mF,Bool.and_eq_true] at hc
  rw [List.length_cons,List.range'_succ,wpOps_cons]
  refine wpOp_mono (fun a' w' ⟨_,G',az,s',k1,k2⟩=>?_) (Fh h hc.1 hK (gd c Q))
  exact HR l (k + 1) hc.2 k2 k1
theorem Fi : ∀ (l : List M.G) (k : Nat),mF P c.nt ops k l = true→k + l.length = ops.size
 | [],k,h=>by simpa [mF] using h
 | g :: l,k,h=>by
  simp only [mF,Bool.and_eq_true] at h
  have:=Fi l (k + 1) h.2
  simp only [List.length_cons]
  omega
theorem Uo {Q : Ex→ag→Prop} {l : List M.G} {id : Nat} (hc : mF P c.nt ops 0 l = true) (h : St c G zl s a w) (hK : gM P l s Q) : (Code.region id ops false).wp P (gd c Q) a w:=by
 refine wp_region ?_
 have hl:=Fi l 0 hc
 rw [List.range_eq_range',← hl,Nat.zero_add]
 exact HR l 0 hc h hK
theorem Gh (CF : List Nat) (s : ag) (t : Nat) : ∀ ks : List Nat,get (ks.map fun k=>(k,(get s k).only CF)) t = if ks.contains t then (get s t).only CF else .dead
 | []=>rfl
 | k :: ks=>by
  simp only [List.map_cons,get]
  by_cases h : k = t
  ·subst h
   simp
  ·have h1 : (k == t) = false:=by simpa using h
   have h2 : (k :: ks).contains t = ks.contains t:=by
    simp only [List.contains_cons]
    have : (t == k) = false:=by simpa using fun e=>h e.symm
    rw [this,Bool.false_or]
   rw [h1,h2,cond_false]
   exact Gh CF s t ks
theorem St.keep (h : St c G zl s a w) (ks : List Nat) : ∃ G',St c G' zl (M.keep ks s) a w:=by
 let G' : Nat→C:=fun t=>if ks.contains t then (G t).aq (C.others ks) else .dead (G t).val
 have hin : ∀ t,ks.contains t = true→G' t = (G t).aq (C.others ks):=fun t ht=>if_pos ht
 have hout : ∀ t,ks.contains t = false→G' t = .dead (G t).val:=fun t ht=>if_neg (by rw [ht]; simp)
 have hv : ∀ t,(G' t).val = (G t).val:=fun t=>by
  cases ht : ks.contains t with
  | true=>rw [hin t ht,C.fK]
  | false=>rw [hout t ht]; rfl
 have bq : ∀ t b k,(G' t).fp b k→(G t).fp b k:=fun t b k hf=>by
  cases ht : ks.contains t with
  | true=>rw [hin t ht,C.bT] at hf; exact hf
  | false=>rw [hout t ht] at hf; exact hf.elim
 refine ⟨G',h.move ⟨fun t=>?_,fun t=>?_,fun t u hne b k hf hf'=>h.inv.sep t u hne b k (bq t b k hf) (bq u b k hf'),fun t b k hf=>h.inv.fz t b k (bq t b k hf),fun t=>?_,h.inv.bJ⟩ hv (Ext.refl (fun _ _=>False) w) (fun _ _ hs=>hs.elim) (fun t b k hf=>.inl ⟨t,bq t b k hf⟩)⟩
 ·unfold M.keep
  rw [Gh]
  cases ht : ks.contains t with
  | true=>rw [hin t ht,C.uV,h.inv.er]; rfl
  | false=>rw [hout t ht]; rfl
 ·cases ht : ks.contains t with
  | true=>rw [hin t ht]; exact C.jg _ _ (h.inv.ok t)
  | false=>rw [hout t ht]; trivial
 ·cases ht : ks.contains t with
  | true =>
   rw [hin t ht]
   refine C.iO (C.others ks) (fun s' q y hk hs=>?_) _ (C.dZ _ _) (C.jN _ _ (h.inv.rf t))
   have hs' : ks.contains s' = true:=by simpa [C.others] using hk
   rw [hin s' hs']
   rcases C.self y _ q hs with ⟨z,hz,hs2⟩ | hno
   ·exact .inl ⟨_,hz.off _,C.fJ _ q _ _ (h.inv.ok s') hs2⟩
   ·exact .inr hno
  | false=>rw [hout t ht]; trivial
def wN : bE→Bool
 | .kZ _ _ _=>true
 | _=>false
theorem NC {ev : Operand→Value} {o : Oper} {ty : TypeId} {fi : Nat} {x' : Operand} {fs : Array Field} {f : Field} {i : TypeInfo} (ho : o.op = .fieldAddr ty x' fi) (hu : P.underlying ty = some (.struct fs)) (hf : fs[fi]? = some f) (hi : P.info? f.type = some i) (hi0 : i.size≠0) {v : Value} {w : World} (h : (execOp ev o).run P w = .ok (.value v) w) (w' : World) : (execOp ev o).run P w' = .ok (.value v) w':=by
 cases hv : ev x' with
 | pointer p =>
  cases p with
  | none=>simp [execOp,ho,hv,Instr.fieldAt,Instr.sureAddr,run_underlying hu,hf] at h
  | some a =>
   simp [execOp,ho,hv,Instr.fieldAt,Instr.sureAddr,run_underlying hu,hf,fieldPlace,Go.sizeOf,typeInfo,hi,hi0] at h ⊢
   exact h
 | _=>simp [execOp,ho,hv,Instr.fieldAt,Instr.sureAddr,run_underlying hu,hf] at h
theorem MH {i : Nat} {g : M.G} (hc : kX P c.nt ops i g = true) (he : wN g.o = true) {o : Oper} {v : Value} (ho : ops[i]? = some o) (hl : jX P ops o v a w) : mc P ops o v a:=by
 rcases hl with ⟨h1,h2⟩ | h
 ·refine .inl ⟨h1,?_⟩
  have h3:=h2 w (Ext.refl _ _)
  unfold kX at hc
  rw [ho] at hc
  simp only [Bool.and_eq_true] at hc
  obtain ⟨_,hop⟩:=hc
  obtain ⟨gg,go⟩:=g
  cases go <;> simp only [wN] at he <;> try (cases he)
  unfold sx at hop
  simp only [rz,cond_true] at hop
  unfold wB at hop
  simp only [Bool.and_eq_true] at hop
  have hc:=hop.2
  split at hc
  ·rename_i hfo
   split at hc
   ·rename_i fs hfs
    split at hc
    ·rename_i f hf
     simp only [Bool.and_eq_true,decide_eq_true_eq,Bool.not_eq_true'] at hc
     obtain ⟨⟨⟨h5,h6⟩,h7⟩,h8⟩:=hc
     obtain ⟨i,hi⟩:=Option.isSome_iff_exists.1 h7
     exact fun w'=>NC hfo hfs hf hi (fun h0=>by simp [iz,hi,h0] at h6) h3 w'
    ·cases hc
   ·cases hc
  ·cases hc
 ·exact .inr h
def DT.gR : DT→List Nat
 | .nil _=>[]
 | .step i _ _=>[i]
 | .alt a b=>a.gR ++ b.gR
 | .kp _ t=>t.gR
def DT.quiet : DT→Nat→Bool
 | .nil _,_=>true
 | .step i g t,j=>(if i = j then nA g.o else true) && t.quiet j
 | .alt a b,j=>a.quiet j && b.quiet j
 | .kp _ t,j=>t.quiet j
def Br (ops : Array Oper) (q : Nat→Bool) (t : Nat→Nat→Bool) (listed : Array Bool) (e : Bool) (i : Nat) : Bool:=match ops[i]? with
 | some oi=>(List.range ops.size).all fun j=>j == i || listed.getD j true || t j i || ((e || q j) && (match ops[j]? with
  | some oj=>oi.apart ops oj
  | none=>true))
 | none=>false
def dX (P : Program) (nt : Nat) (ops : Array Oper) (q : Nat→Bool) (bf : Nat→Nat→Bool) : DT→Nat→Array Bool→Bool→Bool
 | .nil _,_,listed,alt=>!alt && decide (Region.ready .any ops listed = [])
 | .step i g t,fuel,listed,alt=>(match fuel with
  | 0=>false
  | fuel + 1=>kX P nt ops i g && (!q i || nA g.o) && (alt || decide (Region.ready .any ops listed = [i]) || (rz g.o && (Region.ready .any ops listed).contains i && Br ops q bf listed (wN g.o) i)) && dX P nt ops q bf t fuel (listed.setIfInBounds i true) false)
 | .alt a b,fuel,listed,alt=>(alt || decide (Region.ready .any ops listed = a.gR ++ b.gR)) && dX P nt ops q bf a fuel listed true && dX P nt ops q bf b fuel listed true
 | .kp _ t,fuel,listed,alt=>dX P nt ops q bf t fuel listed alt
theorem Gc {q : Nat→Bool} {t : Nat→Nat→Bool} {listed : Array Bool} {i : Nat} {oi : Oper} {e : Bool} (hi : ops[i]? = some oi) (h : Br ops q t listed e i = true) (j : Nat) (oj : Oper) (hj : ops[j]? = some oj) (hne : j≠i) (hun : listed.getD j true = false) (hno : t j i = false) : oi.apart ops oj = true∧(e = true∨q j = true):=by
 simp only [Br,hi,List.all_eq_true,List.mem_range] at h
 have h1:=h j (Array.getElem?_eq_some_iff.1 hj).1
 simp only [hj,Bool.or_eq_true,beq_iff_eq,hne,false_or,hun,Bool.false_eq_true,hno,Bool.and_eq_true] at h1
 exact ⟨h1.2,h1.1⟩
theorem pG {q : Nat→Bool} {bf : Nat→Nat→Bool} (eT : pW ops bf = true) (hns : Region.noSelect ops = true) {Q : Ex→ag→Prop} : ∀ (t : DT) (fuel : Nat) (listed : Array Bool) {G : Nat→C} {zl : Nat→Nat→Prop} {s : ag} {a : Act} {w : World},Down ops listed→St c G zl s a w→eN P t s Q →
  (dX P c.nt ops q bf t fuel listed false = true→wpAnyQ P ops q (gd c Q) fuel listed a w) ∧
  ((∀ i∈t.gR,i∈Region.ready .any ops listed)→dX P c.nt ops q bf t fuel listed true = true→∃ f,fuel = f + 1∧∀ i∈t.gR,wpOp P ops (gd c Q) i (fun a' w'=>Rel (q i) w w'∧wpAnyQ P ops q (gd c Q) f (listed.setIfInBounds i true) a' w') a w)
 | .nil ks,fuel,listed,G,zl,s,a,w,hdn,h,hK=>by
  obtain ⟨G',h'⟩:=h.keep ks
  constructor
  ·intro hc
   simp only [dX,Bool.not_false,Bool.true_and,decide_eq_true_eq] at hc
   cases fuel with
   | zero=>exact ⟨hc,G',zl,_,hK,h'⟩
   | succ f=>exact ⟨fun _=>⟨G',zl,_,hK,h'⟩,by rw [hc]; intro i hi; cases hi⟩
  ·intro _ hc
   simp [dX] at hc
 | .step i g t,fuel,listed,G,zl,s,a,w,hdn,h,hK=>by
  cases fuel with
  | zero=>exact ⟨fun hc=>by simp [dX] at hc,fun _ hc=>by simp [dX] at hc⟩
  | succ f =>
   have tw : i∈Region.ready .any ops listed→Down ops (listed.setIfInBounds i true):=fun hr=>by
    obtain ⟨_,o,ho,hall⟩:=mem_ready.1 hr
    exact hdn.set ho hall
   have one : i∈Region.ready .any ops listed→dX P c.nt ops q bf t f (listed.setIfInBounds i true) false = true→kX P c.nt ops i g = true→(q i = true→nA g.o = true) →
     wpOp P ops (gd c Q) i (fun a' w'=>Rel (q i) w w'∧wpAnyQ P ops q (gd c Q) f (listed.setIfInBounds i true) a' w') a w:=fun qt ht hg hq =>
    wpOp_mono (fun a' w' ⟨hr,G',az,s',k1,k2⟩=>⟨fun tq=>hr (hq tq),(pG eT hns t f _ (tw qt) k2 k1).1 ht⟩) (Fh h hg hK (gd c Q))
   constructor
   ·intro hc
    have hc0:=hc
    simp only [dX,Bool.and_eq_true,Bool.or_eq_true,decide_eq_true_eq,Bool.false_eq_true,false_or] at hc
    obtain ⟨⟨⟨hg,hq⟩,hr⟩,ht⟩:=hc
    have kq : q i = true→nA g.o = true:=fun tq=>by rw [tq] at hq; simpa using hq
    rcases hr with hr | ⟨⟨hr,hrd⟩,jB⟩
    ·refine ⟨fun h0=>(by rw [hr] at h0; cases h0),fun j hj=>?_⟩
     rw [hr,List.mem_singleton] at hj
     subst hj
     exact one (by rw [hr]; exact List.mem_singleton.2 rfl) ht hg kq
    ·obtain ⟨o,v,ho,hl,G',az,s',k1,k2⟩:=MI h hg hr hK
     have qt : i∈Region.ready .any ops listed:=by simpa using hrd
     cases he : wN g.o with
     | true =>
      exact XX ho (Region.noSelect_spec hns) (fun _ _ _ hh=>hh.elim) eT f listed a w hdn (fun j oj hj hne hun hno=>(Gc ho jB j oj hj hne hun hno).1) qt (MH hg he ho hl) ((pG eT hns t f _ (tw qt) k2 k1).1 ht)
     | false =>
      rw [he] at jB
      exact wpAnyQ_first ho (Region.noSelect_spec hns) (fun _ _ _ hh=>hh.elim) eT f listed a w hdn (fun j oj hj hne hun hno=>(Gc ho jB j oj hj hne hun hno).imp id fun h=>h.resolve_left (by simp)) qt hl ((pG eT hns t f _ (tw qt) k2 k1).1 ht)
   ·intro BS hc
    have hc0:=hc
    simp only [dX,Bool.and_eq_true,Bool.or_eq_true,decide_eq_true_eq,true_or] at hc
    obtain ⟨⟨⟨hg,hq⟩,_⟩,ht⟩:=hc
    have kq : q i = true→nA g.o = true:=fun tq=>by rw [tq] at hq; simpa using hq
    refine ⟨f,rfl,fun j hj=>?_⟩
    rw [DT.gR,List.mem_singleton] at hj
    subst hj
    exact one (BS j (List.mem_singleton.2 rfl)) ht hg kq
 | .alt t1 t2,fuel,listed,G,zl,s,a,w,hdn,h,hK=>by
  have both : (∀ i∈t1.gR ++ t2.gR,i∈Region.ready .any ops listed)→dX P c.nt ops q bf t1 fuel listed true = true→dX P c.nt ops q bf t2 fuel listed true = true→∃ f,fuel = f + 1∧∀ i∈t1.gR ++ t2.gR,wpOp P ops (gd c Q) i (fun a' w'=>Rel (q i) w w'∧wpAnyQ P ops q (gd c Q) f (listed.setIfInBounds i true) a' w') a w:=fun hh h1 h2=>by
   obtain ⟨f,hf,i1⟩:=(pG eT hns t1 fuel listed hdn h hK.1).2 (fun i hi=>hh i (List.mem_append_left _ hi)) h1
   obtain ⟨f',hf',i2⟩:=(pG eT hns t2 fuel listed hdn h hK.2).2 (fun i hi=>hh i (List.mem_append_right _ hi)) h2
   have : f' = f:=by omega
   subst this
   exact ⟨f',hf,fun i hi=>(List.mem_append.1 hi).elim (i1 i) (i2 i)⟩
  constructor
  ·intro hc
   simp only [dX,Bool.and_eq_true,Bool.or_eq_true,decide_eq_true_eq,Bool.false_eq_true,false_or] at hc
   obtain ⟨⟨hr,h1⟩,h2⟩:=hc
   obtain ⟨f,rfl,hi⟩:=both (fun i hi=>by rw [hr]; exact hi) h1 h2
   refine ⟨fun h0=>?_,fun i hi'=>hi i (by rw [← hr]; exact hi')⟩
   exfalso
   rw [h0] at hr
   have ne : ∀ {t : DT},dX P c.nt ops q bf t (f + 1) listed true = true→t.gR≠[]:=by
    intro t
    induction t with
    | nil=>intro hh; simp [dX] at hh
    | step i g t _=>intro _ hh; cases hh
    | alt a b fj _ =>
     intro hh he
     simp only [dX,Bool.and_eq_true] at hh
     rw [DT.gR,List.append_eq_nil_iff] at he
     exact fj hh.1.2 he.1
    | kp ks t ih=>exact ih
   have:=(List.append_eq_nil_iff.1 hr.symm).1
   exact ne h1 this
  ·intro BS hc
   simp only [dX,Bool.and_eq_true,Bool.or_eq_true,decide_eq_true_eq,true_or,true_and] at hc
   exact both BS hc.1 hc.2
 | .kp ks t,fuel,listed,G,zl,s,a,w,hdn,h,hK=>by
  obtain ⟨G',h'⟩:=h.keep ks
  exact pG eT hns t fuel listed hdn h' hK
def waits (ops : Array Oper) (j i : Nat) : Bool:=((Region.before ops).getD j 0).testBit i
def AX (P : Program) (nt : Nat) (ops : Array Oper) (t : DT) : Bool:=P.follows .mixedOrders && Region.noSelect ops && pW ops (waits ops) && dX P nt ops t.quiet (waits ops) t ops.size (Array.replicate ops.size false) false
theorem Nj {Q : Ex→ag→Prop} {t : DT} {id : Nat} (hc : AX P c.nt ops t = true) (h : St c G zl s a w) (hK : eN P t s Q) : (Code.region id ops true).wp P (gd c Q) a w:=by
 simp only [AX,Bool.and_eq_true] at hc
 obtain ⟨⟨⟨hm,hns⟩,eT⟩,hc⟩:=hc
 refine wp_region_any hm ?_
 have hE : Ext (fun _ _=>False) w w.drew:=Ext.drew w _
 have h' : St c G zl s a w.drew:=h.move (h.inv.world hE fun _ _ hs=>hs.elim) (fun _=>rfl) hE (fun _ _ hs=>hs.elim) (fun t b k hf=>.inl ⟨t,hf⟩)
 have hdn : Down ops (Array.replicate ops.size false):=fun k ok _ hl=>by
  exfalso
  simp only [Array.getD_eq_getD_getElem?,Array.getElem?_replicate] at hl
  split at hl <;> simp at hl
 exact ((pG eT hns t ops.size _ hdn h' hK).1 hc).any
end
end M
namespace M
open Go Go.RowKit
variable [Bs]
section
variable {P : Program} {c : Ctx} {G : Nat→C} {zl : Nat→Nat→Prop} {s s' : ag} {a : Act} {w : World}
def eE (P : Program) (nt : Nat) : A→Code→Bool
 | .skip,.skip=>true
 | .ret,.ret=>true
 | .exit id,.exit id'=>decide (id = id')
 | .ops l,.region _ ops false=>mF P nt ops 0 l
 | .draw t,.region _ ops true=>AX P nt ops t
 | .seq a b,.seq x y=>eE P nt a x && eE P nt b y
 | .cond c a b,.cond c' x y=>aE c' c && eE P nt a x && eE P nt b y
 | .block id b,.block id' x=>decide (id = id') && eE P nt b x
 | .loop b,.loop x=>eE P nt b x
 | .pk _ b,x=>eE P nt b x
 | _,_=>false
theorem least (p : Nat→Prop) : (∃ n,p n)→∃ m,p m∧∀ k,p k→m≤k:=by
 rintro ⟨n,hn⟩
 induction n using Nat.strongRecOn with
 | _ n ih =>
  by_cases h : ∃ k,k < n∧p k
  ·obtain ⟨k,hk,hp⟩:=h
   exact ih k hk hp
  ·exact ⟨n,hn,fun k hk=>by
    rcases Nat.lt_or_ge k n with hlt | hge
    ·exact (h ⟨k,hlt,hk⟩).elim
    ·exact hge⟩
theorem MT : ∀ (t : A) (code : Code) {Q : Ex→ag→Prop} {G : Nat→C} {zl : Nat→Nat→Prop} {s : ag} {a : Act} {w : World},eE P c.nt t code = true→St c G zl s a w→cV P t s Q→code.wp P (gd c Q) a w:=by
 intro t
 induction t with
 | skip =>
  intro code Q G zl s a w hc h hK
  unfold eE at hc
  cases code <;> simp at hc
  exact wp_skip ⟨G,zl,s,hK,h⟩
 | ret =>
  intro code Q G zl s a w hc h hK
  unfold eE at hc
  cases code <;> simp at hc
  exact wp_ret ⟨G,zl,s,hK,h⟩
 | exit id =>
  intro code Q G zl s a w hc h hK
  unfold eE at hc
  cases code <;> simp at hc
  subst hc
  exact wp_exit ⟨G,zl,s,hK,h⟩
 | ops l =>
  intro code Q G zl s a w hc h hK
  unfold eE at hc
  cases code with
  | region id os d =>
   cases d with
   | false=>exact Uo hc h hK
   | true=>simp at hc
  | _=>simp at hc
 | draw t =>
  intro code Q G zl s a w hc h hK
  unfold eE at hc
  cases code with
  | region id os d =>
   cases d with
   | true =>
    exact Nj hc h hK
   | false=>simp at hc
  | _=>simp at hc
 | seq x y Cu Cv =>
  intro code Q G zl s a w hc h hK
  unfold eE at hc
  cases code with
  | seq x' y' =>
   simp only [Bool.and_eq_true] at hc
   refine wp_seq (wp_mono (Cu x' hc.1 h hK) fun e a w he=>?_)
   cases e with
   | normal =>
    obtain ⟨G,zl,s,k,h⟩:=he
    exact Cv y' hc.2 h k
   | exit id=>exact he
   | ret=>exact he
   | goto l=>exact he.elim
   | panic ch=>exact he.elim
   | outgrown=>exact he.elim
  | _=>simp at hc
 | cond cc x y Cu Cv =>
  intro code Q G zl s a w hc h hK
  unfold eE at hc
  cases code with
  | cond c' x' y' =>
   simp only [Bool.and_eq_true] at hc
   obtain ⟨⟨h1,h2⟩,h3⟩:=hc
   obtain ⟨d,e1,e2,e3⟩:=bA h h1
   simp only [cV] at hK
   split at hK
   ·rename_i b hb
    rw [← e1] at hb
    have:=mK hb
    subst this
    exact wp_cond_split (by rw [← e2]; rfl) (fun ht=>Cu x' h2 h (hK.1 ht)) (fun hf=>Cv y' h3 h (hK.2 hf))
   ·exact hK.elim
  | _=>simp at hc
 | block id b ih =>
  intro code Q G zl s a w hc h hK
  unfold eE at hc
  cases code with
  | block id' x =>
   simp only [Bool.and_eq_true,decide_eq_true_eq] at hc
   obtain ⟨rfl,hc⟩:=hc
   refine wp_block (wp_mono (ih x hc h hK) fun e a w he=>?_)
   cases e with
   | normal=>exact he
   | exit i =>
    obtain ⟨G,zl,s,k,h⟩:=he
    simp only at k
    show if i = id then gd c Q .normal a w else gd c Q (.exit i) a w
    by_cases hi : i = id
    ·subst hi
     rw [if_pos rfl]
     simp only [beq_self_eq_true,cond_true] at k
     exact ⟨G,zl,s,k,h⟩
    ·rw [if_neg hi]
     have : (i == id) = false:=by simpa using hi
     rw [this] at k
     exact ⟨G,zl,s,k,h⟩
   | ret=>exact he
   | goto l=>exact he.elim
   | panic ch=>exact he.elim
   | outgrown=>exact he.elim
  | _=>simp at hc
 | loop b ih =>
  intro code Q G zl s a w hc h hK
  unfold eE at hc
  cases code with
  | loop x =>
   obtain ⟨I,⟨n,hn⟩,RY⟩:=hK
   let J : Nat→Act→World→Prop:=fun n a w=>pK c (I n) a w
   have BU:=fun a w=>least (fun n=>J n a w)
   let μ : Act→World→Nat:=fun a w=>by
    classical exact if hh : ∃ n,J n a w then Classical.choose (BU a w hh) else 0
   have hμ : ∀ a w,(∃ n,J n a w)→J (μ a w) a w∧∀ k,J k a w→μ a w≤k:=fun a w hh=>by
    have hspec:=Classical.choose_spec (BU a w hh)
    have : μ a w = Classical.choose (BU a w hh):=dif_pos hh
    rw [this]
    exact hspec
   refine wp_loop (fun a w=>∃ n,J n a w) μ ?_ fun a w hI=>?_
   ·exact ⟨n,G,zl,s,hn,h⟩
   ·obtain ⟨⟨G1,nI,s1,k1,h1⟩,_⟩:=hμ a w hI
    refine wp_mono (ih x hc h1 (RY _ s1 k1)) fun e a' w' he=>?_
    cases e with
    | normal =>
     obtain ⟨G2,nJ,s2,⟨m,hm,QW⟩,h2⟩:=he
     have hJ : J m a' w':=⟨G2,nJ,s2,QW,h2⟩
     exact ⟨⟨m,hJ⟩,Nat.lt_of_le_of_lt ((hμ a' w' ⟨m,hJ⟩).2 m hJ) hm⟩
    | exit id=>exact he
    | ret=>exact he
    | goto l=>exact he.elim
    | panic ch=>exact he.elim
    | outgrown=>exact he.elim
  | _=>simp at hc
 | pk ks b ih =>
  intro code Q G zl s a w hc h hK
  have hc : eE P c.nt b code = true:=by
   cases b <;> cases code <;> first | exact hc | (rename_i d; cases d <;> exact hc)
  refine wp_mono (ih code hc h hK) fun e a w he=>?_
  cases e with
  | normal =>
   obtain ⟨G,zl,s,k,h⟩:=he
   obtain ⟨G',h'⟩:=h.keep ks
   exact ⟨G',zl,_,k,h'⟩
  | exit id=>exact he
  | ret=>exact he
  | goto l=>exact he.elim
  | panic ch=>exact he.elim
  | outgrown=>exact he.elim
end
end M
namespace M
open Go Go.RowKit
variable [Bs]
def vC : Nat→List X→ag
 | _,[]=>[]
 | i,x :: l=>(i,alias (base + i) [] x) :: vC (i + 1) l
def vD : Nat→List X→ag
 | _,[]=>[]
 | i,x :: l=>(base + i,x) :: vD (i + 1) l
def jt (xs : List X) : ag:=vC 0 xs ++ vD 0 xs
def X.jd : X→Bool
 | .ak _=>true
 | _=>false
def post (x : X) : X:=bif x.clean then x else .dead
inductive RV where
 | t (n : Nat)
 | c (n sz : Nat) (agg : Bool) (ty : TypeId)
def cK : List RV→ag→List X×ag
 | [],s=>([],s)
 | .t n :: l,s=>((take .mv (ai s (.t n)) s).1 :: (cK l (take .mv (ai s (.t n)) s).2).1,(cK l (take .mv (ai s (.t n)) s).2).2)
 | .c n sz agg _ :: l,s=>((match get s n with
  | .ptr .own cs=>if cs.length = sz then (bif agg then .agg (X.eJ n [] cs) else (X.eJ n [] cs).headD (.ak [])) else .ak []
  | _=>.ak []) :: (cK l (fA n [] .dead s)).1,(cK l (fA n [] .dead s)).2)
def oT : List X→X
 | [x]=>x
 | l=>.ak l
def lW : Nat→Nat→ag→List X
 | _,0,_=>[]
 | i,n + 1,s=>post (get s (base + i)) :: lW (i + 1) n s
def Ends (rs : List RV) (n : Nat) (Q : X→List X→Prop) : Ex→ag→Prop
 | .exit _,_=>False
 | _,s=>X.clean.bK (cK rs s).1 = true∧(∀ x∈(cK rs s).1,x.jd = false)∧Q (oT (cK rs s).1) (lW 0 n (cK rs s).2)
namespace C
theorem nZ : ∀ c : C,c.er.clean = true→c.bare
 | .ref _ _ _,h=>by simp [er,X.clean] at h
 | .aA _ _ _ _ _,h=>by simp [er,X.clean] at h
 | .cut _ _ _ _ _,h=>by simp [er,X.clean] at h
 | .ptr m g o n c,h=>fun j hj=>nZ (c j) (by
   simp only [er,X.clean,Bool.and_eq_true] at h
   exact gp.1 h.2 _ (List.mem_map.2 ⟨j,by simpa using hj,rfl⟩))
 | .agg n c,h=>fun j hj=>nZ (c j) (by
   simp only [er,X.clean] at h
   exact gp.1 h _ (List.mem_map.2 ⟨j,by simpa using hj,rfl⟩))
 | .ak n c,h=>fun j hj=>nZ (c j) (by
   simp only [er,X.clean] at h
   exact gp.1 h _ (List.mem_map.2 ⟨j,by simpa using hj,rfl⟩))
 | .fn f n c,h=>fun j hj=>nZ (c j) (by
   simp only [er,X.clean] at h
   exact gp.1 h _ (List.mem_map.2 ⟨j,by simpa using hj,rfl⟩))
 | .dead _,_=>trivial
 | .int _ _,_=>trivial
 | .bool _,_=>trivial
 | .str _,_=>trivial
 | .row _ _ _ _ _ _,_=>trivial
variable {w : World} {zl zb : Nat→Nat→Prop}
theorem mG : ∀ c : C,c.er.clean = true→c.ok w (Zf zl zb)→c.ok w (Zf zl fun _ _=>False)
 | .ref _ _ _,h,_=>by simp [er,X.clean] at h
 | .aA _ _ _ _ _,h,_=>by simp [er,X.clean] at h
 | .cut _ _ _ _ _,h,_=>by simp [er,X.clean] at h
 | .row m sz A len cap e,h,ho=>by
  simp only [er,X.clean,Bool.and_eq_true] at h
  obtain ⟨h1,h2,h3,h4,h5⟩:=ho
  refine ⟨h1,fun i j hi hj=>?_,fun i j hi hj=>?_,h4,h5⟩
  ·obtain ⟨g,o,q1,q2,q3⟩:=h2 i j hi hj
   refine ⟨g,o,q1,q2,fun hm=>?_⟩
   cases m with
   | own=>exact (hm rfl).elim
   | sl=>exact q3 hm
   | af=>simp at h
  ·obtain ⟨a1,a2,a3,a4⟩:=h3 i j hi hj
   exact ⟨a1,a2,a3,mG (e i j) (Fm.1 h.2 _ (List.mem_map.2 ⟨i,by simpa using hi,rfl⟩) _ (List.mem_map.2 ⟨j,by simpa using hj,rfl⟩)) a4⟩
 | .ptr m g o n c,h,ho=>by
  simp only [er,X.clean,Bool.and_eq_true] at h
  obtain ⟨h1,h2,h3,h4⟩:=ho
  refine ⟨fun j hj=>?_,h2,fun j hj=>?_,h4⟩
  ·obtain ⟨a1,a2,a3⟩:=h1 j hj
   refine ⟨a1,fun hm=>?_,a3⟩
   cases m with
   | own=>exact (hm rfl).elim
   | sl=>exact a2 hm
   | af=>simp at h
  ·obtain ⟨a1,a2,a3⟩:=h3 j hj
   exact ⟨a1,a2,mG (c j) (gp.1 h.2 _ (List.mem_map.2 ⟨j,by simpa using hj,rfl⟩)) a3⟩
 | .agg n c,h,ho=>by
  simp only [er,X.clean] at h
  exact ⟨fun j hj=>⟨(ho.1 j hj).1,mG (c j) (gp.1 h _ (List.mem_map.2 ⟨j,by simpa using hj,rfl⟩)) (ho.1 j hj).2⟩,ho.2⟩
 | .ak n c,h,ho=>by
  simp only [er,X.clean] at h
  exact ⟨fun j hj=>⟨(ho.1 j hj).1,mG (c j) (gp.1 h _ (List.mem_map.2 ⟨j,by simpa using hj,rfl⟩)) (ho.1 j hj).2⟩,ho.2⟩
 | .fn f n c,h,ho=>fun j hj=>⟨mG (c j) (by
   simp only [er,X.clean] at h
   exact gp.1 h _ (List.mem_map.2 ⟨j,by simpa using hj,rfl⟩)) (ho j hj).1,(ho j hj).2⟩
 | .dead _,_,_=>trivial
 | .int _ _,_,_=>trivial
 | .bool _,_,_=>trivial
 | .str _,_,h=>h
end C
theorem Gk (i : Nat) : ∀ (xs : List X) (r : ag) (t : Nat),get (vC i xs ++ r) t = if i≤t∧t < i + xs.length then alias (base + t) [] (xs.getD (t - i) .dead) else get r t
 | [],r,t=>by
  rw [if_neg (by simp only [List.length_nil]; omega)]; rfl
 | x :: xs,r,t=>by
  simp only [vC,List.cons_append]
  rw [qi,Gk (i + 1) xs]
  by_cases h : t = i
  ·subst h
   rw [if_pos rfl,if_pos ⟨Nat.le_refl _,by simp only [List.length_cons]; omega⟩,Nat.sub_self]
   rfl
  ·rw [if_neg h]
   by_cases h2 : i + 1≤t∧t < i + 1 + xs.length
   ·rw [if_pos h2,if_pos ⟨by omega,by simp only [List.length_cons]; omega⟩,show t - i = (t - (i + 1)) + 1 by omega]
    rfl
   ·rw [if_neg h2,if_neg (by simp only [List.length_cons]; omega)]
theorem Gl (i : Nat) : ∀ (xs : List X) (t : Nat),get (vD i xs) t = if base + i≤t∧t < base + i + xs.length then xs.getD (t - (base + i)) .dead else .dead
 | [],t=>by
  rw [if_neg (by simp only [List.length_nil]; omega)]; rfl
 | x :: xs,t=>by
  simp only [vD]
  rw [qi,Gl (i + 1) xs]
  by_cases h : t = base + i
  ·subst h
   rw [if_pos rfl,if_pos ⟨Nat.le_refl _,by simp only [List.length_cons]; omega⟩,Nat.sub_self]
   rfl
  ·rw [if_neg h]
   by_cases h2 : base + (i + 1)≤t∧t < base + (i + 1) + xs.length
   ·rw [if_pos h2,if_pos ⟨by omega,by simp only [List.length_cons]; omega⟩,show t - (base + i) = (t - (base + (i + 1))) + 1 by omega]
    rfl
   ·rw [if_neg h2,if_neg (by simp only [List.length_cons]; omega)]
theorem UT {w : World} {zl zb : Nat→Nat→Prop} {cs : List C} (h : js w zl zb cs) (gT : kQ w zl zb) {nt : Nat} (hn : cs.length≤nt) (hnt : nt≤base) :
  ∃ G,St ⟨w,fun b k=>∃ x∈cs,x.fp b k,zl,zb,nt,cs.map C.val⟩ G zl (jt (cs.map C.er)) ⟨(cs.map C.val).toArray ++ Array.replicate (nt - (cs.map C.val).toArray.size) undef,[]⟩ w:=by
 let G : Nat→C:=fun t=>if t < cs.length then (cs.getD t (.dead undef)).alias (base + t) [] else if base≤t∧t < base + cs.length then cs.getD (t - base) (.dead undef) else .dead undef
 have g1 : ∀ t,t < cs.length→G t = (cs.getD t (.dead undef)).alias (base + t) []:=fun t ht=>if_pos ht
 have g2 : ∀ t,t < cs.length→G (base + t) = cs.getD t (.dead undef):=fun t ht=>by
  show (if _ then _ else _ : C) = _
  rw [if_neg (by omega),if_pos (by omega),Nat.add_sub_cancel_left]
 have g3 : ∀ t,¬ t < cs.length→¬ (base≤t∧t < base + cs.length)→G t = .dead undef:=fun t h1 h2=>by
  show (if _ then _ else _ : C) = _
  rw [if_neg h1,if_neg h2]
 have hm : ∀ t,t < cs.length→cs.getD t (.dead undef)∈cs:=fun t ht=>bY ht _
 have wv : ∀ t,(t < cs.length∧t < base)∨(∃ u,u < cs.length∧t = base + u)∨(G t = .dead undef∧¬ t < cs.length∧¬ (base≤t∧t < base + cs.length)):=fun t=>by
  by_cases h1 : t < cs.length
  ·exact .inl ⟨h1,by omega⟩
  ·by_cases h2 : base≤t∧t < base + cs.length
   ·exact .inr (.inl ⟨t - base,by omega,by omega⟩)
   ·exact .inr (.inr ⟨g3 t h1 h2,h1,h2⟩)
 have hal : ∀ t,t < cs.length→(G t).ok w (Zf zl zb)∧(G t).rf G∧∀ b k,¬ (G t).fp b k:=fun t ht=>by
  rw [g1 t ht]
  have hx:=hm t ht
  exact C.EB (base + t) _ (g2 t ht) (h.ok _ hx) (C.mB G _ (h.bare _ hx))
 have bq : ∀ t b k,(G t).fp b k→∃ u,u < cs.length∧t = base + u∧(cs.getD u (.dead undef)).fp b k:=fun t b k hf=>by
  rcases wv t with ⟨h1,_⟩ | ⟨u,hu,rfl⟩ | ⟨h1,_⟩
  ·exact ((hal t h1).2.2 b k hf).elim
  ·rw [g2 u hu] at hf; exact ⟨u,hu,rfl,hf⟩
  ·rw [h1] at hf; exact hf.elim
 refine ⟨G,⟨⟨fun t=>?_,fun t=>?_,fun t u hne b k hf hf'=>?_,fun t b k hf=>?_,fun t=>?_,h.bJ⟩,fun t ht=>?_,?_,hnt,rfl,⟨Ext.refl _ _,fun t b k hf=>?_,fun _ _ hz=>hz,fun _ _ hz=>.inl hz,gT,fun b k hb ⟨x,hx,hf⟩=>((gT b hb).2 k).elim (h.fz x hx b k hf).1 (h.fz x hx b k hf).2⟩,fun i v hi=>?_⟩⟩
 ·have hgd : ∀ u,(cs.map C.er).getD u .dead = (cs.getD u (.dead undef)).er:=fun u=>by
   rw [List.getD_eq_getElem?_getD,List.getD_eq_getElem?_getD,List.getElem?_map]
   cases cs[u]? <;> rfl
  unfold jt
  rw [Gk,Gl,List.length_map,hgd,hgd]
  rcases wv t with ⟨h1,h2⟩ | ⟨u,hu,rfl⟩ | ⟨h1,h2,h3⟩
  ·rw [if_pos ⟨by omega,by omega⟩,g1 t h1,C.EC,Nat.sub_zero]
  ·rw [if_neg (by omega),if_pos ⟨by omega,by omega⟩,g2 u hu,show base + u - (base + 0) = u by omega]
  ·rw [if_neg (by omega),if_neg (by omega),h1]; rfl
 ·rcases wv t with ⟨h1,_⟩ | ⟨u,hu,rfl⟩ | ⟨h1,_⟩
  ·exact (hal t h1).1
  ·rw [g2 u hu]; exact h.ok _ (hm u hu)
  ·rw [h1]; trivial
 ·obtain ⟨x,hx,e1,h1⟩:=bq t b k hf
  obtain ⟨y,hy,e2,h2⟩:=bq u b k hf'
  exact ry h.apart _ hx hy (fun e=>hne (by rw [e1,e2,e])) h1 h2
 ·obtain ⟨x,hx,e1,h1⟩:=bq t b k hf
  exact h.fz _ (hm x hx) b k h1
 ·rcases wv t with ⟨h1,_⟩ | ⟨u,hu,rfl⟩ | ⟨h1,_⟩
  ·exact (hal t h1).2.1
  ·rw [g2 u hu]; exact C.mB G _ (h.bare _ (hm u hu))
  ·rw [h1]; trivial
 ·rw [Array.getD_eq_getD_getElem?,Array.getElem?_append]
  simp only [List.size_toArray,List.length_map]
  by_cases h1 : t < cs.length
  ·rw [if_pos h1,g1 t h1,C.ED,List.getElem?_toArray,List.getElem?_map,List.getElem?_eq_getElem h1,lf (List.getElem?_eq_getElem h1)]
   rfl
  ·rw [if_neg h1,g3 t h1 (by omega),Array.getElem?_replicate]
   split <;> rfl
 ·simp only [Array.size_append,List.size_toArray,List.length_map,Array.size_replicate]
  omega
 ·obtain ⟨x,hx,e1,h1⟩:=bq t b k hf
  exact .inl ⟨_,hm x hx,h1⟩
 ·simp only [List.getElem?_map] at hi
  cases hc : cs[i]? with
  | none=>rw [hc] at hi; cases hi
  | some x =>
   rw [hc] at hi
   injection hi with hi
   have hlt:=(List.getElem?_eq_some_iff.1 hc).1
   rw [g2 i hlt,lf hc,hi]
end M
namespace M
open Go Go.RowKit
variable [Bs]
def nY (P : Program) : List ResultVar→List RV→Bool
 | [],[]=>true
 | .tmp t :: l,.t t' :: l'=>t == t' && decide (t < base) && nY P l l'
 | .cell a ty :: l,.c n sz agg ty' :: l'=>a == n && decide (n < base) && ty == ty' && iz P ty sz && oy P ty agg && (agg || decide (sz = 1)) && nY P l l'
 | _,_=>false
section
variable {P : Program} {w : World}
theorem S2 (x : C) (h : x.er.jd = false) : x.dJ:=by
 cases x <;> first | trivial | (simp [C.er,X.jd] at h)
def Dr : List Value→Value
 | [v]=>v
 | l=>.tuple l.toArray
def vb (tmps : Array Value) : ResultVar→Sem Value
 | .tmp t=>pure (tmps.getD t undef)
 | .cell a t=>do loadVar t (← asAddr (tmps.getD a undef))
theorem UD {fn : Func} {vs : List Value} (tmps : Array Value) (h : (fn.results.toList.mapM (vb tmps)).run P w = .ok vs w) : (results fn tmps).run P w = .ok (Dr vs) w:=by
 unfold results
 rw [Array.mapM_eq_mapM_toList]
 rw [Sem.run_bind,Sem.run_map]
 erw [h]
 simp only [Result.andThen_ok,Sem.run_pure]
 match vs with
 | []=>rfl
 | [v]=>rfl
 | u :: v :: l=>simp [Dr]
theorem Ee {c : Ctx} {zl : Nat→Nat→Prop} {a : Act} : ∀ {l' : List ResultVar} {l : List RV},nY P l' l = true→∀ {G : Nat→C} {s : ag},St c G zl s a w→(∀ x∈(cK l s).1,x.jd = false) →
  ∃ cs G',cs.map C.er = (cK l s).1∧(l'.mapM (vb a.tmps)).run P w = .ok (cs.map C.val) w∧aW w zl c.zb G cs G' (cK l s).2
 | [],[],_,G,s,h,_=>⟨[],G,rfl,by simp,aW.nil h.inv⟩
 | .tmp t :: l',.t t' :: l,hc,G,s,h,hk=>by
  simp only [nY,Bool.and_eq_true,beq_iff_eq,decide_eq_true_eq] at hc
  obtain ⟨⟨rfl,ht⟩,hc⟩:=hc
  obtain ⟨p,p1,p2,p3⟩:=bA h (o:=.tmp t) (x:=.t t) (by simp [aE,ht])
  obtain ⟨y,G1,f1,f2,f3,f4⟩:=l9 .mv h.inv p3
  rw [p1] at f1 f4
  obtain ⟨cs,G',g1,g2,g3⟩:=Ee hc (h.rQ f4) fun x hx=>hk x (List.mem_cons_of_mem _ hx)
  refine ⟨y :: cs,G',by simp [cK,f1,g1],?_,aW.cons f4 g3⟩
  have hv : a.tmps.getD t undef = y.val:=by rw [f2,p2]; rfl
  simp only [List.mapM_cons,vb,Sem.run_bind,Sem.run_pure,Result.andThen_ok,g2,hv,List.map_cons]
 | .cell ad ty :: l',.c n sz agg ty' :: l,hc,G,s,h,hk=>by
  simp only [nY,Bool.and_eq_true,beq_iff_eq,decide_eq_true_eq] at hc
  obtain ⟨⟨⟨⟨⟨⟨rfl,ht⟩,rfl⟩,hsz⟩,jA⟩,h1⟩,hc⟩:=hc
  have hk0 : (match get s ad with
   | .ptr .own cs=>if cs.length = sz then (bif agg then .agg (X.eJ ad [] cs) else (X.eJ ad [] cs).headD (.ak [])) else .ak []
   | _=>.ak [] : X).jd = false:=hk _ (List.mem_cons_self ..)
  split at hk0
  ·rename_i cs0 hg
   split at hk0
   ·rename_i hlen
    obtain ⟨D,G1,t1,t2,t3,t4,t5,t6,t7,t8,t9,t10,t11,t12⟩:=h.inv.pn ad [] (G ad) rfl
    rw [h.inv.er,hg] at t1
    simp only [X.kill] at t1
    obtain ⟨g,o,m,f,rfl,hcs⟩:=Bg t1
    have hm : m = sz:=by
     have:=congrArg List.length hcs
     rw [X.CE] at this
     simpa [hlen] using this.symm
    subst hm
    obtain ⟨q1,q2,q3,q4⟩:=t4
    have hin : ∀ j,j < m→∀ b k,(f j).fp b k→(C.ptr .own g o m f).fp b k:=fun j hj b k hf=>C.gX (q3 j hj).1 (q3 j hj).2.1 hj hf
    have BJ : a.tmps.getD ad undef = .pointer (some ⟨g,o,none⟩):=by rw [← h.val ad ht,← t2]; rfl
    obtain ⟨ii,hi,gU⟩:=mO hsz
    obtain ⟨dd,s5,hda⟩:=tV jA
    have om : (isAgg ty).run P w = .ok agg w:=by
     subst hda
     simp only [isAgg,Sem.run_bind,run_underlying s5,Result.andThen_ok]
     cases dd <;> rfl
    have hsize : (Go.sizeOf ty).run P w = .ok m w:=by simp [Go.sizeOf,typeInfo,hi,gU]
    have hl : (loadCells ⟨g,o,none⟩ m).run P w = .ok ((List.range m).map fun j=>(f j).val).toArray w:=run_loadCells w _ m _ (fun j hj=>by rw [mh]; exact (q1 j hj).1)
    have fin : ∀ y : C,(∀ b k,y.fp b k→(C.ptr .own g o m f).fp b k)→y.ok w (Zf zl c.zb)→y.rf G1→y.er = (if cs0.length = m then (bif agg then .agg (X.eJ ad [] cs0) else (X.eJ ad [] cs0).headD (.ak [])) else .ak [])→(loadVar ty ⟨g,o,none⟩).run P w = .ok y.val w →
      ∃ cs G',cs.map C.er = (cK (.c ad m agg ty :: l) s).1∧((ResultVar.cell ad ty :: l').mapM (vb a.tmps)).run P w = .ok (cs.map C.val) w∧aW w zl c.zb G cs G' (cK (.c ad m agg ty :: l) s).2:=fun y Ep X0 X1 XZ X2=>by
     have fW : dy w zl c.zb G y G1 (fA ad [] .dead s):=⟨t3,X0,X1,fun t b k hf=>t8 t b k (Ep b k hf),fun b k hf=>h.inv.fz ad b k (t9 b k (Ep b k hf)),t10,fun b k hf=>⟨ad,t9 b k (Ep b k hf)⟩,t11⟩
     obtain ⟨cs,G',g1,g2,g3⟩:=Ee hc (h.rQ fW) fun x hx=>hk x (List.mem_cons_of_mem _ hx)
     refine ⟨y :: cs,G',?_,?_,aW.cons fW g3⟩
     ·simp only [List.map_cons,cK,hg,XZ,g1]
     ·simp only [List.mapM_cons,vb,BJ,asAddr,Sem.run_bind,Sem.run_pure,Result.andThen_ok,X2,g2,List.map_cons]
    cases agg with
    | true =>
     refine fin (.agg m f) (fun b k ⟨j,hj,hf⟩=>hin j hj b k hf) ⟨fun j hj=>⟨(q3 j hj).1,(q3 j hj).2.2⟩,fun j hj b k hf=>(q4 j hj b k hf).2⟩ t5 ?_ ?_
     ·rw [if_pos hlen,cond_true,hcs]; rfl
     ·simp only [loadVar,Sem.run_bind,om,Result.andThen_ok,if_true,hsize,hl,Sem.run_pure]
      rfl
    | false =>
     have hs1 : m = 1:=by simpa using h1
     subst hs1
     refine fin (f 0) (fun b k hf=>hin 0 (by omega) b k hf) (q3 0 (by omega)).2.2 (t5 0 (by omega)) ?_ ?_
     ·rw [if_pos hlen,cond_false,hcs]; rfl
     ·have:=(q1 0 (by omega)).1
      simp only [loadVar,Sem.run_bind,om,Result.andThen_ok,Bool.false_eq_true,if_false,run_load]
      simp only [Nat.add_zero] at this
      rw [this]
   ·simp [X.jd] at hk0
  ·simp [X.jd] at hk0
 | [],_ :: _,hc,_,_,_,_=>by cases hc
 | .tmp _ :: _,[],hc,_,_,_,_=>by cases hc
 | .cell _ _ :: _,[],hc,_,_,_,_=>by cases hc
 | .tmp _ :: _,.c _ _ _ _ :: _,hc,_,_,_,_=>by cases hc
 | .cell _ _ :: _,.t _ :: _,hc,_,_,_,_=>by cases hc
theorem Ud {c : Ctx} {G : Nat→C} {zl : Nat→Nat→Prop} {s : ag} (h : Inv w zl c.zb G s) (t : Nat) : ∃ p : C,p.er = post (get s t)∧p.val = (G t).val∧p.ok w (Zf zl fun _ _=>False)∧p.bare∧∀ b k,p.fp b k→(G t).fp b k:=by
 unfold post
 cases hc : (get s t).clean with
 | true =>
  rw [← h.er] at hc
  exact ⟨G t,h.er t,rfl,C.mG _ hc (h.ok t),C.nZ _ hc,fun _ _ hf=>hf⟩
 | false=>exact ⟨.dead (G t).val,rfl,rfl,trivial,trivial,fun _ _ hf=>hf.elim⟩
theorem HX {c : Ctx} {G : Nat→C} {zl : Nat→Nat→Prop} {s : ag} (h : Inv w zl c.zb G s) : ∀ (n i : Nat),∃ ps : List C,ps.map C.er = lW i n s∧ps.map C.val = (List.range' i n).map (fun j=>(G (base + j)).val)∧(∀ p∈ps,p.ok w (Zf zl fun _ _=>False)∧p.bare∧∃ t,i≤t∧∀ b k,p.fp b k→(G (base + t)).fp b k)∧ps.Pairwise fun a b=>∀ x k,a.fp x k→¬ b.fp x k
 | 0,i=>⟨[],rfl,rfl,fun _ hx=>(by cases hx),List.Pairwise.nil⟩
 | n + 1,i=>by
  obtain ⟨p,p1,p2,p3,p4,p5⟩:=Ud h (base + i)
  obtain ⟨ps,q1,q2,q3,q4⟩:=HX h n (i + 1)
  refine ⟨p :: ps,by simp [lW,p1,q1],by simp [List.range'_succ,p2,q2],fun x hx=>?_,List.pairwise_cons.2 ⟨fun x hx b k hf hf'=>?_,q4⟩⟩
  ·rcases List.mem_cons.1 hx with rfl | hx
   ·exact ⟨p3,p4,i,Nat.le_refl _,p5⟩
   ·obtain ⟨a1,a2,t,ht,a3⟩:=q3 x hx
    exact ⟨a1,a2,t,by omega,a3⟩
  ·obtain ⟨_,_,t,ht,a3⟩:=q3 x hx
   exact h.sep (base + i) (base + t) (by omega) b k (p5 b k hf) (a3 b k hf')
structure Told (P : Program) (f : FuncId) (t : A) (rs : List RV) (n : Nat) : Prop where
 told : ∃ fn code,P.funcs[f]? = some fn∧fn.body = some code∧eE P fn.ntmps t code = true∧nY P fn.results.toList rs = true∧fn.ntmps≤base∧n≤fn.ntmps
theorem Told.ac {f : FuncId} {t : A} {rs : List RV} {n : Nat} (hT : Told P f t rs n) {xs : List X} (hn : xs.length = n) {Q : X→List X→Prop} (h : cV P t (jt xs) (Ends rs n Q)) : AC P f xs Q:=by
 intro w zl zb cs hxs hA gT
 obtain ⟨fn,code,hf,hb,hc,hr,hnt,dP⟩:=hT.told
 have hcl : cs.length = n:=by rw [← hn,← hxs]; simp
 obtain ⟨G,hst⟩:=UT hA gT (nt:=fn.ntmps) (by omega) hnt
 rw [hxs] at hst
 refine calls_of_wp hf hb (wp_mono (MT t code hc hst h) fun e a w' he=>?_)
 have fin : ∀ {G : Nat→C} {az : Nat→Nat→Prop} {s : ag},St ⟨w,fun b k=>∃ x∈cs,x.fp b k,zl,zb,fn.ntmps,cs.map C.val⟩ G az s a w'→(X.clean.bK (cK rs s).1 = true∧(∀ x∈(cK rs s).1,x.jd = false)∧Q (oT (cK rs s).1) (lW 0 n (cK rs s).2)) →
   a.defers = []∧∃ v,(results fn a.tmps).run P w' = .ok v w'∧∃ r ps az,Ew w zl cs (.returned v) w' r ps az∧Q r.er (ps.map C.er):=by
  intro G az s h ⟨k1,k2,k3⟩
  obtain ⟨jP,G1,g1,g2,fW⟩:=Ee hr h k2
  refine ⟨h.defers,_,UD a.tmps g2,?_⟩
  rw [← g1] at k1 k2 k3
  obtain ⟨ps,p1,p2,p3,p4⟩:=HX (c:=⟨w,fun b k=>∃ x∈cs,x.fp b k,zl,zb,fn.ntmps,cs.map C.val⟩) fW.inv n 0
  have hrc : ∀ x∈jP,x.er.clean = true:=fun x hx=>gp.1 k1 _ (List.mem_map_of_mem hx)
  obtain ⟨r,r1,r2,r3,r4,r5⟩ : ∃ r : C,r.er = oT (jP.map C.er)∧r.val = Dr (jP.map C.val)∧r.ok w' (Zf az fun _ _=>False)∧r.bare∧∀ b k,r.fp b k→∃ x∈jP,x.fp b k:=by
   by_cases h1 : jP.length = 1
   ·obtain ⟨x,rfl⟩:=List.length_eq_one_iff.1 h1
    refine ⟨x,rfl,rfl,C.mG x (hrc x (List.mem_singleton.2 rfl)) (fW.all x (List.mem_singleton.2 rfl)).1,C.nZ x (hrc x (List.mem_singleton.2 rfl)),fun b k hf=>⟨x,List.mem_singleton.2 rfl,hf⟩⟩
   ·refine ⟨.ak jP.length fun j=>jP.getD j (.dead undef),?_,?_,⟨fun j hj=>⟨?_,C.mG _ (hrc _ (bY hj _)) (fW.all _ (bY hj _)).1⟩,fun j hj b k hf j' hj' hne=>ry fW.apart _ hj hj' hne hf⟩,fun j hj=>C.nZ _ (hrc _ (bY hj _)),fun b k ⟨j,hj,hf⟩=>⟨_,bY hj _,hf⟩⟩
    ·show X.ak _ = _
     rw [jh jP _ C.er]
     cases jP with
     | nil=>rfl
     | cons x l=>cases l with
      | nil=>simp at h1
      | cons y l=>rfl
    ·show Value.tuple _ = _
     rw [jh jP _ C.val]
     cases jP with
     | nil=>rfl
     | cons x l=>cases l with
      | nil=>simp at h1
      | cons y l=>rfl
    ·have:=k2 _ (List.mem_map_of_mem (bY hj (.dead undef)))
     exact S2 _ this
  refine ⟨r,ps,az,?_,by rw [r1,p1]; exact k3⟩
  have Re : ∀ t b k,(G1 t).fp b k→(∃ y∈cs,y.fp b k)∨w.heap.size≤b:=fun t b k hf=>h.tr.dom t b k (fW.mono t b k hf)
  have hrd : ∀ b k,r.fp b k→(∃ y∈cs,y.fp b k)∨w.heap.size≤b:=fun b k hf=>by
   obtain ⟨x,hx,hf⟩:=r5 b k hf
   obtain ⟨t,ht⟩:=(fW.all x hx).2.2.2 b k hf
   exact h.tr.dom t b k ht
  refine ⟨by rw [r2],?_,h.tr.ext,⟨fun x hx=>?_,fun x hx=>?_,fun x hx b k hf=>?_,fun b k hz=>fW.inv.bJ b k (hz.imp id fun h=>h.elim),List.pairwise_cons.2 ⟨fun x hx b k hf hf'=>?_,p4⟩⟩,fun x hx b k hf=>?_,h.tr.kO,h.tr.zl⟩
  ·rw [p2,List.range_eq_range'.symm]
   apply List.ext_getElem?
   intro i
   rw [List.getElem?_map,List.getElem?_map]
   by_cases hi : i < n
   ·rw [List.getElem?_range hi,List.getElem?_eq_getElem (by omega)]
    simp only [Option.map_some,Option.some.injEq]
    rw [fW.val]
    exact h.args i _ (by rw [List.getElem?_map,List.getElem?_eq_getElem (by omega)]; rfl)
   ·rw [List.getElem?_eq_none (by simp; omega),List.getElem?_eq_none (by omega)]
    rfl
  ·rcases List.mem_cons.1 hx with rfl | hx
   ·exact r3
   ·exact (p3 x hx).1
  ·rcases List.mem_cons.1 hx with rfl | hx
   ·exact r4
   ·exact (p3 x hx).2.1
  ·refine ⟨?_,fun h=>h⟩
   rcases List.mem_cons.1 hx with rfl | hx
   ·obtain ⟨y,hy,hf⟩:=r5 b k hf
    exact ((fW.all y hy).2.2.1 b k hf).1
   ·obtain ⟨_,_,t,_,a3⟩:=p3 x hx
    exact (fW.inv.fz _ b k (a3 b k hf)).1
  ·obtain ⟨y,hy,hf⟩:=r5 b k hf
   obtain ⟨_,_,t,_,a3⟩:=p3 x hx
   exact (fW.all y hy).2.1 _ b k hf (a3 b k hf')
  ·rcases List.mem_cons.1 hx with rfl | hx
   ·exact hrd b k hf
   ·obtain ⟨_,_,t,_,a3⟩:=p3 x hx
    exact Re _ b k (a3 b k hf)
 cases e with
 | normal=>obtain ⟨G,az,s,k,h⟩:=he; exact fin h k
 | ret=>obtain ⟨G,az,s,k,h⟩:=he; exact fin h k
 | exit id=>obtain ⟨G,az,s,k,h⟩:=he; exact k.elim
 | goto l=>exact he.elim
 | panic ch=>exact he.elim
 | outgrown=>exact he.elim
def IM (P : Program) (fn : Func) (t : A) (rs : List RV) (n : Nat) : Bool:=match fn.body with
 | some code=>eE P fn.ntmps t code && nY P fn.results.toList rs && decide (fn.ntmps≤base) && decide (n≤fn.ntmps)
 | none=>false
theorem Told.of {f : FuncId} {fn : Func} {t : A} {rs : List RV} {n : Nat} (hf : P.funcs[f]? = some fn) (h : IM P fn t rs n = true) : Told P f t rs n:=by
 unfold IM at h
 split at h
 ·rename_i code hc
  simp only [Bool.and_eq_true,decide_eq_true_eq] at h
  exact ⟨fn,code,hf,hc,h.1.1.1,h.1.1.2,h.1.2,h.2⟩
 ·cases h
end
end M
namespace M
open Go
theorem AC.mono [Bs] {P : Program} {f : FuncId} {xs : List X} {Q Q' : X→List X→Prop} (h : AC P f xs Q) (hq : ∀ r ps,Q r ps→Q' r ps) : AC P f xs Q' :=
 fun w zl zb cs e a g=>(h w zl zb cs e a g).mono fun _ _ ⟨r,ps,az,d,q⟩=>⟨r,ps,az,d,hq _ _ q⟩
abbrev Out:=X×List X
abbrev bD:=FuncId→List X→Option Out
def yd (f : FuncId) : X→Bool
 | .fn g _=>g == f
 | _=>false
def pT (s1 : ag) (fv : Option AV) (f : FuncId) : Bool:=match fv with
 | none=>true
 | some x=>yd f (ai s1 x)
abbrev rV:=X→Option ag
def lS (r : Nat) (p : Path) (s : ag) (n : Nat) (x : X) : Option (X×rV) :=
 match x with
 | .ref _ _=>(match look s r p with
  | some (.row .own z xs)=>some (.row .own z xs,fun y=>match y with
   | .row .own z' ys=>if z' = z then some (dB r p (.row .own z ys) s) else none
   | _=>none)
  | _=>none)
 | .aA _ _ i c=>(match look s r p with
  | some (.ptr .own cs)=>if c + n≤cs.length then some (.ptr .own ((cs.drop c).take n),fun y=>match y with
   | .ptr .own ys=>if ys.length = n then some (dB r p (.ptr .own (cs.take c ++ ys ++ cs.drop (c + n))) s) else none
   | _=>none) else none
  | some (.row .own z xs)=>(match xs[i]? with
   | some e=>if c + n≤e.length then some (.ptr .own ((e.drop c).take n),fun y=>match y with
    | .ptr .own ys=>if ys.length = n then (if eK ys = true then some (dB r p (.row .own z (xs.set i (e.take c ++ ys ++ e.drop (c + n)))) s) else none) else none
    | _=>none) else none
   | none=>none)
  | _=>none)
 | _=>none
def lX (d : Option Nat) (s : ag) : Option Out→Option ag
 | some o=>some (dL d o.1 s)
 | none=>none
def kE (d : Option Nat) (as : List (AV×PM)) (back : rV) : Option Out→Option ag
 | some o=>(match back (eV as o.2) with
  | some s'=>some (dL d o.1 s')
  | none=>none)
 | none=>none
def kV (C : bD) (f : FuncId) (d : Option Nat) (as : List (AV×PM)) (fv : Option AV) (ms : List X) (s0 : ag) : Option (X×rV)→Option ag
 | some (y,back)=>if X.bare y = true∧pT s0 fv f = true then kE d as back (C f (dV s0 y as ms ++ j0 s0 fv)) else none
 | none=>none
def mC (C : bD) (f : FuncId) (d : Option Nat) (as : List (AV×PM)) (fv : Option AV) (s : ag) : Option ag :=
 if X.bare.fQ (bn as s).1 = true then
 match cJ as with
 | none=>if pT (bn as s).2 fv f = true then lX d (bn as s).2 (C f (dV (bn as s).2 .dead as (bn as s).1 ++ j0 (bn as s).2 fv)) else none
 | some (x,n)=>kV C f d as fv (bn as s).1 (fA (placeOf (ai (bn as s).2 x)).1 (placeOf (ai (bn as s).2 x)).2 .dead (bn as s).2) (lS (placeOf (ai (bn as s).2 x)).1 (placeOf (ai (bn as s).2 x)).2 (bn as s).2 n (ai (bn as s).2 x))
 else none
def wq (op : BinOp) : X→X→Bool
 | .int k a,.int k' b=>match op with
  | .shl=>decide (0≤b)
  | .shr=>decide (0≤b)
  | .quo=>decide (k = k') && !decide (b = 0)
  | .rem=>decide (k = k') && !decide (b = 0)
  | .andNot=>false
  | _=>decide (k = k')
 | .str a,.str b=>match op with
  | .add=>decide (a.size + b.size≤9223372036854775807)
  | .eql=>true
  | .neq=>true
  | _=>false
 | _,_=>false
theorem KK {op : BinOp} {x y : X} (h : wq op x y = true) : pR op x y:=by
 cases x <;> cases y <;> cases op <;> simp_all [wq,pR]
def Ag (op : UnOp) : X→Bool
 | .int _ _=>match op with
  | .neg=>true
  | _=>false
 | .bool _=>match op with
  | .not=>true
  | _=>false
 | _=>false
theorem XV {op : UnOp} {x : X} (h : Ag op x = true) : rS op x:=by
 cases x <;> cases op <;> simp_all [Ag,rS]
def ye : List X→Option UInt8
 | [.int .u8 n]=>if 0≤n∧n < 256 then some (UInt8.ofNat n.toNat) else none
 | _=>none
theorem Sd {e : List X} {b : UInt8} (h : ye e = some b) : e = [.int .u8 b.toNat]:=by
 unfold ye at h
 split at h
 ·split at h
  ·rename_i n hn
   obtain rfl:=Option.some.inj h
   have : (UInt8.ofNat n.toNat).toNat = n.toNat:=by
    rw [UInt8.toNat_ofNat']
    exact Nat.mod_eq_of_lt (by omega)
   rw [this]
   congr 2
   omega
  ·cases h
 ·cases h
def nH : List (List X)→Option (List UInt8)
 | []=>some []
 | e :: l=>match ye e,nH l with
  | some b,some r=>some (b :: r)
  | _,_=>none
theorem IX : ∀ {xs : List (List X)} {l : List UInt8},nH xs = some l→xs = l.map fun b=>[.int .u8 b.toNat]
 | [],l,h=>by cases h; rfl
 | e :: r,l,h=>by
  unfold nH at h
  split at h
  ·rename_i b r' h1 h2
   obtain rfl:=Option.some.inj h
   rw [Sd h1,IX h2]; rfl
  ·cases h
theorem IY (l : List UInt8) : nH (l.map fun b=>[.int .u8 (b.toNat : Int)]) = some l:=by
 induction l with
 | nil=>rfl
 | cons b l ih =>
  simp only [List.map_cons,nH,ih]
  have : ye [.int .u8 (b.toNat : Int)] = some b:=by
   have h:=b.toNat_lt
   show (if 0≤(b.toNat : Int)∧(b.toNat : Int) < 256 then some (UInt8.ofNat (b.toNat : Int).toNat) else none) = some b
   rw [if_pos ⟨by omega,by omega⟩]
   simp
  rw [this]
def en : List (List X)→Bool
 | []=>true
 | e :: l=>e.all scalar && en l
theorem D6 {xs : List (List X)} (h : en xs = true) : scalars xs:=by
 induction xs with
 | nil=>intro e he; cases he
 | cons a l ih =>
  simp only [en,Bool.and_eq_true,List.all_eq_true] at h
  intro e he c hc
  rcases List.mem_cons.1 he with rfl | he
  ·exact h.1 c hc
  ·exact ih h.2 e he c hc
def D7 (h : Tk) (l : List X) : Bool:=match h with
 | .al=>true
 | _=>l.all fun x=>eK (cellsOf x)
theorem UN {h : Tk} {l : List X} (e : D7 h l = true) : zU h l:=by
 cases h
 ·intro x hx; exact (List.all_eq_true.1 e) x hx
 ·trivial
 ·intro x hx; exact (List.all_eq_true.1 e) x hx
def vB : List Nat→List X→Bool
 | [],[]=>true
 | n :: ns,y :: ys=>((cellsOf y).length == n) && vB ns ys
 | _,_=>false
theorem Iu : ∀ {ns : List Nat} {ys : List X},vB ns ys = true→rL ns ys
 | [],[],_=>trivial
 | [],_ :: _,h=>by cases h
 | _ :: _,[],h=>by cases h
 | n :: ns,y :: ys,h=>by
  simp only [vB,Bool.and_eq_true,beq_iff_eq] at h
  exact ⟨h.1,Iu h.2⟩
def yX (sz : Nat) (l : List X) : Bool:=l.all fun x=>((cellsOf x).length == sz) && eK (cellsOf x)
def zW (s : ag) (r : Nat) (p : Path) (i c : Nat) (l : List X) : Bool:=match look s r p with
 | some (.row .own _ xs)=>(match xs[i]? with
  | some e=>decide (c + l.length≤e.length) && eK l
  | none=>false)
 | some (.ptr .own cs)=>decide (c + l.length≤cs.length)
 | _=>false
theorem UX {s : ag} {r : Nat} {p : Path} {i c : Nat} {l : List X} (h : zW s r p i c l = true) : storable s r p i c l:=by
 unfold zW at h
 unfold storable
 split at h
 ·split at h
  ·rename_i h1 _ _ h2
   rw [h1]; simp only [h2]
   simpa using h
  ·cases h
 ·rename_i h1
  rw [h1]
  simpa using h
 ·cases h
def ny (d : Option Nat) (cs : List X) (s1 : ag) : Option Out→Option ag
 | some (r,.agg ys :: _)=>if eK ys = true then (match fD cs ys s1 with
  | some s'=>some (dL d r s')
  | none=>none) else none
 | _=>none
def bQ (C : bD) (ok : FuncId→Bool) (o : bE) (s : ag) : Option ag :=
 match o with
 | .mv d x=>some (put d (ai s x) s)
 | .bO d h x=>some (put d (take h (ai s x) s).1 (take h (ai s x) s).2)
 | .pick d c a b=>match ai s c with
  | .bool t=>some (put d (uX t (ai s a) (ai s b)) s)
  | _=>none
 | .un d op x=>if Ag op (ai s x) = true then some (put d (Ei op (ai s x)) s) else none
 | .bin d op x y=>if wq op (ai s x) (ai s y) = true then some (put d (Ay op (ai s x) (ai s y)) s) else none
 | .beq d neg x y=>match ai s x,ai s y with
  | .bool p,.bool q=>some (put d (.bool (xor neg (p == q))) s)
  | _,_=>none
 | .nx d neg x=>match ai s x with
  | .row _ _ xs=>if ji xs = true then some (put d (.bool neg) s) else none
  | _=>none
 | .nN d neg ks x y=>match ai s x,ai s y with
  | .agg p,.agg q=>match gu ks p q with
   | some t=>some (put d (.bool (xor neg t)) s)
   | none=>none
  | _,_=>none
 | .conv d k x=>match ai s x with
  | .int _ n=>some (put d (.int k (k.wrap n)) s)
  | _=>none
 | .bytes d x=>match ai s x with
  | .str t=>some (put d (.row .own 1 (t.data.toList.map fun b=>[.int .u8 b.toNat])) s)
  | _=>none
 | .text d x=>match rowAt s (ai s x) with
  | some (1,xs)=>if xs.length≤9223372036854775807 then (match nH xs with
   | some l=>some (put d (.str ⟨l.toArray⟩) s)
   | none=>none) else none
  | _=>none
 | .box d h x=>if 0 < (cellsOf (take h (ai s x) s).1).length then some (put d (.ptr .own (cellsOf (take h (ai s x) s).1)) (take h (ai s x) s).2) else none
 | .new d z=>some (put d (.ptr .own z) s)
 | .build d h z ps=>if D7 h (takes h (ps.map (·.2)) s).1 = true∧vB (ps.map (·.1.2)) (takes h (ps.map (·.2)) s).1 = true then some (put d (.agg (qa z (ps.map (·.1.1)) (takes h (ps.map (·.2)) s).1)) (takes h (ps.map (·.2)) s).2) else none
 | .lit d h sz ps=>if yX sz (takes h ps s).1 = true then some (put d (.row .own sz ((takes h ps s).1.map cellsOf)) (takes h ps s).2) else none
 | .make d sz bytes z n=>match ai s n with
  | .int _ i=>if 0≤i∧i * bytes≤140737488355328 then some (put d (.row .own sz (List.replicate i.toNat z)) s) else none
  | _=>none
 | .load d sz agg a=>match dW s (ai s a) with
  | some cs=>if sz≤cs.length then some (put d (bif agg then .agg (cs.take sz) else cs.headD .dead) s) else none
  | none=>none
 | .store sz h a x=>if (cellsOf (take h (ai s x) s).1).length = sz then (match ai (take h (ai s x) s).2 a with
  | .aA r p i c=>if zW (take h (ai s x) s).2 r p i c (cellsOf (take h (ai s x) s).1) = true then some (setCells r p i c (cellsOf (take h (ai s x) s).1) (take h (ai s x) s).2) else none
  | _=>none) else none
 | .eZ d x=>match ai s x with
  | .aA r p i c=>some (put d (.aA r p i c) s)
  | .ptr m cs=>some (put d (.ptr m cs) s)
  | .fn f cs=>some (put d (.fn f cs) s)
  | _=>none
 | .kZ d x off=>match ai s x with
  | .aA r p i c=>some (put d (.aA r p i (c + off)) s)
  | .ptr m cs=>some (put d (.ptr m (cs.drop off)) s)
  | _=>none
 | .gv d x off sz agg=>match ai s x with
  | .agg cs=>if off + sz≤cs.length then some (put d (bif agg then .agg ((cs.drop off).take sz) else (cs.drop off).headD .dead) s) else none
  | _=>none
 | .mY d sz x i=>match ai s i with
  | .int _ n=>if 0≤n then (match ai s x with
   | .row m z xs=>if z = sz then (match xs[n.toNat]? with
    | some e=>some (put d (.ptr m e) s)
    | none=>none) else none
   | .ref r p=>(match look s r p with
    | some (.row _ z xs)=>if z = sz∧n.toNat < xs.length then some (put d (.aA r p n.toNat 0) s) else none
    | _=>none)
   | .cut r p lo hi=>(match look s r p with
    | some (.row _ z _)=>if z = sz∧lo + n.toNat < hi then some (put d (.aA r p (lo + n.toNat) 0) s) else none
    | _=>none)
   | _=>none) else none
  | _=>none
 | .cU d x i=>match ai s x,ai s i with
  | .str t,.int _ n=>if 0≤n then (match t.data[n.toNat]? with
   | some b=>some (put d (.int .u8 b.toNat) s)
   | none=>none) else none
  | _,_=>none
 | .nP d n sz agg x i=>match ai s x,ai s i with
  | .agg cs,.int _ j=>if 0≤j∧j < n∧cs.length = n * sz then some (put d (bif agg then .agg ((cs.drop (j.toNat * sz)).take sz) else (cs.drop (j.toNat * sz)).headD .dead) s) else none
  | _,_=>none
 | .ext d x i=>match ai s x with
  | .ak cs=>if i < cs.length then some (put d (cs.getD i .dead) s) else none
  | _=>none
 | .jo d x lo hi=>match ai s x with
  | .str t=>if 0≤asNat s lo 0∧asNat s lo 0≤asNat s hi t.size∧asNat s hi t.size≤t.size then some (put d (.str (t.extract (asNat s lo 0).toNat (asNat s hi t.size).toNat)) s) else none
  | _=>none
 | .nC d sz x lo hi=>match rowAt s (ai s x) with
  | some (z0,xs)=>if z0 = sz∧0≤asNat s lo 0∧asNat s lo 0≤asNat s hi xs.length∧asNat s hi xs.length≤xs.length then (match ai s x with
   | .row m z _=>some (put d (.row m z ((xs.take (asNat s hi xs.length).toNat).drop (asNat s lo 0).toNat)) s)
   | .ref r p=>some (put d (.cut r p (asNat s lo 0).toNat (asNat s hi xs.length).toNat) s)
   | _=>none) else none
  | none=>none
 | .pX sz z x=>match ai s x with
  | .cut r p lo hi=>(match look s r p with
   | some (.row .own z' xs)=>if z' = sz then some (dB r p (.row .own z' (wQ lo hi z xs)) s) else none
   | _=>none)
  | _=>none
 | .iq d f x as=>match ai s x with
  | .agg cs=>if X.bare.fQ (bp cs s).1 = true then ny d cs (bp cs s).2 (C f (.agg (bp cs s).1 :: dV (bp cs s).2 .dead as (as.map fun _=>.dead))) else none
  | _=>none
 | .oE d fz sz agg a=>match dW s (ai s a) with
  | some cs=>if sz≤cs.length then ghost fz d (put d (bif agg then .agg (cs.take sz) else cs.headD .dead) s) else none
  | none=>none
 | .lR d f cs=>some (put d (.fn f (cs.map (ai s))) s)
 | .len d x=>match rowAt s (ai s x) with
  | some (z,xs)=>some (put d (.int .i64 xs.length) s)
  | none=>none
 | .nF d x=>match ai s x with
  | .str t=>some (put d (.int .i64 t.size) s)
  | _=>none
 | .app d h sz bytes x y=>match (take .mv (ai s x) s).1 with
  | .row .own z xs=>if z = sz then (match h with
   | .mv=>(match (gH (ai (take .mv (ai s x) s).2 y) (take .mv (ai s x) s).2).1 with
    | .row .own z' ys=>if z' = sz∧(xs.length + ys.length) * bytes≤140737488355328 then some (put d (.row .own z (xs ++ ys)) (gH (ai (take .mv (ai s x) s).2 y) (take .mv (ai s x) s).2).2) else none
    | _=>none)
   | _=>(match rowAt (take .mv (ai s x) s).2 (ai (take .mv (ai s x) s).2 y) with
    | some (z',ys)=>if z' = sz∧(xs.length + ys.length) * bytes≤140737488355328∧en ys = true then some (put d (.row .own z (xs ++ ys)) (take .mv (ai s x) s).2) else none
    | none=>none)) else none
  | _=>none
 | .mn d xs=>match xs.map (ai s) with
  | [.int k a,.int k' b]=>if k = k' then some (put d (.int k (if b < a then b else a)) s) else none
  | _=>none
 | .mx d xs=>match xs.map (ai s) with
  | [.int k a,.int k' b]=>if k = k' then some (put d (.int k (if b > a then b else a)) s) else none
  | _=>none
 | .call d f as=>mC C f d as none s
 | .jZ d x as=>match ai s x with
  | .fn f _=>if ok f = true then mC C f d as (some x) s else none
  | _=>none
end M
namespace M
open Go
def bD.Sound [Bs] (P : Program) (C : bD) : Prop:=∀ f xs o,C f xs = some o→AC P f xs fun r ps=>r = o.1∧ps = o.2
section
variable [Bs] {P : Program} {C : bD} {ok : FuncId→Bool}
theorem Fe {s1 : ag} {fv : Option AV} {f : FuncId} (h : pT s1 fv f = true) : mD s1 fv f:=by
 unfold pT at h
 unfold mD
 cases fv with
 | none=>trivial
 | some x =>
  simp only at h ⊢
  unfold yd at h
  split at h
  ·rename_i h1; rw [h1]; simpa using h
  ·cases h
theorem SZ {r : Nat} {p : Path} {s : ag} {n : Nat} {x y : X} {back : rV} (h : lS r p s n x = some (y,back)) {go : X→(X→(ag→Prop)→Prop)→Prop}
  (hg : ∀ b' : X→(ag→Prop)→Prop,(∀ q K s',back q = some s'→K s'→b' q K)→go y b') : q7 r p s n x go:=by
 unfold lS at h
 unfold q7
 split at h
 ·split at h
  ·rename_i z xs hl
   obtain ⟨rfl,rfl⟩:=Prod.mk.inj (Option.some.inj h)
   simp only [hl]
   refine hg _ fun q K s' hb hK=>?_
   simp only at hb
   split at hb
   ·split at hb
    ·rename_i hz
     obtain rfl:=Option.some.inj hb
     exact ⟨hz,hK⟩
    ·cases hb
   ·cases hb
  ·cases h
 ·split at h
  ·rename_i cs hl
   split at h
   ·rename_i hc
    obtain ⟨rfl,rfl⟩:=Prod.mk.inj (Option.some.inj h)
    simp only [hl]
    refine ⟨hc,hg _ fun q K s' hb hK=>?_⟩
    simp only at hb
    split at hb
    ·split at hb
     ·rename_i hz
      obtain rfl:=Option.some.inj hb
      exact ⟨hz,hK⟩
     ·cases hb
    ·cases hb
   ·cases h
  ·rename_i z xs hl
   split at h
   ·rename_i e he
    split at h
    ·rename_i hc
     obtain ⟨rfl,rfl⟩:=Prod.mk.inj (Option.some.inj h)
     simp only [hl,he]
     refine ⟨hc,hg _ fun q K s' hb hK=>?_⟩
     simp only at hb
     split at hb
     ·split at hb
      ·split at hb
       ·rename_i hz R4
        obtain rfl:=Option.some.inj hb
        exact ⟨hz,R4,hK⟩
       ·cases hb
      ·cases hb
     ·cases hb
    ·cases h
   ·cases h
  ·cases h
 ·cases h
theorem Fa (hC : C.Sound P) {f : FuncId} {d : Option Nat} {as : List (AV×PM)} {fv : Option AV} {s s' : ag} (h : mC C f d as fv s = some s') {K : ag→Prop} (hK : K s') : nU P f d as fv s K:=by
 unfold mC at h
 unfold nU
 split at h
 ·rename_i hb
  refine ⟨hb,?_⟩
  split at h
  ·rename_i hm
   split at h
   ·rename_i hc
    simp only [hm]
    refine ⟨Fe hc,?_⟩
    unfold lX at h
    split at h
    ·rename_i o ho
     obtain rfl:=Option.some.inj h
     exact (hC _ _ _ ho).mono fun r ps ⟨h1,_⟩=>by rw [h1]; exact hK
    ·cases h
   ·cases h
  ·rename_i x n hm
   simp only [hm]
   unfold kV at h
   split at h
   ·rename_i y back RF
    split at h
    ·rename_i hc
     refine SZ RF fun b' hb'=>⟨hc.1,Fe hc.2,?_⟩
     unfold kE at h
     split at h
     ·rename_i o ho
      split at h
      ·rename_i s2 hs2
       obtain rfl:=Option.some.inj h
       refine (hC _ _ _ ho).mono fun r ps ⟨h1,h2⟩=>?_
       rw [h1,h2]
       exact hb' _ _ _ hs2 hK
      ·cases h
     ·cases h
    ·cases h
   ·cases h
 ·cases h
theorem FI (hC : C.Sound P) (hok : ∀ f,ok f = true→ax P f = true) {o : bE} {s s' : ag} (h : bQ C ok o s = some s') {K : ag→Prop} (hK : K s') : aH P o s K:=by
 cases o with
 | mv d x=>cases h; exact hK
 | bO d h1 x=>cases h; exact hK
 | pick d c a b =>
  simp only [bQ] at h
  simp only [aH]
  split at h <;> first | (rename_i h1; rw [h1]; cases h; exact hK) | cases h
 | un d op x =>
  simp only [bQ] at h
  split at h
  ·rename_i h1; cases h; exact ⟨XV h1,hK⟩
  ·cases h
 | bin d op x y =>
  simp only [bQ] at h
  split at h
  ·rename_i h1; cases h; exact ⟨KK h1,hK⟩
  ·cases h
 | beq d neg x y =>
  simp only [bQ] at h
  simp only [aH]
  split at h
  ·rename_i h1 h2; rw [h1,h2]; cases h; exact hK
  ·cases h
 | nx d neg x =>
  simp only [bQ] at h
  simp only [aH]
  split at h
  ·rename_i h1
   rw [h1]
   split at h
   ·rename_i hc
    cases h
    intro b hb
    rw [hb hc]
    cases neg <;> exact hK
   ·cases h
  ·cases h
 | nN d neg ks x y =>
  simp only [bQ] at h
  simp only [aH]
  split at h
  ·rename_i h1 h2
   rw [h1,h2]
   split at h
   ·rename_i t ht
    cases h
    exact ⟨t,ht,hK⟩
   ·cases h
  ·cases h
 | conv d k x =>
  simp only [bQ] at h
  simp only [aH]
  split at h
  ·rename_i h1; rw [h1]; cases h; exact hK
  ·cases h
 | bytes d x =>
  simp only [bQ] at h
  simp only [aH]
  split at h
  ·rename_i h1; rw [h1]; cases h; exact hK
  ·cases h
 | text d x =>
  simp only [bQ] at h
  simp only [aH]
  split at h
  ·rename_i xs h1
   split at h
   ·rename_i h2
    split at h
    ·rename_i l h3
     cases h
     exact ⟨xs,h1,h2,l,IX h3,hK⟩
    ·cases h
   ·cases h
  ·cases h
 | box d h1 x =>
  simp only [bQ] at h
  split at h
  ·rename_i h2; cases h; exact ⟨h2,hK⟩
  ·cases h
 | new d z=>cases h; exact hK
 | build d h1 z ps =>
  simp only [bQ] at h
  split at h
  ·rename_i h2; cases h; exact ⟨UN h2.1,Iu h2.2,hK⟩
  ·cases h
 | lit d h1 sz ps =>
  simp only [bQ] at h
  split at h
  ·rename_i h2
   cases h
   refine ⟨fun x hx=>?_,hK⟩
   have:=(List.all_eq_true.1 h2) x hx
   simpa using this
  ·cases h
 | make d sz bytes z n =>
  simp only [bQ] at h
  simp only [aH]
  split at h
  ·rename_i h1
   rw [h1]
   split at h
   ·rename_i h2; cases h; exact ⟨h2.1,h2.2,hK⟩
   ·cases h
  ·cases h
 | load d sz agg a =>
  simp only [bQ] at h
  simp only [aH]
  split at h
  ·rename_i cs h1
   split at h
   ·rename_i h2; cases h; exact ⟨cs,h1,h2,hK⟩
   ·cases h
  ·cases h
 | store sz h1 a x =>
  simp only [bQ] at h
  simp only [aH]
  split at h
  ·rename_i h2
   refine ⟨h2,?_⟩
   split at h
   ·rename_i h3
    rw [h3]
    split at h
    ·rename_i h4; cases h; exact ⟨UX h4,hK⟩
    ·cases h
   ·cases h
  ·cases h
 | eZ d x =>
  simp only [bQ] at h
  simp only [aH]
  split at h <;> first | (rename_i h1; rw [h1]; cases h; exact hK) | cases h
 | kZ d x off =>
  simp only [bQ] at h
  simp only [aH]
  split at h <;> first | (rename_i h1; rw [h1]; cases h; exact hK) | cases h
 | gv d x off sz agg =>
  simp only [bQ] at h
  simp only [aH]
  split at h
  ·rename_i h1
   rw [h1]
   split at h
   ·rename_i h2; cases h; exact ⟨h2,hK⟩
   ·cases h
  ·cases h
 | mY d sz x i =>
  simp only [bQ] at h
  simp only [aH]
  split at h
  ·rename_i h1
   rw [h1]
   split at h
   ·rename_i h2
    refine ⟨h2,?_⟩
    split at h
    ·rename_i h3
     rw [h3]
     split at h
     ·rename_i h4
      refine ⟨h4,?_⟩
      split at h
      ·rename_i e h5; cases h; exact ⟨e,h5,hK⟩
      ·cases h
     ·cases h
    ·rename_i h3
     rw [h3]
     simp only
     split at h
     ·rename_i h4
      rw [h4]
      split at h
      ·rename_i h5; cases h; exact ⟨h5.1,h5.2,hK⟩
      ·cases h
     ·cases h
    ·rename_i h3
     rw [h3]
     simp only
     split at h
     ·rename_i h4
      rw [h4]
      split at h
      ·rename_i h5; cases h; exact ⟨h5.1,h5.2,hK⟩
      ·cases h
     ·cases h
    ·cases h
   ·cases h
  ·cases h
 | cU d x i =>
  simp only [bQ] at h
  simp only [aH]
  split at h
  ·rename_i h1 h2
   rw [h1,h2]
   split at h
   ·rename_i h3
    refine ⟨h3,?_⟩
    split at h
    ·rename_i b h4; cases h; exact ⟨b,h4,hK⟩
    ·cases h
   ·cases h
  ·cases h
 | nP d n sz agg x i =>
  simp only [bQ] at h
  simp only [aH]
  split at h
  ·rename_i h1 h2
   rw [h1,h2]
   split at h
   ·rename_i h3; cases h; exact ⟨h3.1,h3.2.1,h3.2.2,hK⟩
   ·cases h
  ·cases h
 | ext d x i =>
  simp only [bQ] at h
  simp only [aH]
  split at h
  ·rename_i h1
   rw [h1]
   split at h
   ·rename_i h3; cases h; exact ⟨h3,hK⟩
   ·cases h
  ·cases h
 | jo d x lo hi =>
  simp only [bQ] at h
  simp only [aH]
  split at h
  ·rename_i h1
   rw [h1]
   split at h
   ·rename_i h3; cases h; exact ⟨h3.1,h3.2.1,h3.2.2,hK⟩
   ·cases h
  ·cases h
 | nC d sz x lo hi =>
  simp only [bQ] at h
  simp only [aH]
  split at h
  ·rename_i z0 xs h1
   split at h
   ·rename_i h2
    obtain ⟨rfl,h2,h3,h4⟩:=h2
    refine ⟨xs,h1,h2,h3,h4,?_⟩
    split at h <;> first | (rename_i h5; rw [h5]; cases h; exact hK) | cases h
   ·cases h
  ·cases h
 | pX sz z x =>
  simp only [bQ] at h
  simp only [aH]
  split at h
  ·rename_i h1
   rw [h1]
   simp only
   split at h
   ·rename_i h2
    rw [h2]
    split at h
    ·rename_i h3; cases h; exact ⟨h3,hK⟩
    ·cases h
   ·cases h
  ·cases h
 | iq d f x as =>
  simp only [bQ] at h
  simp only [aH]
  split at h
  ·rename_i cs h1
   rw [h1]
   split at h
   ·rename_i h2
    refine ⟨h2,?_⟩
    unfold ny at h
    split at h
    ·rename_i r ys ps ho
     split at h
     ·rename_i h3
      split at h
      ·rename_i s2 h4
       cases h
       exact (hC _ _ _ ho).mono fun r' ps' ⟨e1,e2⟩=>by rw [e1,e2]; exact ⟨h3,_,h4,hK⟩
      ·cases h
     ·cases h
    ·cases h
   ·cases h
  ·cases h
 | oE d fz sz agg a =>
  simp only [bQ] at h
  simp only [aH]
  split at h
  ·rename_i cs h1
   split at h
   ·rename_i h2; exact ⟨cs,h1,h2,s',h,hK⟩
   ·cases h
  ·cases h
 | lR d f cs=>cases h; exact hK
 | len d x =>
  simp only [bQ] at h
  simp only [aH]
  split at h
  ·rename_i z xs h1; cases h; exact ⟨z,xs,h1,hK⟩
  ·cases h
 | nF d x =>
  simp only [bQ] at h
  simp only [aH]
  split at h
  ·rename_i h1; rw [h1]; cases h; exact hK
  ·cases h
 | app d h1 sz bytes x y =>
  simp only [bQ] at h
  simp only [aH]
  split at h
  ·rename_i z xs h2
   rw [h2]
   split at h
   ·rename_i h3
    refine ⟨h3,?_⟩
    cases h1 with
    | mv =>
     simp only at h ⊢
     split at h
     ·rename_i h4
      simp only [h4]
      split at h
      ·rename_i h5; cases h; exact ⟨h5.1,h5.2,hK⟩
      ·cases h
     ·cases h
    | al =>
     simp only at h ⊢
     split at h
     ·rename_i z' ys h4
      split at h
      ·rename_i h5
       obtain ⟨rfl,h5,h6⟩:=h5
       cases h
       exact ⟨ys,h4,h5,D6 h6,hK⟩
      ·cases h
     ·cases h
    | bH =>
     simp only at h ⊢
     split at h
     ·rename_i z' ys h4
      split at h
      ·rename_i h5
       obtain ⟨rfl,h5,h6⟩:=h5
       cases h
       exact ⟨ys,h4,h5,D6 h6,hK⟩
      ·cases h
     ·cases h
   ·cases h
  ·cases h
 | mn d xs =>
  simp only [bQ] at h
  simp only [aH]
  split at h
  ·rename_i h1
   rw [h1]
   split at h
   ·rename_i h2; cases h; exact ⟨h2,hK⟩
   ·cases h
  ·cases h
 | mx d xs =>
  simp only [bQ] at h
  simp only [aH]
  split at h
  ·rename_i h1
   rw [h1]
   split at h
   ·rename_i h2; cases h; exact ⟨h2,hK⟩
   ·cases h
  ·cases h
 | call d f as=>exact Fa hC h hK
 | jZ d x as =>
  simp only [bQ] at h
  simp only [aH]
  split at h
  ·rename_i h1
   rw [h1]
   split at h
   ·rename_i h2; exact ⟨hok _ h2,Fa hC h hK⟩
   ·cases h
  ·cases h
end
end M
namespace M
open Go
mutual
def X.cW : X→X→Bool
 | .dead,.dead=>true
 | .int k n,.int k' n'=>decide (k = k') && decide (n = n')
 | .bool a,.bool b=>a == b
 | .str s,.str t=>decide (s = t)
 | .row m z xs,.row m' z' ys=>decide (m = m') && z == z' && X.mJ xs ys
 | .ptr m xs,.ptr m' ys=>decide (m = m') && X.iU xs ys
 | .agg xs,.agg ys=>X.iU xs ys
 | .ak xs,.ak ys=>X.iU xs ys
 | .fn f xs,.fn g ys=>f == g && X.iU xs ys
 | .ref s p,.ref t q=>s == t && p == q
 | .aA s p i c,.aA t q j d=>s == t && p == q && i == j && c == d
 | .cut s p i c,.cut t q j d=>s == t && p == q && i == j && c == d
 | _,_=>false
def X.iU : List X→List X→Bool
 | [],[]=>true
 | x :: l,y :: r=>X.cW x y && X.iU l r
 | _,_=>false
def X.mJ : List (List X)→List (List X)→Bool
 | [],[]=>true
 | x :: l,y :: r=>X.iU x y && X.mJ l r
 | _,_=>false
end
mutual
theorem X.FO : ∀ {x y : X},X.cW x y = true→x = y
 | .dead,y,h=>by cases y <;> simp_all [X.cW]
 | .int k n,y,h=>by cases y <;> simp_all [X.cW]
 | .bool a,y,h=>by cases y <;> simp_all [X.cW]
 | .str s,y,h=>by cases y <;> simp_all [X.cW]
 | .row m z xs,y,h=>by
  cases y <;> simp only [X.cW,Bool.and_eq_true,decide_eq_true_eq,beq_iff_eq,Bool.false_eq_true] at h
  rw [h.1.1,h.1.2,X.FM h.2]
 | .ptr m xs,y,h=>by
  cases y <;> simp only [X.cW,Bool.and_eq_true,decide_eq_true_eq,beq_iff_eq,Bool.false_eq_true] at h
  rw [h.1,X.p6 h.2]
 | .agg xs,y,h=>by
  cases y <;> simp only [X.cW,Bool.false_eq_true] at h
  rw [X.p6 h]
 | .ak xs,y,h=>by
  cases y <;> simp only [X.cW,Bool.false_eq_true] at h
  rw [X.p6 h]
 | .fn f xs,y,h=>by
  cases y <;> simp only [X.cW,Bool.and_eq_true,beq_iff_eq,Bool.false_eq_true] at h
  rw [h.1,X.p6 h.2]
 | .ref s p,y,h=>by cases y <;> simp_all [X.cW]
 | .aA s p i c,y,h=>by cases y <;> simp_all [X.cW]
 | .cut s p i c,y,h=>by cases y <;> simp_all [X.cW]
theorem X.p6 : ∀ {x y : List X},X.iU x y = true→x = y
 | [],[],_=>rfl
 | [],_ :: _,h=>by simp [X.iU] at h
 | _ :: _,[],h=>by simp [X.iU] at h
 | x :: l,y :: r,h=>by
  simp only [X.iU,Bool.and_eq_true] at h
  rw [X.FO h.1,X.p6 h.2]
theorem X.FM : ∀ {x y : List (List X)},X.mJ x y = true→x = y
 | [],[],_=>rfl
 | [],_ :: _,h=>by simp [X.mJ] at h
 | _ :: _,[],h=>by simp [X.mJ] at h
 | x :: l,y :: r,h=>by
  simp only [X.mJ,Bool.and_eq_true] at h
  rw [X.p6 h.1,X.FM h.2]
end
mutual
theorem X.FP : ∀ x : X,X.cW x x = true
 | .dead=>rfl
 | .int k n=>by simp [X.cW]
 | .bool a=>by simp [X.cW]
 | .str s=>by simp [X.cW]
 | .row m z xs=>by simp [X.cW,X.FN xs]
 | .ptr m xs=>by simp [X.cW,X.p7 xs]
 | .agg xs=>by simp [X.cW,X.p7 xs]
 | .ak xs=>by simp [X.cW,X.p7 xs]
 | .fn f xs=>by simp [X.cW,X.p7 xs]
 | .ref s p=>by simp [X.cW]
 | .aA s p i c=>by simp [X.cW]
 | .cut s p i c=>by simp [X.cW]
theorem X.p7 : ∀ x : List X,X.iU x x = true
 | []=>rfl
 | x :: l=>by simp [X.iU,X.FP x,X.p7 l]
theorem X.FN : ∀ x : List (List X),X.mJ x x = true
 | []=>rfl
 | x :: l=>by simp [X.mJ,X.p7 x,X.FN l]
end
def mI : ag→ag→Bool
 | [],[]=>true
 | (k,x) :: l,(k',y) :: r=>k == k' && X.cW x y && mI l r
 | _,_=>false
theorem FL : ∀ {x y : ag},mI x y = true→x = y
 | [],[],_=>rfl
 | [],_ :: _,h=>by simp [mI] at h
 | _ :: _,[],h=>by simp [mI] at h
 | (k,x) :: l,(k',y) :: r,h=>by
  simp only [mI,Bool.and_eq_true,beq_iff_eq] at h
  rw [h.1.1,X.FO h.1.2,FL h.2]
def same : Option ag→Option ag→Option ag
 | some a,some b=>if mI a b = true then some a else none
 | _,_=>none
def eG (C : bD) (ok : FuncId→Bool) (g : G) (s : ag) : Option ag:=match g with
 | ⟨none,o⟩=>bQ C ok o s
 | ⟨some (t,b),o⟩=>match get s t with
  | .bool v=>if v = b then bQ C ok o ((t,.bool b) :: s) else some (dL o.dst (.ak []) ((t,.bool (!b)) :: s))
  | .ak []=>some (dL o.dst (.ak []) s)
  | _=>none
def gq (C : bD) (ok : FuncId→Bool) : List G→ag→Option ag
 | [],s=>some s
 | g :: l,s=>(eG C ok g s).bind (gq C ok l)
def eD (C : bD) (ok : FuncId→Bool) : DT→ag→Option ag
 | .nil ks,s=>some (keep ks s)
 | .step _ g t,s=>(eG C ok g s).bind (eD C ok t)
 | .alt a b,s=>same (eD C ok a s) (eD C ok b s)
 | .kp ks t,s=>eD C ok t (keep ks s)
abbrev bN:=Option (Ex×ag)
def dD (k : ag→bN) : bN→bN
 | some (.normal,s)=>k s
 | some (.exit i,s)=>some (.exit i,s)
 | some (.ret,s)=>some (.ret,s)
 | none=>none
def ij (id : Nat) : bN→bN
 | some (.exit i,s)=>if i = id then some (.normal,s) else some (.exit i,s)
 | some (.normal,s)=>some (.normal,s)
 | some (.ret,s)=>some (.ret,s)
 | none=>none
def iK (ks : List Nat) : bN→bN
 | some (.normal,s)=>some (.normal,keep ks s)
 | some (.exit i,s)=>some (.exit i,s)
 | some (.ret,s)=>some (.ret,s)
 | none=>none
def fk : Option ag→bN
 | some s=>some (.normal,s)
 | none=>none
def iter (f : ag→bN) : Nat→ag→bN
 | 0,_=>none
 | n + 1,s=>dD (iter f n) (f s)
def eA (C : bD) (ok : FuncId→Bool) (N : Nat) : A→ag→bN
 | .skip,s=>some (.normal,s)
 | .ret,s=>some (.ret,s)
 | .exit id,s=>some (.exit id,s)
 | .ops l,s=>fk (gq C ok l s)
 | .draw t,s=>fk (eD C ok t s)
 | .seq a b,s=>dD (eA C ok N b) (eA C ok N a s)
 | .cond c a b,s=>match ai s c with
  | .bool t=>if t = true then eA C ok N a s else eA C ok N b s
  | _=>none
 | .block id b,s=>ij id (eA C ok N b s)
 | .loop b,s=>iter (eA C ok N b) N s
 | .pk ks b,s=>iK ks (eA C ok N b s)
structure Fn where
 body : A
 rs : List RV
 n : Nat
abbrev fO:=FuncId→Option Fn
def fin (F : Fn) : bN→Option Out
 | some (.exit _,_)=>none
 | some (_,s)=>if X.clean.bK (cK F.rs s).1 = true∧(cK F.rs s).1.any X.jd = false then some (oT (cK F.rs s).1,lW 0 F.n (cK F.rs s).2) else none
 | none=>none
def eF (C : bD) (ok : FuncId→Bool) (N : Nat) (F : Fn) (xs : List X) : Option Out :=
 if xs.length = F.n then fin F (eA C ok N F.body (jt xs)) else none
def av (T : fO) (f : FuncId) : Bool:=(T f).isSome
def exec (L : bD) (T : fO) : Nat→bD
 | 0,_,_=>none
 | n + 1,f,xs=>match T f with
  | some F=>eF (exec L T n) (av T) n F xs
  | none=>L f xs
section
variable [Bs] {P : Program} {C : bD} {ok : FuncId→Bool}
theorem FG (hC : C.Sound P) (hok : ∀ f,ok f = true→ax P f = true) {g : G} {s s' : ag} (h : eG C ok g s = some s') {K : ag→Prop} (hK : K s') : kT P g s K:=by
 obtain ⟨gg,o⟩:=g
 cases gg with
 | none=>exact FI hC hok h hK
 | some tb =>
  obtain ⟨t,b⟩:=tb
  simp only [eG] at h
  simp only [kT]
  split at h
  ·rename_i v hv
   rw [hv]
   split at h
   ·rename_i iD
    exact ⟨fun _=>FI hC hok h hK,fun hn=>by subst iD; cases v <;> simp at hn⟩
   ·rename_i iD
    exact ⟨fun hh=>(iD hh).elim,fun _=>by cases h; exact hK⟩
  ·rename_i hv
   rw [hv]
   cases h; exact hK
  ·cases h
theorem FK (hC : C.Sound P) (hok : ∀ f,ok f = true→ax P f = true) : ∀ {l : List G} {s s' : ag},gq C ok l s = some s'→∀ {Q : Ex→ag→Prop},Q .normal s'→gM P l s Q
 | [],s,s',h,Q,hQ=>by cases h; exact hQ
 | g :: l,s,s',h,Q,hQ=>by
  simp only [gq] at h
  cases h1 : eG C ok g s with
  | none=>rw [h1] at h; cases h
  | some s1 =>
   rw [h1] at h
   exact FG hC hok h1 (FK hC hok h hQ)
theorem sG (hC : C.Sound P) (hok : ∀ f,ok f = true→ax P f = true) : ∀ {t : DT} {s s' : ag},eD C ok t s = some s'→∀ {Q : Ex→ag→Prop},Q .normal s'→eN P t s Q
 | .nil ks,s,s',h,Q,hQ=>by cases h; exact hQ
 | .step i g t,s,s',h,Q,hQ=>by
  simp only [eD] at h
  cases h1 : eG C ok g s with
  | none=>rw [h1] at h; cases h
  | some s1 =>
   rw [h1] at h
   exact FG hC hok h1 (sG hC hok h hQ)
 | .alt a b,s,s',h,Q,hQ=>by
  simp only [eD] at h
  unfold same at h
  split at h
  ·rename_i x y hx hy
   split at h
   ·rename_i he
    obtain rfl:=FL he
    cases h
    exact ⟨sG hC hok hx hQ,sG hC hok hy hQ⟩
   ·cases h
  ·cases h
 | .kp ks t,s,s',h,Q,hQ=>sG (t:=t) hC hok h hQ
theorem IK {k : ag→bN} {r : bN} {e : Ex} {s : ag} (h : dD k r = some (e,s)) : (∃ s',r = some (.normal,s')∧k s' = some (e,s))∨(e≠.normal∧r = some (e,s)):=by
 unfold dD at h
 split at h
 ·exact .inl ⟨_,rfl,h⟩
 ·cases h; exact .inr ⟨by simp,rfl⟩
 ·cases h; exact .inr ⟨by simp,rfl⟩
 ·cases h
theorem Nn (hC : C.Sound P) (hok : ∀ f,ok f = true→ax P f = true) {N : Nat} : ∀ {t : A} {s s' : ag} {e : Ex},eA C ok N t s = some (e,s')→∀ {Q : Ex→ag→Prop},Q e s'→cV P t s Q:=by
 intro t
 induction t with
 | skip=>intro s s' e h Q hQ; cases h; exact hQ
 | ret=>intro s s' e h Q hQ; cases h; exact hQ
 | exit id=>intro s s' e h Q hQ; cases h; exact hQ
 | ops l =>
  intro s s' e h Q hQ
  simp only [eA] at h
  unfold fk at h
  split at h
  ·rename_i s1 h1; cases h; exact FK hC hok h1 hQ
  ·cases h
 | draw l =>
  intro s s' e h Q hQ
  simp only [eA] at h
  unfold fk at h
  split at h
  ·rename_i s1 h1; cases h; exact sG hC hok h1 hQ
  ·cases h
 | seq a b fj gC =>
  intro s s' e h Q hQ
  simp only [eA] at h
  rcases IK h with ⟨s1,h1,h2⟩ | ⟨hne,h1⟩
  ·exact fj h1 (gC h2 hQ)
  ·refine fj h1 ?_
   cases e with
   | normal=>exact (hne rfl).elim
   | exit i=>exact hQ
   | ret=>exact hQ
 | cond c a b fj gC =>
  intro s s' e h Q hQ
  simp only [eA] at h
  simp only [cV]
  split at h
  ·rename_i t ht
   rw [ht]
   split at h
   ·rename_i h1
    exact ⟨fun _=>fj h hQ,fun h2=>by rw [h1] at h2; cases h2⟩
   ·rename_i h1
    exact ⟨fun h2=>(h1 h2).elim,fun _=>gC h hQ⟩
  ·cases h
 | block id b ih =>
  intro s s' e h Q hQ
  simp only [eA] at h
  unfold ij at h
  split at h
  ·rename_i i s1 h1
   split at h
   ·rename_i hi
    cases h
    refine ih h1 ?_
    subst hi
    simpa using hQ
   ·rename_i hi
    cases h
    refine ih h1 ?_
    have : (i == id) = false:=by simpa using hi
    simpa [this] using hQ
  ·rename_i s1 h1; cases h; exact ih h1 hQ
  ·rename_i s1 h1; cases h; exact ih h1 hQ
  ·cases h
 | loop b ih =>
  intro s s' e h Q hQ
  simp only [eA] at h
  refine ⟨fun n s1=>iter (eA C ok N b) n s1 = some (e,s'),⟨N,h⟩,fun n s1 h1=>?_⟩
  cases n with
  | zero=>cases h1
  | succ n =>
   simp only [iter] at h1
   rcases IK h1 with ⟨s2,h2,h3⟩ | ⟨hne,h2⟩
   ·exact ih h2 ⟨n,Nat.lt_succ_self n,h3⟩
   ·refine ih h2 ?_
    cases e with
    | normal=>exact (hne rfl).elim
    | exit i=>exact hQ
    | ret=>exact hQ
 | pk ks b ih =>
  intro s s' e h Q hQ
  simp only [eA] at h
  unfold iK at h
  split at h
  ·rename_i s1 h1; cases h; exact ih h1 hQ
  ·rename_i s1 h1; cases h; exact ih h1 hQ
  ·rename_i s1 h1; cases h; exact ih h1 hQ
  ·cases h
structure fO.Ok (P : Program) (T : fO) : Prop where
 told : ∀ f F,T f = some F→Told P f F.body F.rs F.n
 ok : ∀ f F,T f = some F→ax P f = true
theorem FR {L : bD} {T : fO} (hL : L.Sound P) (hT : T.Ok P) : ∀ n,(exec L T n).Sound P
 | 0=>fun f xs o h=>by cases h
 | n + 1=>fun f xs o h=>by
  simp only [exec] at h
  split at h
  ·rename_i F hF
   unfold eF at h
   split at h
   ·rename_i hn
    refine (hT.told f F hF).ac hn ?_
    unfold fin at h
    split at h
    ·cases h
    ·rename_i e s' h1 h2
     split at h
     ·rename_i hc
      have h2 : eA (exec L T n) (av T) n F.body (jt xs) = some (e,s'):=h2
      cases h
      refine Nn (FR hL hT n) (fun f hf=>?_) h2 ?_
      ·unfold av at hf
       obtain ⟨F',QT⟩:=Option.isSome_iff_exists.1 hf
       exact hT.ok f F' QT
      ·cases e with
       | exit i=>exact (h1 i rfl).elim
       | normal=>exact ⟨hc.1,fun x hx=>by have:=List.any_eq_false.1 hc.2 x hx; simpa using this,rfl,rfl⟩
       | ret=>exact ⟨hc.1,fun x hx=>by have:=List.any_eq_false.1 hc.2 x hx; simpa using this,rfl,rfl⟩
     ·cases h
    ·cases h
   ·cases h
  ·exact hL f xs o h
end
end M
