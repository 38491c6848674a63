/- The library with find, by a walk of find, is sound; no conditions. -/
import Derived.Test.YtkpkgfollnfhcaaGreatDoorMc
import Derived.Test.YtkpkgfollnfhcaaGreatDoorTold
import Derived.Test.YtkpkgfollnfhcaaGreatDoorCona
import Derived.RangeFuncNested
import Derived.RangeFuncBound
import Derived.RangeFuncCalls
import Derived.RangeFuncLeaves
import Derived.Shelf.Abstract
import Derived.Shelf.RegionOpen
import Derived.WalkKit
import Derived.OwnWalkIn
import Derived.TacticsInMore
import Derived.LoopNIn
import Derived.LoopIn
import Derived.Deep.RegionHeld
import Derived.Test.YtkpkgfollnfhcaaGreatDoorProg
set_option linter.unusedSectionVars false
set_option linter.unusedVariables false
set_option linter.unusedSimpArgs false
set_option linter.unusedVariables false
set_option linter.unusedSimpArgs false
set_option linter.unusedSectionVars false
namespace Go.Proofs
open Go.RowKit Go.Shelf
attribute [local go_sem] Oper.semAt_some
def iw (len k : Nat) : List Nat:=(List.range k).map fun j=>len - 1 - j
theorem Bi (len k : Nat) : iw len (k + 1) = iw len k ++ [len - 1 - k]:=by simp [iw,List.range_succ]
theorem ND (len k : Nat) : (iw len k).length = k:=by simp [iw]
def wP (ev : Nat→Nat→Value) (i : Nat) : Value:=.agg #[ev i 0,ev i 1,ev i 2,ev i 3,ev i 4,ev i 5,ev i 6,ev i 7,ev i 8]
set_option maxRecDepth 100000 in
set_option maxHeartbeats 4000000 in
theorem NF (F : Fence) (n : Nat) (h7 : F.fn 263) (hro : F.round = none) (hn : 1≤n) (l Bs n₀ len cap : Nat) (A : Option Addr) (ev : Nat→Nat→Value) (eT : len≤1073741824) (hb : Bs < n₀) (J Jx : List (Fin len)→World→Prop)
    (hY : ∀ pre x W,J pre W→pre.length < len→YieldAt F (n - 1) Tryz.prog l #[.int .i64 ((x : Fin len).1 : Int),wP ev x.1] W fun e W' =>
      (e = .returned (.bool true)∧J (pre ++ [x]) W'∧Below n₀ W W')∨(e = .returned (.bool false)∧Jx (pre ++ [x]) W'))
    (W : World) (BE : W.cell? ⟨Bs,0,none⟩ = some (.slice A len cap)) (hc : ∀ i j,i < len→j < 9→∃ g o,A = some ⟨g,o,none⟩∧g < n₀∧W.cell? ⟨g,o + i * 9 + j,none⟩ = some (ev i j)) (h0 : J [] W) :
    CallsIn F n Tryz.prog 263 #[.func (.yield l) #[] #[],.pointer (some ⟨Bs,0,none⟩)] W fun e W'=>(∃ v,e = .returned v) ∧
      ((∃ ys : List (Fin len),ys.map Fin.val = iw len len∧J ys W')∨(∃ pre : List (Fin len),(∃ k,k≤len∧pre.map Fin.val = iw len k)∧Jx pre W')):=by
  refine callsIn_of_wp Tryz.func263 rfl h7 ?_ hro
  simp only [Tryz.ntmps263,List.size_toArray,List.length_cons,List.length_nil,Nat.reduceAdd,Nat.reduceSub,Array.replicate_succ,Array.replicate_zero,List.push_toArray,List.append_toArray,List.nil_append,List.cons_append]
  gi_wp2
  gi_loopw [3] (fun i wr=>∃ (k : Nat) (ys : List (Fin len)),k≤len∧i = .int .i64 ((len : Int) - 1 - k)∧ys.map Fin.val = iw len k∧J ys wr∧Below n₀ W wr)
    (fun i _=>(intOf i + 1).toNat)
  case atStart=>exact ⟨0,[],Nat.zero_le _,by simp,rfl,h0,Below.refl _ _⟩
  case round =>
    obtain ⟨k,ys,hk,rfl,hys,Gv,B0⟩:=hrel
    have hbx : wr.cell? ⟨Bs,0,none⟩ = some (.slice A len cap):=(B0.cell (p:=⟨Bs,0,none⟩) hb).trans BE
    by_cases hlt : k < len
    · have hi : len - 1 - k < len:=by omega
      have kr : ys.length = k:=by have:=congrArg List.length hys; rwa [List.length_map,ND] at this
      obtain ⟨fn,tmps,assign,body,hy,hR⟩:=hY ys ⟨len - 1 - k,hi⟩ wr Gv (by omega)
      have ec : ((len : Int) - 1 - k) = ((len - 1 - k : Nat) : Int):=by omega
      obtain ⟨g,o,hA,hg,c0⟩:=hc (len - 1 - k) 0 hi (by omega)
      have cc : ∀ j,j < 9→wr.cell? ⟨g,o + (len - 1 - k) * 9 + j,none⟩ = some (ev (len - 1 - k) j):=by
        intro j hj
        obtain ⟨g',o',fE,hg',c⟩:=hc (len - 1 - k) j hi hj
        rw [hA] at fE
        cases fE
        exact (B0.cell (p:=⟨g,o + (len - 1 - k) * 9 + j,none⟩) hg').trans c
      subst hA
      dsimp only [wP] at hy
      rw [ec]
      generalize hq : len - 1 - k = q at *
      have d0 : wr.cell? ⟨g,o + q * 9,none⟩ = some (ev q 0):=cc 0 (by omega)
      have d1:=cc 1 (by omega)
      have d2:=cc 2 (by omega)
      have d3:=cc 3 (by omega)
      have d4:=cc 4 (by omega)
      have d5:=cc 5 (by omega)
      have d6:=cc 6 (by omega)
      have d7:=cc 7 (by omega)
      have d8:=cc 8 (by omega)
      gi_wp2
      refine hR.mono ?_
      rintro e W3 (⟨rfl,QY,fX⟩ | ⟨rfl,QZ⟩)
      · gi_wp2
        go_roundw
        case rel=>exact ⟨k + 1,ys ++ [⟨q,hi⟩],by omega,by go_num,by rw [List.map_append,hys,Bi,hq]; rfl,QY,B0.trans fX⟩
        case measure=>simp [intOf]
      · gi_wp2
        refine bodyPost_ret (results_none rfl _ _ _) rfl ?_
        exact ⟨⟨_,rfl⟩,.inr ⟨_,⟨k + 1,by omega,by rw [List.map_append,hys,Bi,hq]; rfl⟩,QZ⟩⟩
    · obtain rfl : k = len:=by omega
      gi_wp2
      go_end0
      exact ⟨⟨_,rfl⟩,.inl ⟨_,hys,Gv⟩⟩
theorem NH (F : Fence) (n : Nat) (h7 : F.fn 263) (hro : F.round = none) (hn : 1≤n) (Bs n₀ len cap : Nat) (A : Option Addr) (ev : Nat→Nat→Value) (eT : len≤1073741824) (hb : Bs < n₀) (w : World) (hn₀ : n₀≤w.heap.size)
    (BE : w.cell? ⟨Bs,0,none⟩ = some (.slice A len cap)) (hc : ∀ i j,i < len→j < 9→∃ g o,A = some ⟨g,o,none⟩∧g < n₀∧w.cell? ⟨g,o + i * 9 + j,none⟩ = some (ev i j)) :
    SeqStopsK F n Tryz.prog 263 #[.pointer (some ⟨Bs,0,none⟩)] (fun x : Fin len=>#[Value.int .i64 (x.1 : Int),wP ev x.1]) (Below n₀) (fun ys=>ys.map Fin.val = iw len len)
      (fun pre=>∃ k,k≤len∧pre.map Fin.val = iw len k) len w:=fun l J Jx W hW _ _ hY h0=>by
  have fF : Below n₀ w W:=hW.mono hn₀
  exact NF F n h7 hro hn l Bs n₀ len cap A ev eT hb J Jx hY W ((fF.cell (p:=⟨Bs,0,none⟩) hb).trans BE) (fun i j hi hj=>by
    obtain ⟨g,o,h1,h2,h3⟩:=hc i j hi hj
    exact ⟨g,o,h1,h2,(fF.cell (p:=⟨g,o + i * 9 + j,none⟩) h2).trans h3⟩) h0
set_option maxHeartbeats 1000000 in
theorem NG (F : Fence) (n : Nat) (h5 : F.fn 182) (hro : F.round = none) (a : Option Addr) (len cap : Nat) (w : World) :
    CallsIn F n Tryz.prog 182 #[.slice a len cap] w fun e w'=>e = .returned (.func (.func 263) #[] #[.pointer (some ⟨w.heap.size,0,none⟩)])∧w' = w.alloc (.cells #[.slice a len cap] 40):=by
  refine callsIn_of_wp Tryz.func182 rfl h5 ?_ hro
  simp only [Tryz.ntmps182,List.size_toArray,List.length_cons,List.length_nil,Nat.reduceAdd,Nat.reduceSub,Array.replicate_succ,Array.replicate_zero,List.push_toArray,List.append_toArray,List.nil_append,List.cons_append]
  gi_wp2
  go_ret
  exact ⟨rfl,rfl⟩
theorem KJ (w : World) : Below w.heap.size w w.drew:=(Below.refl _ _).drew
theorem NI {a b : ByteArray} (h : a.toList = b.toList) : a = b:=by
  rw [ByteArray.toList_eq,ByteArray.toList_eq] at h
  cases a
  cases b
  simp at h
  rw [h]
theorem sM {V U U' : World} (h : Below V.heap.size V U∧KeepsOthers V U) (hb : Below U.heap.size U U') : Below V.heap.size V U'∧KeepsOthers V U' :=
  ⟨h.1.trans (hb.mono h.1.size),h.2.trans ⟨hb.size,fun k o hk _=>(hb.block k (Array.getElem?_eq_some_iff.1 hk).1).trans hk⟩⟩
theorem fS {U : World} {b j : Nat} {arr : Array Value} {t : TypeId} {fz : Nat×Nat} (v : Value) (h : U.heap[b]? = some (.cells arr t fz)) : (U.setCell ⟨b,j,none⟩ v).heap[b]? = some (.cells (arr.setIfInBounds j v) t fz):=by
  obtain ⟨hlt,he⟩:=Array.getElem?_eq_some_iff.1 h
  show (U.heap.modify b _)[b]? = _
  simp [Array.getElem?_modify,h]
theorem fT (U : World) (a : Addr) (v : Value) : (U.setCell a v).heap.size = U.heap.size:=by
  show (U.heap.modify a.block _).size = _
  simp
theorem FU (U : World) (a : Addr) (v : Value) : (U.setCell a v).os = U.os:=rfl
theorem FW (U : World) (a : Addr) (v : Value) : (U.setCell a v).tape = U.tape:=rfl
theorem FV (U : World) (a : Addr) (v : Value) : (U.setCell a v).output = U.output:=rfl
theorem j9 {w : World} {k : Nat} {x : Obj} (h : w.heap[k]? = some x) (o : Obj) : (w.alloc o).heap[k]? = some x:=(Below.heap_alloc w o k (Array.getElem?_eq_some_iff.1 h).1).trans h
theorem p9 (w : World) (o : Obj) {k : Nat} (h : k = w.heap.size) : (w.alloc o).heap[k]? = some o:=by subst h; exact World.alloc_heap_new w o
set_option maxRecDepth 100000 in
set_option maxHeartbeats 1000000 in
theorem FT {W : World} {B4 B5 : Nat} {e : bW} {v : Bool} {tm : Array Value} (t4 : tm[4]? = some (.pointer (some ⟨B4,0,none⟩))) (t5 : tm[5]? = some (.pointer (some ⟨B5,0,none⟩))) (h4 : W.heap[B4]? = some (.cells e.ob 61)) (h5 : W.heap[B5]? = some (.cells #[.bool v] 4)) :
    (results Tryz.f93 tm).run Tryz.prog W = .ok (.tuple #[.agg e.ob,.bool v]) W:=by
  have c0 : W.cell? ⟨B4,0,none⟩ = some (.string e.p):=by simp [World.cell?,h4,bW.ob]
  have c1 : W.cell? ⟨B4,1,none⟩ = some (.slice e.a1 e.l1 e.c1):=by simp [World.cell?,h4,bW.ob]
  have c2 : W.cell? ⟨B4,2,none⟩ = some (.slice e.a2 e.l2 e.c2):=by simp [World.cell?,h4,bW.ob]
  have c3 : W.cell? ⟨B4,3,none⟩ = some (.int .i64 e.s):=by simp [World.cell?,h4,bW.ob]
  have c4 : W.cell? ⟨B4,4,none⟩ = some (.slice e.a3 e.l3 e.c3):=by simp [World.cell?,h4,bW.ob]
  have c5 : W.cell? ⟨B4,5,none⟩ = some (.string e.b):=by simp [World.cell?,h4,bW.ob]
  have c6 : W.cell? ⟨B4,6,none⟩ = some (.int .i64 e.t):=by simp [World.cell?,h4,bW.ob]
  have d0 : W.cell? ⟨B5,0,none⟩ = some (.bool v):=by simp [World.cell?,h5]
  simp [results,Tryz.f93,go_sem,t4,t5,c0,c1,c2,c3,c4,c5,c6,d0,bW.ob]
set_option maxRecDepth 100000 in
set_option maxHeartbeats 4000000 in
theorem NJ (g o : Nat) (A Ab Aq : Option Addr) (len cap lb cb lq cq : Nat) (qm : Int) (qs qb : ByteArray) (E : Nat→bW) (pS pH : Nat→Bool) (R : Nat→bW→World→World→Prop) (w : World)
    (eT : len≤1073741824) (hg : g < w.heap.size) (GZ : w.cell? ⟨g,o + 2,none⟩ = some (.slice A len cap)) (GF : w.cell? ⟨g,o + 3,none⟩ = some (.slice Ab lb cb))
    (hc : ∀ i j,i < len→j < 9→∃ g o,A = some ⟨g,o,none⟩∧g < w.heap.size∧w.cell? ⟨g,o + i * 9 + j,none⟩ = some ((E i).v j))
    (hS : ∀ i,i < len→∀ W,Below w.heap.size w W→Calls Tryz.prog 154 #[.slice (E i).a1 (E i).l1 (E i).c1,.slice (E i).a2 (E i).l2 (E i).c2,.slice Aq lq cq] W fun e W'=>e = .returned (.bool (pS i))∧Below W.heap.size W W')
    (hH : ∀ i,i < len→∀ W,Below w.heap.size w W→Calls Tryz.prog 61 #[.slice Ab lb cb,.agg (E i).ob] W fun e W'=>e = .returned (.bool (pH i))∧Below W.heap.size W W')
    (hC : ∀ i,i < len→∀ W,Below w.heap.size w W→Calls Tryz.prog 183 #[.agg (E i).ob] W fun e W'=>∃ O : bW,e = .returned (.agg O.ob)∧Below W.heap.size W W'∧R i O W W') :
    Calls Tryz.prog 93 #[.pointer (some ⟨g,o,none⟩),.agg #[.int .i64 qm,.string qs,.slice Aq lq cq,.string qb]] w fun e W'=>Below w.heap.size w W' ∧
      ((e = .returned (.tuple #[.agg p8,.bool false])∧∀ i,i < len→¬ ((E i).p = qs∧pS i = true∧pH i = false)) ∨
       (∃ i O W1 W2,i < len∧e = .returned (.tuple #[.agg (bW.ob O),.bool true])∧((E i).p = qs∧pS i = true∧pH i = false)∧(∀ i',i < i'→i' < len→¬ ((E i').p = qs∧pS i' = true∧pH i' = false)) ∧
          Below w.heap.size w W1∧R i O W1 W2∧∀ b arr t fz,W1.heap.size≤b→W2.heap[b]? = some (.cells arr t fz)→W'.heap[b]? = some (.cells arr t fz))):=by
  refine (callsIn_wide (n:=3)).1 ?_
  refine callsIn_of_wp_marks Tryz.func93 rfl trivial ?_ rfl
  simp only [Tryz.ntmps93,List.size_toArray,List.length_cons,List.length_nil,Nat.reduceAdd,Nat.reduceSub,Array.replicate_succ,Array.replicate_zero,List.push_toArray,List.append_toArray,List.nil_append,List.cons_append]
  have BD : Below w.heap.size w ((((w.alloc (.cells #[.pointer (some ⟨g,o,none⟩)] 224)).alloc (.cells #[.int .i64 qm,.string qs,.slice Aq lq cq,.string qb] 66)).alloc (.cells #[.string ⟨#[]⟩,.slice none 0 0,.slice none 0 0,.int .i64 0,.slice none 0 0,.string ⟨#[]⟩,.int .i64 0] 61)).alloc (.cells #[.bool false] 4)) :=
    ((((Below.refl _ w).alloc (Nat.le_refl _) _).alloc (by simp) _).alloc (by simp; omega) _).alloc (by simp; omega) _
  have R3:=(BD.cell (p:=⟨g,o + 2,none⟩) hg).trans GZ
  gi_wp2_with (refine ⟨trivial,?_⟩; gi_at_call 182; refine (NG Fence.wide (3 - 1) trivial rfl _ _ _ _).mono ?_; rintro e w' ⟨rfl,rfl⟩)
  obtain ⟨W0,lu⟩ : ∃ W0,(((((w.alloc (.cells #[.pointer (some ⟨g,o,none⟩)] 224)).alloc (.cells #[.int .i64 qm,.string qs,.slice Aq lq cq,.string qb] 66)).alloc (.cells #[.string ⟨#[]⟩,.slice none 0 0,.slice none 0 0,.int .i64 0,.slice none 0 0,.string ⟨#[]⟩,.int .i64 0] 61)).alloc (.cells #[.bool false] 4)).alloc (.cells #[.slice A len cap] 40)) = W0:=⟨_,rfl⟩
  rw [lu]
  have hsz : W0.heap.size = w.heap.size + 5:=by rw [← lu]; simp
  have BC : Below w.heap.size w W0:=by rw [← lu]; exact BD.alloc (by simp; omega) _
  have b2 : W0.heap[w.heap.size]? = some (.cells #[.pointer (some ⟨g,o,none⟩)] 224):=by rw [← lu]; exact j9 (j9 (j9 (j9 (p9 _ _ rfl) _) _) _) _
  have b3 : W0.heap[w.heap.size + 1]? = some (.cells #[.int .i64 qm,.string qs,.slice Aq lq cq,.string qb] 66):=by rw [← lu]; exact j9 (j9 (j9 (p9 _ _ (by simp)) _) _) _
  have b4 : W0.heap[w.heap.size + 1 + 1]? = some (.cells #[.string ⟨#[]⟩,.slice none 0 0,.slice none 0 0,.int .i64 0,.slice none 0 0,.string ⟨#[]⟩,.int .i64 0] 61):=by rw [← lu]; exact j9 (j9 (p9 _ _ (by simp)) _) _
  have b5 : W0.heap[w.heap.size + 1 + 1 + 1]? = some (.cells #[.bool false] 4):=by rw [← lu]; exact j9 (p9 _ _ (by simp)) _
  have b6 : W0.heap[w.heap.size + 1 + 1 + 1 + 1]? = some (.cells #[.slice A len cap] 40):=by rw [← lu]; exact p9 _ _ (by simp)
  clear lu R3 BD
  refine wpIn_rangeFunc_ownH rfl (by omega) (gf:=263) (lb:=#[.pointer (some ⟨w.heap.size + 1 + 1 + 1 + 1,0,none⟩)]) rfl trivial (enters_of Tryz.func263 (by kernel_rfl) rfl)
    (NH Fence.wide (3 - 1) trivial rfl (by omega) (w.heap.size + 1 + 1 + 1 + 1) W0.heap.size len cap A (fun i=>(E i).v) eT (by omega) W0 (Nat.le_refl _) (by simp [World.cell?,b6])
      (fun i j hi hj=>by obtain ⟨g,o,h1,h2,h3⟩:=hc i j hi hj; exact ⟨g,o,h1,by omega,(BC.cell (p:=⟨g,o + i * 9 + j,none⟩) h2).trans h3⟩))
    belowK_t (belowK_b (Nat.le_refl _)) (Below.refl _ _) (fun _=>rfl)
    (fun pre W=>(∀ y∈pre,¬ ((E y.1).p = qs∧pS y.1 = true∧pH y.1 = false))∧Below W0.heap.size W0 W)
    (fun c pre W=>Below w.heap.size w W∧(c = .ret∧∃ lJ x O W1 W2,pre = lJ ++ [x]∧(∀ y∈lJ,¬ ((E y.1).p = qs∧pS y.1 = true∧pH y.1 = false))∧((E x.1).p = qs∧pS x.1 = true∧pH x.1 = false)∧Below w.heap.size w W1∧R x.1 O W1 W2 ∧
      (∀ b arr t fz,W1.heap.size≤b→W2.heap[b]? = some (.cells arr t fz)→W.heap[b]? = some (.cells arr t fz)) ∧
      W.heap[w.heap.size + 1 + 1]? = some (.cells (bW.ob O) 61)∧W.heap[w.heap.size + 1 + 1 + 1]? = some (.cells #[.bool true] 4)))
    (OwnFrom.and (ownFrom_pure _ _) (ownFrom_below (Nat.le_refl _) (Nat.le_refl _)))
    (fun c=>OwnFrom.and (ownFrom_below (Nat.le_refl _) (by omega)) (fun s W W' row hs hg hr=>by
      obtain ⟨hc,lJ,x,O,W1,W2,e1,e2,e3,e4,e5,e6,e7,e8⟩:=hs
      have kp : ∀ (b : Nat) arr t fz,W.heap[b]? = some (Obj.cells arr t fz)→W'.heap[b]? = some (Obj.cells arr t fz):=fun b arr t fz h=>by
        refine (hg.block b (Array.getElem?_eq_some_iff.1 h).1 fun e=>?_).trans h
        obtain ⟨_,o',ho,hn⟩:=hr b e.symm
        rw [h] at ho
        cases ho
        cases hn
      exact ⟨hc,lJ,x,O,W1,W2,e1,e2,e3,e4,e5,fun b arr t fz hb h=>kp _ _ _ _ (e6 b arr t fz hb h),kp _ _ _ _ e7,kp _ _ _ _ e8⟩))
    ⟨fun y hy=>(by cases hy),Below.refl _ _⟩
    (fun x a' W=>∃ Bx,W0.heap.size≤Bx∧W.heap[Bx]? = some (.cells (E x.1).kp 108) ∧
      a' = { tmps:=#[.pointer (some ⟨g,o,none⟩),.agg #[.int .i64 qm,.string qs,.slice Aq lq cq,.string qb],.pointer (some ⟨w.heap.size,0,none⟩),.pointer (some ⟨w.heap.size + 1,0,none⟩),.pointer (some ⟨w.heap.size + 1 + 1,0,none⟩),.pointer (some ⟨w.heap.size + 1 + 1 + 1,0,none⟩),undef,.pointer (some ⟨Bx,0,none⟩),undef,.pointer (some ⟨g,o,none⟩),.pointer (some ⟨g,o,none⟩),.pointer (some ⟨g,o + 2,none⟩),.slice A len cap,.func (.func 263) #[] #[.pointer (some ⟨w.heap.size + 1 + 1 + 1 + 1,0,none⟩)],.int .i64 (x.1 : Int),.agg (E x.1).kp,undef,undef,undef,undef,undef,undef,undef,undef,undef,undef,undef,undef,undef,undef,undef,undef,undef,undef,undef,undef,undef,undef,undef,undef,undef,undef,undef,undef],defers:=[] })
    (fun x a' s W W' row hs hg hr=>by
      obtain ⟨Bx,h1,h2,h3⟩:=hs
      refine ⟨Bx,h1,(hg.block Bx (Array.getElem?_eq_some_iff.1 h2).1 fun e=>?_).trans h2,h3⟩
      obtain ⟨_,o',ho,hn⟩:=hr Bx e.symm
      rw [h2] at ho
      cases ho
      cases hn)
    ?assign ?body ?done ?stop
  case assign =>
    rintro l pre x W K hi hK
    dsimp only [wP,bW.v,bW.kp] at hK ⊢
    gi_wp2
    exact hK _ _ ((KeepsOthers.alloc _ _).from _) ((Below.refl _ W).alloc hi.2.size _) ⟨hi.1,hi.2.alloc hi.2.size _⟩ ⟨W.heap.size,hi.2.size,World.alloc_heap_new W _,rfl⟩
  case body =>
    rintro l pre x a' W hl ⟨r,hr⟩ ⟨hi1,hi2⟩ ⟨Bx,Z8,bX,rfl⟩ hlt
    have hx:=x.2
    have GY:=hi2.size
    have Cd : Below w.heap.size w W:=BC.trans (hi2.mono (by omega))
    have k2 : W.heap[w.heap.size]? = some (.cells #[.pointer (some ⟨g,o,none⟩)] 224):=(hi2.block _ (by omega)).trans b2
    have k3 : W.heap[w.heap.size + 1]? = some (.cells #[.int .i64 qm,.string qs,.slice Aq lq cq,.string qb] 66):=(hi2.block _ (by omega)).trans b3
    have hbW : W.cell? ⟨g,o + 3,none⟩ = some (.slice Ab lb cb):=(Cd.cell (p:=⟨g,o + 3,none⟩) hg).trans GF
    have e2 : W.cell? ⟨w.heap.size,0,none⟩ = some (.pointer (some ⟨g,o,none⟩)):=by simp [World.cell?,k2]
    have e3 : W.cell? ⟨w.heap.size + 1,1,none⟩ = some (.string qs):=by simp [World.cell?,k3]
    have FB : W.cell? ⟨w.heap.size + 1,2,none⟩ = some (.slice Aq lq cq):=by simp [World.cell?,k3]
    dsimp only [bW.kp] at bX ⊢
    have x0 : W.cell? ⟨Bx,0,none⟩ = some (.string (E x.1).p):=by simp [World.cell?,bX]
    have x1 : W.cell? ⟨Bx,1,none⟩ = some (.slice (E x.1).a1 (E x.1).l1 (E x.1).c1):=by simp [World.cell?,bX]
    have x2 : W.cell? ⟨Bx,2,none⟩ = some (.slice (E x.1).a2 (E x.1).l2 (E x.1).c2):=by simp [World.cell?,bX]
    have x3 : W.cell? ⟨Bx,3,none⟩ = some (.int .i64 (E x.1).s):=by simp [World.cell?,bX]
    have x4 : W.cell? ⟨Bx,4,none⟩ = some (.slice (E x.1).a3 (E x.1).l3 (E x.1).c3):=by simp [World.cell?,bX]
    have x5 : W.cell? ⟨Bx,5,none⟩ = some (.string (E x.1).b):=by simp [World.cell?,bX]
    have x6 : W.cell? ⟨Bx,6,none⟩ = some (.int .i64 (E x.1).t):=by simp [World.cell?,bX]
    gi_wp2
    have RG : Tryz.prog.follows .mixedOrders = true:=by kernel_rfl
    obtain ⟨V,hV⟩ : ∃ V,W.alloc (.cells #[.string (E x.1).p,.slice (E x.1).a1 (E x.1).l1 (E x.1).c1,.slice (E x.1).a2 (E x.1).l2 (E x.1).c2,.int .i64 (E x.1).s,.slice (E x.1).a3 (E x.1).l3 (E x.1).c3,.string (E x.1).b,.int .i64 (E x.1).t] 61) = V:=⟨_,rfl⟩
    rw [hV]
    have bV : Below W.heap.size W V:=by rw [← hV]; exact (Below.refl _ W).alloc (Nat.le_refl _) _
    have Q3 : V.heap[W.heap.size]? = some (.cells (E x.1).ob 61):=by rw [← hV]; exact p9 _ _ rfl
    have GA : KeepsOthers W V:=by rw [← hV]; exact KeepsOthers.alloc _ _
    have hVz : V.heap.size = W.heap.size + 1:=by rw [← hV]; simp
    clear hV
    have hl : ∀ (U : World),Below V.heap.size V U→U.cell? ⟨w.heap.size,0,none⟩ = some (.pointer (some ⟨g,o,none⟩))∧U.cell? ⟨g,o + 3,none⟩ = some (.slice Ab lb cb)∧U.cell? ⟨w.heap.size + 1,1,none⟩ = some (.string qs)∧U.cell? ⟨w.heap.size + 1,2,none⟩ = some (.slice Aq lq cq) ∧
        U.cell? ⟨W.heap.size,0,none⟩ = some (.string (E x.1).p)∧U.cell? ⟨W.heap.size,1,none⟩ = some (.slice (E x.1).a1 (E x.1).l1 (E x.1).c1)∧U.cell? ⟨W.heap.size,2,none⟩ = some (.slice (E x.1).a2 (E x.1).l2 (E x.1).c2)∧U.cell? ⟨W.heap.size,3,none⟩ = some (.int .i64 (E x.1).s)∧U.cell? ⟨W.heap.size,4,none⟩ = some (.slice (E x.1).a3 (E x.1).l3 (E x.1).c3)∧U.cell? ⟨W.heap.size,5,none⟩ = some (.string (E x.1).b)∧U.cell? ⟨W.heap.size,6,none⟩ = some (.int .i64 (E x.1).t):=by
      intro U hU
      have o1 : ∀ a v,a.block < W.heap.size→W.cell? a = some v→U.cell? a = some v:=fun a v ha h=>(hU.cell (p:=a) (by omega)).trans ((bV.cell (p:=a) ha).trans h)
      have o2 : U.heap[W.heap.size]? = some (.cells (E x.1).ob 61):=(hU.block _ (by omega)).trans Q3
      refine ⟨o1 ⟨w.heap.size,0,none⟩ _ (by show w.heap.size < W.heap.size; omega) e2,o1 ⟨g,o + 3,none⟩ _ (by show g < W.heap.size; omega) hbW,o1 ⟨w.heap.size + 1,1,none⟩ _ (by show w.heap.size + 1 < W.heap.size; omega) e3,o1 ⟨w.heap.size + 1,2,none⟩ _ (by show w.heap.size + 1 < W.heap.size; omega) FB,?_,?_,?_,?_,?_,?_,?_⟩ <;> simp [World.cell?,o2,bW.ob]
    obtain ⟨v1,v2,v3,v4,v5,v6,v7,v8,v9,v10,v11⟩:=hl V (Below.refl _ _)
    have qw : Below w.heap.size w V:=Cd.trans (bV.mono Cd.size)
    have aT : Below V.heap.size V V.drew∧KeepsOthers V V.drew:=⟨KJ V,⟨Nat.le_refl _,fun k o hk _=>hk⟩⟩
    clear v1 v2 v3 v4 v5 v6 v7 v8 v9 v10 v11 e2 e3 FB x0 x1 x2 x3 x4 x5 x6 hbW k2 k3 GZ GF hc
    refine M.Un (S:=fun U=>Below V.heap.size V U∧KeepsOthers V U) RG (by kernel_rfl) (N:=23) rfl ?_
    change wpAnyH _ _ _ _ _ 23 #[false,false,false,false,false,false,false,false,false,false,false,false,false,false,false,false,false,false,false,false,false,false,false] _ _
    have wR : ∀ U,(Below V.heap.size V U∧KeepsOthers V U)→¬ ((E x.1).p = qs∧pS x.1 = true∧pH x.1 = false) →
        KeepsFrom W0.heap.size W U∧Below W0.heap.size W U∧((∀ y∈pre ++ [x],¬ ((E y.1).p = qs∧pS y.1 = true∧pH y.1 = false))∧Below W0.heap.size W0 U):=by
      intro U hU hn
      have h1 : Below W0.heap.size W U:=(bV.mono GY).trans (hU.1.mono (by omega))
      exact ⟨(GA.trans hU.2).from _,h1,fun y hy=>(List.mem_append.1 hy).elim (hi1 y) (fun e=>by simp at e; subst e; exact hn),hi2.trans h1⟩
    by_cases hp : (E x.1).p = qs
    · have hd0 : (E x.1).p.toList = qs.toList:=by rw [hp]
      have hd1 : ((E x.1).p.toList == qs.toList) = true:=by simpa using hd0
      have Rc : decide ((E x.1).p.toList = qs.toList) = true:=by simpa using hd0
      cases hs : pS x.1 with
      | false =>
        refine M.aL (i:=0) (v:=.pointer (some ⟨W.heap.size,0,none⟩)) (aK:=#[true,false,false,false,false,false,false,false,false,false,false,false,false,false,false,false,false,false,false,false,false,false,false]) rfl (by kernel_rfl) (by kernel_rfl) (by kernel_rfl) (fun _ _ _ h=>h) rfl rfl aT (Or.inl ⟨by rfl,?_⟩) ?_
        · intro U hU; obtain ⟨u1,u2,u3,u4,u5,u6,u7,u8,u9,aU,aV⟩:=hl U hU.1; clear hl hS hH hC; go_simp
        simp only [List.setIfInBounds_toArray,List.set_cons_zero,List.set_cons_succ]
        refine M.aL (i:=1) (v:=.string (E x.1).p) (aK:=#[true,true,false,false,false,false,false,false,false,false,false,false,false,false,false,false,false,false,false,false,false,false,false]) rfl (by kernel_rfl) (by kernel_rfl) (by kernel_rfl) (fun _ _ _ h=>h) rfl rfl aT (Or.inl ⟨by rfl,?_⟩) ?_
        · intro U hU; obtain ⟨u1,u2,u3,u4,u5,u6,u7,u8,u9,aU,aV⟩:=hl U hU.1; clear hl hS hH hC; go_simp
        simp only [List.setIfInBounds_toArray,List.set_cons_zero,List.set_cons_succ]
        refine M.aL (i:=2) (v:=.pointer (some ⟨w.heap.size + 1,1,none⟩)) (aK:=#[true,true,true,false,false,false,false,false,false,false,false,false,false,false,false,false,false,false,false,false,false,false,false]) rfl (by kernel_rfl) (by kernel_rfl) (by kernel_rfl) (fun _ _ _ h=>h) rfl rfl aT (Or.inl ⟨by rfl,?_⟩) ?_
        · intro U hU; obtain ⟨u1,u2,u3,u4,u5,u6,u7,u8,u9,aU,aV⟩:=hl U hU.1; clear hl hS hH hC; go_simp
        simp only [List.setIfInBounds_toArray,List.set_cons_zero,List.set_cons_succ]
        refine M.aL (i:=3) (v:=.string qs) (aK:=#[true,true,true,true,false,false,false,false,false,false,false,false,false,false,false,false,false,false,false,false,false,false,false]) rfl (by kernel_rfl) (by kernel_rfl) (by kernel_rfl) (fun _ _ _ h=>h) rfl rfl aT (Or.inl ⟨by rfl,?_⟩) ?_
        · intro U hU; obtain ⟨u1,u2,u3,u4,u5,u6,u7,u8,u9,aU,aV⟩:=hl U hU.1; clear hl hS hH hC; go_simp
        simp only [List.setIfInBounds_toArray,List.set_cons_zero,List.set_cons_succ]
        refine M.aL (i:=4) (v:=.bool true) (aK:=#[true,true,true,true,true,false,false,false,false,false,false,false,false,false,false,false,false,false,false,false,false,false,false]) rfl (by kernel_rfl) (by kernel_rfl) (by kernel_rfl) (fun _ _ _ h=>h) rfl rfl aT (Or.inl ⟨by rfl,?_⟩) ?_
        · intro U hU; obtain ⟨u1,u2,u3,u4,u5,u6,u7,u8,u9,aU,aV⟩:=hl U hU.1; clear hl hS hH hC; go_simp
        simp only [List.setIfInBounds_toArray,List.set_cons_zero,List.set_cons_succ]
        refine M.aL (i:=5) (v:=.bool true) (aK:=#[true,true,true,true,true,true,false,false,false,false,false,false,false,false,false,false,false,false,false,false,false,false,false]) rfl (by kernel_rfl) (by kernel_rfl) (by kernel_rfl) (fun _ _ _ h=>h) rfl rfl aT (Or.inl ⟨by rfl,?_⟩) ?_
        · intro U hU; obtain ⟨u1,u2,u3,u4,u5,u6,u7,u8,u9,aU,aV⟩:=hl U hU.1; clear hl hS hH hC; go_simp
        simp only [List.setIfInBounds_toArray,List.set_cons_zero,List.set_cons_succ]
        refine M.aL (i:=6) (v:=.pointer (some ⟨W.heap.size,1,none⟩)) (aK:=#[true,true,true,true,true,true,true,false,false,false,false,false,false,false,false,false,false,false,false,false,false,false,false]) rfl (by kernel_rfl) (by kernel_rfl) (by kernel_rfl) (fun _ _ _ h=>h) rfl rfl aT (Or.inl ⟨by rfl,?_⟩) ?_
        · intro U hU; obtain ⟨u1,u2,u3,u4,u5,u6,u7,u8,u9,aU,aV⟩:=hl U hU.1; clear hl hS hH hC; go_simp
        simp only [List.setIfInBounds_toArray,List.set_cons_zero,List.set_cons_succ]
        refine M.aL (i:=7) (v:=.slice (E x.1).a1 (E x.1).l1 (E x.1).c1) (aK:=#[true,true,true,true,true,true,true,true,false,false,false,false,false,false,false,false,false,false,false,false,false,false,false]) rfl (by kernel_rfl) (by kernel_rfl) (by kernel_rfl) (fun _ _ _ h=>h) rfl rfl aT (Or.inl ⟨by rfl,?_⟩) ?_
        · intro U hU; obtain ⟨u1,u2,u3,u4,u5,u6,u7,u8,u9,aU,aV⟩:=hl U hU.1; clear hl hS hH hC; go_simp
        simp only [List.setIfInBounds_toArray,List.set_cons_zero,List.set_cons_succ]
        refine M.aL (i:=8) (v:=.pointer (some ⟨W.heap.size,2,none⟩)) (aK:=#[true,true,true,true,true,true,true,true,true,false,false,false,false,false,false,false,false,false,false,false,false,false,false]) rfl (by kernel_rfl) (by kernel_rfl) (by kernel_rfl) (fun _ _ _ h=>h) rfl rfl aT (Or.inl ⟨by rfl,?_⟩) ?_
        · intro U hU; obtain ⟨u1,u2,u3,u4,u5,u6,u7,u8,u9,aU,aV⟩:=hl U hU.1; clear hl hS hH hC; go_simp
        simp only [List.setIfInBounds_toArray,List.set_cons_zero,List.set_cons_succ]
        refine M.aL (i:=9) (v:=.slice (E x.1).a2 (E x.1).l2 (E x.1).c2) (aK:=#[true,true,true,true,true,true,true,true,true,true,false,false,false,false,false,false,false,false,false,false,false,false,false]) rfl (by kernel_rfl) (by kernel_rfl) (by kernel_rfl) (fun _ _ _ h=>h) rfl rfl aT (Or.inl ⟨by rfl,?_⟩) ?_
        · intro U hU; obtain ⟨u1,u2,u3,u4,u5,u6,u7,u8,u9,aU,aV⟩:=hl U hU.1; clear hl hS hH hC; go_simp
        simp only [List.setIfInBounds_toArray,List.set_cons_zero,List.set_cons_succ]
        refine M.aL (i:=10) (v:=.pointer (some ⟨w.heap.size + 1,2,none⟩)) (aK:=#[true,true,true,true,true,true,true,true,true,true,true,false,false,false,false,false,false,false,false,false,false,false,false]) rfl (by kernel_rfl) (by kernel_rfl) (by kernel_rfl) (fun _ _ _ h=>h) rfl rfl aT (Or.inl ⟨by rfl,?_⟩) ?_
        · intro U hU; obtain ⟨u1,u2,u3,u4,u5,u6,u7,u8,u9,aU,aV⟩:=hl U hU.1; clear hl hS hH hC; go_simp
        simp only [List.setIfInBounds_toArray,List.set_cons_zero,List.set_cons_succ]
        refine M.aL (i:=11) (v:=.slice Aq lq cq) (aK:=#[true,true,true,true,true,true,true,true,true,true,true,true,false,false,false,false,false,false,false,false,false,false,false]) rfl (by kernel_rfl) (by kernel_rfl) (by kernel_rfl) (fun _ _ _ h=>h) rfl rfl aT (Or.inl ⟨by rfl,?_⟩) ?_
        · intro U hU; obtain ⟨u1,u2,u3,u4,u5,u6,u7,u8,u9,aU,aV⟩:=hl U hU.1; clear hl hS hH hC; go_simp
        simp only [List.setIfInBounds_toArray,List.set_cons_zero,List.set_cons_succ]
        refine wpAnyH_ready (rs:=[12]) (by kernel_rfl) (by simp) ?_
        refine AllReadyH.cons rfl (fun K' eH=>?_) AllReadyH.nil
        go_simp
        go_at_call 154
        refine (hS x.1 hx _ (qw.trans (aT.1.mono (by omega)))).mono ?_
        rintro e U1 ⟨rfl,cT⟩
        have cC:=sM aT cT
        rw [hs]
        refine eH.out _ _ cC (fun _=>?_)
        clear eH
        change wpAnyH _ _ _ _ _ 10 #[true,true,true,true,true,true,true,true,true,true,true,true,true,false,false,false,false,false,false,false,false,false,false] _ _
        try simp only [Act.put,List.setIfInBounds_toArray,List.set_cons_zero,List.set_cons_succ]
        refine M.aL (i:=13) (v:=.bool false) (aK:=#[true,true,true,true,true,true,true,true,true,true,true,true,true,true,false,false,false,false,false,false,false,false,false]) rfl (by kernel_rfl) (by kernel_rfl) (by kernel_rfl) (fun _ _ _ h=>h) rfl rfl cC (Or.inl ⟨by rfl,?_⟩) ?_
        · intro U hU; obtain ⟨u1,u2,u3,u4,u5,u6,u7,u8,u9,aU,aV⟩:=hl U hU.1; clear hl hS hH hC; go_simp
        simp only [List.setIfInBounds_toArray,List.set_cons_zero,List.set_cons_succ]
        refine M.aL (i:=14) (v:=.bool false) (aK:=#[true,true,true,true,true,true,true,true,true,true,true,true,true,true,true,false,false,false,false,false,false,false,false]) rfl (by kernel_rfl) (by kernel_rfl) (by kernel_rfl) (fun _ _ _ h=>h) rfl rfl cC (Or.inl ⟨by rfl,?_⟩) ?_
        · intro U hU; obtain ⟨u1,u2,u3,u4,u5,u6,u7,u8,u9,aU,aV⟩:=hl U hU.1; clear hl hS hH hC; go_simp
        simp only [List.setIfInBounds_toArray,List.set_cons_zero,List.set_cons_succ]
        refine M.aL (i:=15) (v:=undef) (aK:=#[true,true,true,true,true,true,true,true,true,true,true,true,true,true,true,true,false,false,false,false,false,false,false]) rfl (by kernel_rfl) (by kernel_rfl) (by kernel_rfl) (fun _ _ _ h=>h) rfl rfl cC (Or.inr ⟨by rfl,rfl⟩) ?_
        simp only [List.setIfInBounds_toArray,List.set_cons_zero,List.set_cons_succ]
        refine M.aL (i:=16) (v:=undef) (aK:=#[true,true,true,true,true,true,true,true,true,true,true,true,true,true,true,true,true,false,false,false,false,false,false]) rfl (by kernel_rfl) (by kernel_rfl) (by kernel_rfl) (fun _ _ _ h=>h) rfl rfl cC (Or.inr ⟨by rfl,rfl⟩) ?_
        simp only [List.setIfInBounds_toArray,List.set_cons_zero,List.set_cons_succ]
        refine M.aL (i:=17) (v:=undef) (aK:=#[true,true,true,true,true,true,true,true,true,true,true,true,true,true,true,true,true,true,false,false,false,false,false]) rfl (by kernel_rfl) (by kernel_rfl) (by kernel_rfl) (fun _ _ _ h=>h) rfl rfl cC (Or.inr ⟨by rfl,rfl⟩) ?_
        simp only [List.setIfInBounds_toArray,List.set_cons_zero,List.set_cons_succ]
        refine M.aL (i:=18) (v:=undef) (aK:=#[true,true,true,true,true,true,true,true,true,true,true,true,true,true,true,true,true,true,true,false,false,false,false]) rfl (by kernel_rfl) (by kernel_rfl) (by kernel_rfl) (fun _ _ _ h=>h) rfl rfl cC (Or.inr ⟨by rfl,rfl⟩) ?_
        simp only [List.setIfInBounds_toArray,List.set_cons_zero,List.set_cons_succ]
        refine M.aL (i:=19) (v:=undef) (aK:=#[true,true,true,true,true,true,true,true,true,true,true,true,true,true,true,true,true,true,true,true,false,false,false]) rfl (by kernel_rfl) (by kernel_rfl) (by kernel_rfl) (fun _ _ _ h=>h) rfl rfl cC (Or.inr ⟨by rfl,rfl⟩) ?_
        simp only [List.setIfInBounds_toArray,List.set_cons_zero,List.set_cons_succ]
        refine M.aL (i:=20) (v:=undef) (aK:=#[true,true,true,true,true,true,true,true,true,true,true,true,true,true,true,true,true,true,true,true,true,false,false]) rfl (by kernel_rfl) (by kernel_rfl) (by kernel_rfl) (fun _ _ _ h=>h) rfl rfl cC (Or.inr ⟨by rfl,rfl⟩) ?_
        simp only [List.setIfInBounds_toArray,List.set_cons_zero,List.set_cons_succ]
        refine M.aL (i:=21) (v:=undef) (aK:=#[true,true,true,true,true,true,true,true,true,true,true,true,true,true,true,true,true,true,true,true,true,true,false]) rfl (by kernel_rfl) (by kernel_rfl) (by kernel_rfl) (fun _ _ _ h=>h) rfl rfl cC (Or.inr ⟨by rfl,rfl⟩) ?_
        simp only [List.setIfInBounds_toArray,List.set_cons_zero,List.set_cons_succ]
        refine M.aL (i:=22) (v:=.bool false) (aK:=#[true,true,true,true,true,true,true,true,true,true,true,true,true,true,true,true,true,true,true,true,true,true,true]) rfl (by kernel_rfl) (by kernel_rfl) (by kernel_rfl) (fun _ _ _ h=>h) rfl rfl cC (Or.inl ⟨by rfl,?_⟩) ?_
        · intro U hU; obtain ⟨u1,u2,u3,u4,u5,u6,u7,u8,u9,aU,aV⟩:=hl U hU.1; clear hl hS hH hC; go_simp
        simp only [List.setIfInBounds_toArray,List.set_cons_zero,List.set_cons_succ]
        refine wpAnyH_done (by kernel_rfl) ?_ _
        dsimp only [M.atEnd]
        gi_wp2
        exact wR _ cC (fun h=>by rw [hs] at h; cases h.2.1)
      | true =>
        cases hh : pH x.1 with
        | true =>
          refine M.aL (i:=0) (v:=.pointer (some ⟨W.heap.size,0,none⟩)) (aK:=#[true,false,false,false,false,false,false,false,false,false,false,false,false,false,false,false,false,false,false,false,false,false,false]) rfl (by kernel_rfl) (by kernel_rfl) (by kernel_rfl) (fun _ _ _ h=>h) rfl rfl aT (Or.inl ⟨by rfl,?_⟩) ?_
          · intro U hU; obtain ⟨u1,u2,u3,u4,u5,u6,u7,u8,u9,aU,aV⟩:=hl U hU.1; clear hl hS hH hC; go_simp
          simp only [List.setIfInBounds_toArray,List.set_cons_zero,List.set_cons_succ]
          refine M.aL (i:=1) (v:=.string (E x.1).p) (aK:=#[true,true,false,false,false,false,false,false,false,false,false,false,false,false,false,false,false,false,false,false,false,false,false]) rfl (by kernel_rfl) (by kernel_rfl) (by kernel_rfl) (fun _ _ _ h=>h) rfl rfl aT (Or.inl ⟨by rfl,?_⟩) ?_
          · intro U hU; obtain ⟨u1,u2,u3,u4,u5,u6,u7,u8,u9,aU,aV⟩:=hl U hU.1; clear hl hS hH hC; go_simp
          simp only [List.setIfInBounds_toArray,List.set_cons_zero,List.set_cons_succ]
          refine M.aL (i:=2) (v:=.pointer (some ⟨w.heap.size + 1,1,none⟩)) (aK:=#[true,true,true,false,false,false,false,false,false,false,false,false,false,false,false,false,false,false,false,false,false,false,false]) rfl (by kernel_rfl) (by kernel_rfl) (by kernel_rfl) (fun _ _ _ h=>h) rfl rfl aT (Or.inl ⟨by rfl,?_⟩) ?_
          · intro U hU; obtain ⟨u1,u2,u3,u4,u5,u6,u7,u8,u9,aU,aV⟩:=hl U hU.1; clear hl hS hH hC; go_simp
          simp only [List.setIfInBounds_toArray,List.set_cons_zero,List.set_cons_succ]
          refine M.aL (i:=3) (v:=.string qs) (aK:=#[true,true,true,true,false,false,false,false,false,false,false,false,false,false,false,false,false,false,false,false,false,false,false]) rfl (by kernel_rfl) (by kernel_rfl) (by kernel_rfl) (fun _ _ _ h=>h) rfl rfl aT (Or.inl ⟨by rfl,?_⟩) ?_
          · intro U hU; obtain ⟨u1,u2,u3,u4,u5,u6,u7,u8,u9,aU,aV⟩:=hl U hU.1; clear hl hS hH hC; go_simp
          simp only [List.setIfInBounds_toArray,List.set_cons_zero,List.set_cons_succ]
          refine M.aL (i:=4) (v:=.bool true) (aK:=#[true,true,true,true,true,false,false,false,false,false,false,false,false,false,false,false,false,false,false,false,false,false,false]) rfl (by kernel_rfl) (by kernel_rfl) (by kernel_rfl) (fun _ _ _ h=>h) rfl rfl aT (Or.inl ⟨by rfl,?_⟩) ?_
          · intro U hU; obtain ⟨u1,u2,u3,u4,u5,u6,u7,u8,u9,aU,aV⟩:=hl U hU.1; clear hl hS hH hC; go_simp
          simp only [List.setIfInBounds_toArray,List.set_cons_zero,List.set_cons_succ]
          refine M.aL (i:=5) (v:=.bool true) (aK:=#[true,true,true,true,true,true,false,false,false,false,false,false,false,false,false,false,false,false,false,false,false,false,false]) rfl (by kernel_rfl) (by kernel_rfl) (by kernel_rfl) (fun _ _ _ h=>h) rfl rfl aT (Or.inl ⟨by rfl,?_⟩) ?_
          · intro U hU; obtain ⟨u1,u2,u3,u4,u5,u6,u7,u8,u9,aU,aV⟩:=hl U hU.1; clear hl hS hH hC; go_simp
          simp only [List.setIfInBounds_toArray,List.set_cons_zero,List.set_cons_succ]
          refine M.aL (i:=6) (v:=.pointer (some ⟨W.heap.size,1,none⟩)) (aK:=#[true,true,true,true,true,true,true,false,false,false,false,false,false,false,false,false,false,false,false,false,false,false,false]) rfl (by kernel_rfl) (by kernel_rfl) (by kernel_rfl) (fun _ _ _ h=>h) rfl rfl aT (Or.inl ⟨by rfl,?_⟩) ?_
          · intro U hU; obtain ⟨u1,u2,u3,u4,u5,u6,u7,u8,u9,aU,aV⟩:=hl U hU.1; clear hl hS hH hC; go_simp
          simp only [List.setIfInBounds_toArray,List.set_cons_zero,List.set_cons_succ]
          refine M.aL (i:=7) (v:=.slice (E x.1).a1 (E x.1).l1 (E x.1).c1) (aK:=#[true,true,true,true,true,true,true,true,false,false,false,false,false,false,false,false,false,false,false,false,false,false,false]) rfl (by kernel_rfl) (by kernel_rfl) (by kernel_rfl) (fun _ _ _ h=>h) rfl rfl aT (Or.inl ⟨by rfl,?_⟩) ?_
          · intro U hU; obtain ⟨u1,u2,u3,u4,u5,u6,u7,u8,u9,aU,aV⟩:=hl U hU.1; clear hl hS hH hC; go_simp
          simp only [List.setIfInBounds_toArray,List.set_cons_zero,List.set_cons_succ]
          refine M.aL (i:=8) (v:=.pointer (some ⟨W.heap.size,2,none⟩)) (aK:=#[true,true,true,true,true,true,true,true,true,false,false,false,false,false,false,false,false,false,false,false,false,false,false]) rfl (by kernel_rfl) (by kernel_rfl) (by kernel_rfl) (fun _ _ _ h=>h) rfl rfl aT (Or.inl ⟨by rfl,?_⟩) ?_
          · intro U hU; obtain ⟨u1,u2,u3,u4,u5,u6,u7,u8,u9,aU,aV⟩:=hl U hU.1; clear hl hS hH hC; go_simp
          simp only [List.setIfInBounds_toArray,List.set_cons_zero,List.set_cons_succ]
          refine M.aL (i:=9) (v:=.slice (E x.1).a2 (E x.1).l2 (E x.1).c2) (aK:=#[true,true,true,true,true,true,true,true,true,true,false,false,false,false,false,false,false,false,false,false,false,false,false]) rfl (by kernel_rfl) (by kernel_rfl) (by kernel_rfl) (fun _ _ _ h=>h) rfl rfl aT (Or.inl ⟨by rfl,?_⟩) ?_
          · intro U hU; obtain ⟨u1,u2,u3,u4,u5,u6,u7,u8,u9,aU,aV⟩:=hl U hU.1; clear hl hS hH hC; go_simp
          simp only [List.setIfInBounds_toArray,List.set_cons_zero,List.set_cons_succ]
          refine M.aL (i:=10) (v:=.pointer (some ⟨w.heap.size + 1,2,none⟩)) (aK:=#[true,true,true,true,true,true,true,true,true,true,true,false,false,false,false,false,false,false,false,false,false,false,false]) rfl (by kernel_rfl) (by kernel_rfl) (by kernel_rfl) (fun _ _ _ h=>h) rfl rfl aT (Or.inl ⟨by rfl,?_⟩) ?_
          · intro U hU; obtain ⟨u1,u2,u3,u4,u5,u6,u7,u8,u9,aU,aV⟩:=hl U hU.1; clear hl hS hH hC; go_simp
          simp only [List.setIfInBounds_toArray,List.set_cons_zero,List.set_cons_succ]
          refine M.aL (i:=11) (v:=.slice Aq lq cq) (aK:=#[true,true,true,true,true,true,true,true,true,true,true,true,false,false,false,false,false,false,false,false,false,false,false]) rfl (by kernel_rfl) (by kernel_rfl) (by kernel_rfl) (fun _ _ _ h=>h) rfl rfl aT (Or.inl ⟨by rfl,?_⟩) ?_
          · intro U hU; obtain ⟨u1,u2,u3,u4,u5,u6,u7,u8,u9,aU,aV⟩:=hl U hU.1; clear hl hS hH hC; go_simp
          simp only [List.setIfInBounds_toArray,List.set_cons_zero,List.set_cons_succ]
          refine wpAnyH_ready (rs:=[12]) (by kernel_rfl) (by simp) ?_
          refine AllReadyH.cons rfl (fun K' eH=>?_) AllReadyH.nil
          go_simp
          go_at_call 154
          refine (hS x.1 hx _ (qw.trans (aT.1.mono (by omega)))).mono ?_
          rintro e U1 ⟨rfl,cT⟩
          have cC:=sM aT cT
          rw [hs]
          refine eH.out _ _ cC (fun _=>?_)
          clear eH
          change wpAnyH _ _ _ _ _ 10 #[true,true,true,true,true,true,true,true,true,true,true,true,true,false,false,false,false,false,false,false,false,false,false] _ _
          try simp only [Act.put,List.setIfInBounds_toArray,List.set_cons_zero,List.set_cons_succ]
          refine M.aL (i:=13) (v:=.bool true) (aK:=#[true,true,true,true,true,true,true,true,true,true,true,true,true,true,false,false,false,false,false,false,false,false,false]) rfl (by kernel_rfl) (by kernel_rfl) (by kernel_rfl) (fun _ _ _ h=>h) rfl rfl cC (Or.inl ⟨by rfl,?_⟩) ?_
          · intro U hU; obtain ⟨u1,u2,u3,u4,u5,u6,u7,u8,u9,aU,aV⟩:=hl U hU.1; clear hl hS hH hC; go_simp
          simp only [List.setIfInBounds_toArray,List.set_cons_zero,List.set_cons_succ]
          refine M.aL (i:=14) (v:=.bool true) (aK:=#[true,true,true,true,true,true,true,true,true,true,true,true,true,true,true,false,false,false,false,false,false,false,false]) rfl (by kernel_rfl) (by kernel_rfl) (by kernel_rfl) (fun _ _ _ h=>h) rfl rfl cC (Or.inl ⟨by rfl,?_⟩) ?_
          · intro U hU; obtain ⟨u1,u2,u3,u4,u5,u6,u7,u8,u9,aU,aV⟩:=hl U hU.1; clear hl hS hH hC; go_simp
          simp only [List.setIfInBounds_toArray,List.set_cons_zero,List.set_cons_succ]
          refine M.aL (i:=15) (v:=.pointer (some ⟨g,o,none⟩)) (aK:=#[true,true,true,true,true,true,true,true,true,true,true,true,true,true,true,true,false,false,false,false,false,false,false]) rfl (by kernel_rfl) (by kernel_rfl) (by kernel_rfl) (fun _ _ _ h=>h) rfl rfl cC (Or.inl ⟨by rfl,?_⟩) ?_
          · intro U hU; obtain ⟨u1,u2,u3,u4,u5,u6,u7,u8,u9,aU,aV⟩:=hl U hU.1; clear hl hS hH hC; go_simp
          simp only [List.setIfInBounds_toArray,List.set_cons_zero,List.set_cons_succ]
          refine M.aL (i:=16) (v:=.pointer (some ⟨g,o,none⟩)) (aK:=#[true,true,true,true,true,true,true,true,true,true,true,true,true,true,true,true,true,false,false,false,false,false,false]) rfl (by kernel_rfl) (by kernel_rfl) (by kernel_rfl) (fun _ _ _ h=>h) rfl rfl cC (Or.inl ⟨by rfl,?_⟩) ?_
          · intro U hU; obtain ⟨u1,u2,u3,u4,u5,u6,u7,u8,u9,aU,aV⟩:=hl U hU.1; clear hl hS hH hC; go_simp
          simp only [List.setIfInBounds_toArray,List.set_cons_zero,List.set_cons_succ]
          refine M.aL (i:=17) (v:=.pointer (some ⟨g,o + 3,none⟩)) (aK:=#[true,true,true,true,true,true,true,true,true,true,true,true,true,true,true,true,true,true,false,false,false,false,false]) rfl (by kernel_rfl) (by kernel_rfl) (by kernel_rfl) (fun _ _ _ h=>h) rfl rfl cC (Or.inl ⟨by rfl,?_⟩) ?_
          · intro U hU; obtain ⟨u1,u2,u3,u4,u5,u6,u7,u8,u9,aU,aV⟩:=hl U hU.1; clear hl hS hH hC; go_simp
          simp only [List.setIfInBounds_toArray,List.set_cons_zero,List.set_cons_succ]
          refine M.aL (i:=18) (v:=.slice Ab lb cb) (aK:=#[true,true,true,true,true,true,true,true,true,true,true,true,true,true,true,true,true,true,true,false,false,false,false]) rfl (by kernel_rfl) (by kernel_rfl) (by kernel_rfl) (fun _ _ _ h=>h) rfl rfl cC (Or.inl ⟨by rfl,?_⟩) ?_
          · intro U hU; obtain ⟨u1,u2,u3,u4,u5,u6,u7,u8,u9,aU,aV⟩:=hl U hU.1; clear hl hS hH hC; go_simp
          simp only [List.setIfInBounds_toArray,List.set_cons_zero,List.set_cons_succ]
          refine M.aL (i:=19) (v:=.agg (E x.1).ob) (aK:=#[true,true,true,true,true,true,true,true,true,true,true,true,true,true,true,true,true,true,true,true,false,false,false]) rfl (by kernel_rfl) (by kernel_rfl) (by kernel_rfl) (fun _ _ _ h=>h) rfl rfl cC (Or.inl ⟨by rfl,?_⟩) ?_
          · intro U hU; obtain ⟨u1,u2,u3,u4,u5,u6,u7,u8,u9,aU,aV⟩:=hl U hU.1; clear hl hS hH hC; go_simp; unfold bW.ob; rw [hp]
          simp only [List.setIfInBounds_toArray,List.set_cons_zero,List.set_cons_succ]
          refine wpAnyH_ready (rs:=[20]) (by kernel_rfl) (by simp) ?_
          refine AllReadyH.cons rfl (fun K' eH=>?_) AllReadyH.nil
          go_simp
          go_at_call 61
          refine (hH x.1 hx _ (qw.trans (cC.1.mono (by omega)))).mono ?_
          rintro e U2 ⟨rfl,fF⟩
          have gQ:=sM cC fF
          rw [hh]
          refine eH.out _ _ gQ (fun _=>?_)
          clear eH
          change wpAnyH _ _ _ _ _ 2 #[true,true,true,true,true,true,true,true,true,true,true,true,true,true,true,true,true,true,true,true,true,false,false] _ _
          try simp only [Act.put,List.setIfInBounds_toArray,List.set_cons_zero,List.set_cons_succ]
          refine M.aL (i:=21) (v:=.bool false) (aK:=#[true,true,true,true,true,true,true,true,true,true,true,true,true,true,true,true,true,true,true,true,true,true,false]) rfl (by kernel_rfl) (by kernel_rfl) (by kernel_rfl) (fun _ _ _ h=>h) rfl rfl gQ (Or.inl ⟨by rfl,?_⟩) ?_
          · intro U hU; obtain ⟨u1,u2,u3,u4,u5,u6,u7,u8,u9,aU,aV⟩:=hl U hU.1; clear hl hS hH hC; go_simp
          simp only [List.setIfInBounds_toArray,List.set_cons_zero,List.set_cons_succ]
          refine M.aL (i:=22) (v:=.bool false) (aK:=#[true,true,true,true,true,true,true,true,true,true,true,true,true,true,true,true,true,true,true,true,true,true,true]) rfl (by kernel_rfl) (by kernel_rfl) (by kernel_rfl) (fun _ _ _ h=>h) rfl rfl gQ (Or.inl ⟨by rfl,?_⟩) ?_
          · intro U hU; obtain ⟨u1,u2,u3,u4,u5,u6,u7,u8,u9,aU,aV⟩:=hl U hU.1; clear hl hS hH hC; go_simp
          simp only [List.setIfInBounds_toArray,List.set_cons_zero,List.set_cons_succ]
          refine wpAnyH_done (by kernel_rfl) ?_ _
          dsimp only [M.atEnd]
          gi_wp2
          exact wR _ gQ (fun h=>by rw [hh] at h; cases h.2.2)
        | false =>
          refine M.aL (i:=0) (v:=.pointer (some ⟨W.heap.size,0,none⟩)) (aK:=#[true,false,false,false,false,false,false,false,false,false,false,false,false,false,false,false,false,false,false,false,false,false,false]) rfl (by kernel_rfl) (by kernel_rfl) (by kernel_rfl) (fun _ _ _ h=>h) rfl rfl aT (Or.inl ⟨by rfl,?_⟩) ?_
          · intro U hU; obtain ⟨u1,u2,u3,u4,u5,u6,u7,u8,u9,aU,aV⟩:=hl U hU.1; clear hl hS hH hC; go_simp
          simp only [List.setIfInBounds_toArray,List.set_cons_zero,List.set_cons_succ]
          refine M.aL (i:=1) (v:=.string (E x.1).p) (aK:=#[true,true,false,false,false,false,false,false,false,false,false,false,false,false,false,false,false,false,false,false,false,false,false]) rfl (by kernel_rfl) (by kernel_rfl) (by kernel_rfl) (fun _ _ _ h=>h) rfl rfl aT (Or.inl ⟨by rfl,?_⟩) ?_
          · intro U hU; obtain ⟨u1,u2,u3,u4,u5,u6,u7,u8,u9,aU,aV⟩:=hl U hU.1; clear hl hS hH hC; go_simp
          simp only [List.setIfInBounds_toArray,List.set_cons_zero,List.set_cons_succ]
          refine M.aL (i:=2) (v:=.pointer (some ⟨w.heap.size + 1,1,none⟩)) (aK:=#[true,true,true,false,false,false,false,false,false,false,false,false,false,false,false,false,false,false,false,false,false,false,false]) rfl (by kernel_rfl) (by kernel_rfl) (by kernel_rfl) (fun _ _ _ h=>h) rfl rfl aT (Or.inl ⟨by rfl,?_⟩) ?_
          · intro U hU; obtain ⟨u1,u2,u3,u4,u5,u6,u7,u8,u9,aU,aV⟩:=hl U hU.1; clear hl hS hH hC; go_simp
          simp only [List.setIfInBounds_toArray,List.set_cons_zero,List.set_cons_succ]
          refine M.aL (i:=3) (v:=.string qs) (aK:=#[true,true,true,true,false,false,false,false,false,false,false,false,false,false,false,false,false,false,false,false,false,false,false]) rfl (by kernel_rfl) (by kernel_rfl) (by kernel_rfl) (fun _ _ _ h=>h) rfl rfl aT (Or.inl ⟨by rfl,?_⟩) ?_
          · intro U hU; obtain ⟨u1,u2,u3,u4,u5,u6,u7,u8,u9,aU,aV⟩:=hl U hU.1; clear hl hS hH hC; go_simp
          simp only [List.setIfInBounds_toArray,List.set_cons_zero,List.set_cons_succ]
          refine M.aL (i:=4) (v:=.bool true) (aK:=#[true,true,true,true,true,false,false,false,false,false,false,false,false,false,false,false,false,false,false,false,false,false,false]) rfl (by kernel_rfl) (by kernel_rfl) (by kernel_rfl) (fun _ _ _ h=>h) rfl rfl aT (Or.inl ⟨by rfl,?_⟩) ?_
          · intro U hU; obtain ⟨u1,u2,u3,u4,u5,u6,u7,u8,u9,aU,aV⟩:=hl U hU.1; clear hl hS hH hC; go_simp
          simp only [List.setIfInBounds_toArray,List.set_cons_zero,List.set_cons_succ]
          refine M.aL (i:=5) (v:=.bool true) (aK:=#[true,true,true,true,true,true,false,false,false,false,false,false,false,false,false,false,false,false,false,false,false,false,false]) rfl (by kernel_rfl) (by kernel_rfl) (by kernel_rfl) (fun _ _ _ h=>h) rfl rfl aT (Or.inl ⟨by rfl,?_⟩) ?_
          · intro U hU; obtain ⟨u1,u2,u3,u4,u5,u6,u7,u8,u9,aU,aV⟩:=hl U hU.1; clear hl hS hH hC; go_simp
          simp only [List.setIfInBounds_toArray,List.set_cons_zero,List.set_cons_succ]
          refine M.aL (i:=6) (v:=.pointer (some ⟨W.heap.size,1,none⟩)) (aK:=#[true,true,true,true,true,true,true,false,false,false,false,false,false,false,false,false,false,false,false,false,false,false,false]) rfl (by kernel_rfl) (by kernel_rfl) (by kernel_rfl) (fun _ _ _ h=>h) rfl rfl aT (Or.inl ⟨by rfl,?_⟩) ?_
          · intro U hU; obtain ⟨u1,u2,u3,u4,u5,u6,u7,u8,u9,aU,aV⟩:=hl U hU.1; clear hl hS hH hC; go_simp
          simp only [List.setIfInBounds_toArray,List.set_cons_zero,List.set_cons_succ]
          refine M.aL (i:=7) (v:=.slice (E x.1).a1 (E x.1).l1 (E x.1).c1) (aK:=#[true,true,true,true,true,true,true,true,false,false,false,false,false,false,false,false,false,false,false,false,false,false,false]) rfl (by kernel_rfl) (by kernel_rfl) (by kernel_rfl) (fun _ _ _ h=>h) rfl rfl aT (Or.inl ⟨by rfl,?_⟩) ?_
          · intro U hU; obtain ⟨u1,u2,u3,u4,u5,u6,u7,u8,u9,aU,aV⟩:=hl U hU.1; clear hl hS hH hC; go_simp
          simp only [List.setIfInBounds_toArray,List.set_cons_zero,List.set_cons_succ]
          refine M.aL (i:=8) (v:=.pointer (some ⟨W.heap.size,2,none⟩)) (aK:=#[true,true,true,true,true,true,true,true,true,false,false,false,false,false,false,false,false,false,false,false,false,false,false]) rfl (by kernel_rfl) (by kernel_rfl) (by kernel_rfl) (fun _ _ _ h=>h) rfl rfl aT (Or.inl ⟨by rfl,?_⟩) ?_
          · intro U hU; obtain ⟨u1,u2,u3,u4,u5,u6,u7,u8,u9,aU,aV⟩:=hl U hU.1; clear hl hS hH hC; go_simp
          simp only [List.setIfInBounds_toArray,List.set_cons_zero,List.set_cons_succ]
          refine M.aL (i:=9) (v:=.slice (E x.1).a2 (E x.1).l2 (E x.1).c2) (aK:=#[true,true,true,true,true,true,true,true,true,true,false,false,false,false,false,false,false,false,false,false,false,false,false]) rfl (by kernel_rfl) (by kernel_rfl) (by kernel_rfl) (fun _ _ _ h=>h) rfl rfl aT (Or.inl ⟨by rfl,?_⟩) ?_
          · intro U hU; obtain ⟨u1,u2,u3,u4,u5,u6,u7,u8,u9,aU,aV⟩:=hl U hU.1; clear hl hS hH hC; go_simp
          simp only [List.setIfInBounds_toArray,List.set_cons_zero,List.set_cons_succ]
          refine M.aL (i:=10) (v:=.pointer (some ⟨w.heap.size + 1,2,none⟩)) (aK:=#[true,true,true,true,true,true,true,true,true,true,true,false,false,false,false,false,false,false,false,false,false,false,false]) rfl (by kernel_rfl) (by kernel_rfl) (by kernel_rfl) (fun _ _ _ h=>h) rfl rfl aT (Or.inl ⟨by rfl,?_⟩) ?_
          · intro U hU; obtain ⟨u1,u2,u3,u4,u5,u6,u7,u8,u9,aU,aV⟩:=hl U hU.1; clear hl hS hH hC; go_simp
          simp only [List.setIfInBounds_toArray,List.set_cons_zero,List.set_cons_succ]
          refine M.aL (i:=11) (v:=.slice Aq lq cq) (aK:=#[true,true,true,true,true,true,true,true,true,true,true,true,false,false,false,false,false,false,false,false,false,false,false]) rfl (by kernel_rfl) (by kernel_rfl) (by kernel_rfl) (fun _ _ _ h=>h) rfl rfl aT (Or.inl ⟨by rfl,?_⟩) ?_
          · intro U hU; obtain ⟨u1,u2,u3,u4,u5,u6,u7,u8,u9,aU,aV⟩:=hl U hU.1; clear hl hS hH hC; go_simp
          simp only [List.setIfInBounds_toArray,List.set_cons_zero,List.set_cons_succ]
          refine wpAnyH_ready (rs:=[12]) (by kernel_rfl) (by simp) ?_
          refine AllReadyH.cons rfl (fun K' eH=>?_) AllReadyH.nil
          go_simp
          go_at_call 154
          refine (hS x.1 hx _ (qw.trans (aT.1.mono (by omega)))).mono ?_
          rintro e U1 ⟨rfl,cT⟩
          have cC:=sM aT cT
          rw [hs]
          refine eH.out _ _ cC (fun _=>?_)
          clear eH
          change wpAnyH _ _ _ _ _ 10 #[true,true,true,true,true,true,true,true,true,true,true,true,true,false,false,false,false,false,false,false,false,false,false] _ _
          try simp only [Act.put,List.setIfInBounds_toArray,List.set_cons_zero,List.set_cons_succ]
          refine M.aL (i:=13) (v:=.bool true) (aK:=#[true,true,true,true,true,true,true,true,true,true,true,true,true,true,false,false,false,false,false,false,false,false,false]) rfl (by kernel_rfl) (by kernel_rfl) (by kernel_rfl) (fun _ _ _ h=>h) rfl rfl cC (Or.inl ⟨by rfl,?_⟩) ?_
          · intro U hU; obtain ⟨u1,u2,u3,u4,u5,u6,u7,u8,u9,aU,aV⟩:=hl U hU.1; clear hl hS hH hC; go_simp
          simp only [List.setIfInBounds_toArray,List.set_cons_zero,List.set_cons_succ]
          refine M.aL (i:=14) (v:=.bool true) (aK:=#[true,true,true,true,true,true,true,true,true,true,true,true,true,true,true,false,false,false,false,false,false,false,false]) rfl (by kernel_rfl) (by kernel_rfl) (by kernel_rfl) (fun _ _ _ h=>h) rfl rfl cC (Or.inl ⟨by rfl,?_⟩) ?_
          · intro U hU; obtain ⟨u1,u2,u3,u4,u5,u6,u7,u8,u9,aU,aV⟩:=hl U hU.1; clear hl hS hH hC; go_simp
          simp only [List.setIfInBounds_toArray,List.set_cons_zero,List.set_cons_succ]
          refine M.aL (i:=15) (v:=.pointer (some ⟨g,o,none⟩)) (aK:=#[true,true,true,true,true,true,true,true,true,true,true,true,true,true,true,true,false,false,false,false,false,false,false]) rfl (by kernel_rfl) (by kernel_rfl) (by kernel_rfl) (fun _ _ _ h=>h) rfl rfl cC (Or.inl ⟨by rfl,?_⟩) ?_
          · intro U hU; obtain ⟨u1,u2,u3,u4,u5,u6,u7,u8,u9,aU,aV⟩:=hl U hU.1; clear hl hS hH hC; go_simp
          simp only [List.setIfInBounds_toArray,List.set_cons_zero,List.set_cons_succ]
          refine M.aL (i:=16) (v:=.pointer (some ⟨g,o,none⟩)) (aK:=#[true,true,true,true,true,true,true,true,true,true,true,true,true,true,true,true,true,false,false,false,false,false,false]) rfl (by kernel_rfl) (by kernel_rfl) (by kernel_rfl) (fun _ _ _ h=>h) rfl rfl cC (Or.inl ⟨by rfl,?_⟩) ?_
          · intro U hU; obtain ⟨u1,u2,u3,u4,u5,u6,u7,u8,u9,aU,aV⟩:=hl U hU.1; clear hl hS hH hC; go_simp
          simp only [List.setIfInBounds_toArray,List.set_cons_zero,List.set_cons_succ]
          refine M.aL (i:=17) (v:=.pointer (some ⟨g,o + 3,none⟩)) (aK:=#[true,true,true,true,true,true,true,true,true,true,true,true,true,true,true,true,true,true,false,false,false,false,false]) rfl (by kernel_rfl) (by kernel_rfl) (by kernel_rfl) (fun _ _ _ h=>h) rfl rfl cC (Or.inl ⟨by rfl,?_⟩) ?_
          · intro U hU; obtain ⟨u1,u2,u3,u4,u5,u6,u7,u8,u9,aU,aV⟩:=hl U hU.1; clear hl hS hH hC; go_simp
          simp only [List.setIfInBounds_toArray,List.set_cons_zero,List.set_cons_succ]
          refine M.aL (i:=18) (v:=.slice Ab lb cb) (aK:=#[true,true,true,true,true,true,true,true,true,true,true,true,true,true,true,true,true,true,true,false,false,false,false]) rfl (by kernel_rfl) (by kernel_rfl) (by kernel_rfl) (fun _ _ _ h=>h) rfl rfl cC (Or.inl ⟨by rfl,?_⟩) ?_
          · intro U hU; obtain ⟨u1,u2,u3,u4,u5,u6,u7,u8,u9,aU,aV⟩:=hl U hU.1; clear hl hS hH hC; go_simp
          simp only [List.setIfInBounds_toArray,List.set_cons_zero,List.set_cons_succ]
          refine M.aL (i:=19) (v:=.agg (E x.1).ob) (aK:=#[true,true,true,true,true,true,true,true,true,true,true,true,true,true,true,true,true,true,true,true,false,false,false]) rfl (by kernel_rfl) (by kernel_rfl) (by kernel_rfl) (fun _ _ _ h=>h) rfl rfl cC (Or.inl ⟨by rfl,?_⟩) ?_
          · intro U hU; obtain ⟨u1,u2,u3,u4,u5,u6,u7,u8,u9,aU,aV⟩:=hl U hU.1; clear hl hS hH hC; go_simp; unfold bW.ob; rw [hp]
          simp only [List.setIfInBounds_toArray,List.set_cons_zero,List.set_cons_succ]
          refine wpAnyH_ready (rs:=[20]) (by kernel_rfl) (by simp) ?_
          refine AllReadyH.cons rfl (fun K' eH=>?_) AllReadyH.nil
          go_simp
          go_at_call 61
          refine (hH x.1 hx _ (qw.trans (cC.1.mono (by omega)))).mono ?_
          rintro e U2 ⟨rfl,fF⟩
          have gQ:=sM cC fF
          rw [hh]
          refine eH.out _ _ gQ (fun _=>?_)
          clear eH
          change wpAnyH _ _ _ _ _ 2 #[true,true,true,true,true,true,true,true,true,true,true,true,true,true,true,true,true,true,true,true,true,false,false] _ _
          try simp only [Act.put,List.setIfInBounds_toArray,List.set_cons_zero,List.set_cons_succ]
          refine M.aL (i:=21) (v:=.bool true) (aK:=#[true,true,true,true,true,true,true,true,true,true,true,true,true,true,true,true,true,true,true,true,true,true,false]) rfl (by kernel_rfl) (by kernel_rfl) (by kernel_rfl) (fun _ _ _ h=>h) rfl rfl gQ (Or.inl ⟨by rfl,?_⟩) ?_
          · intro U hU; obtain ⟨u1,u2,u3,u4,u5,u6,u7,u8,u9,aU,aV⟩:=hl U hU.1; clear hl hS hH hC; go_simp
          simp only [List.setIfInBounds_toArray,List.set_cons_zero,List.set_cons_succ]
          refine M.aL (i:=22) (v:=.bool true) (aK:=#[true,true,true,true,true,true,true,true,true,true,true,true,true,true,true,true,true,true,true,true,true,true,true]) rfl (by kernel_rfl) (by kernel_rfl) (by kernel_rfl) (fun _ _ _ h=>h) rfl rfl gQ (Or.inl ⟨by rfl,?_⟩) ?_
          · intro U hU; obtain ⟨u1,u2,u3,u4,u5,u6,u7,u8,u9,aU,aV⟩:=hl U hU.1; clear hl hS hH hC; go_simp
          simp only [List.setIfInBounds_toArray,List.set_cons_zero,List.set_cons_succ]
          refine wpAnyH_done (by kernel_rfl) ?_ _
          dsimp only [M.atEnd]
          have w7:=hC x.1 hx
          unfold bW.ob at w7
          rw [hp] at w7
          have z4 : ∀ U,Below U2.heap.size U2 U→(∀ j v,(#[.string ⟨#[]⟩,.slice none 0 0,.slice none 0 0,.int .i64 0,.slice none 0 0,.string ⟨#[]⟩,.int .i64 0] : Array Value)[j]? = some v→U.cell? ⟨w.heap.size + 1 + 1,j,none⟩ = some v∧U.frozen? ⟨w.heap.size + 1 + 1,j,none⟩ = false)∧(U.cell? ⟨w.heap.size + 1 + 1 + 1,0,none⟩ = some (.bool false)∧U.frozen? ⟨w.heap.size + 1 + 1 + 1,0,none⟩ = false) ∧
              U.heap[w.heap.size + 1 + 1]? = some (.cells #[.string ⟨#[]⟩,.slice none 0 0,.slice none 0 0,.int .i64 0,.slice none 0 0,.string ⟨#[]⟩,.int .i64 0] 61)∧U.heap[w.heap.size + 1 + 1 + 1]? = some (.cells #[.bool false] 4):=by
            intro U hU
            have q : ∀ k,k < W0.heap.size→U.heap[k]? = W0.heap[k]?:=fun k hk=>(hU.block k (by have:=gQ.1.size; omega)).trans ((gQ.1.block k (by omega)).trans ((bV.block k (by omega)).trans (hi2.block k hk)))
            have q4:=(q _ (by omega)).trans b4
            have q5:=(q _ (by omega)).trans b5
            refine ⟨fun j v h=>?_,?_,q4,q5⟩
            · constructor
              · simp only [World.cell?,q4]
                simpa using h
              · simp [World.frozen?,q4]
            · constructor
              · simp [World.cell?,q5]
              · simp [World.frozen?,q5]
          have xw:=qw.trans (gQ.1.mono (by omega))
          have aad:=gQ.1.size
          obtain ⟨_,_,_,_,g0,g1,g2,g3,g4,g5,g6⟩:=hl U2 gQ.1
          have NM : ∀ (cd : Code),cd = Code.ret→∀ (O : bW) (U3 U : World),Below U2.heap.size U2 U3→R x.1 O U2 U3→(∀ b,b≠w.heap.size + 1 + 1→b≠w.heap.size + 1 + 1 + 1→U.heap[b]? = U3.heap[b]?)→U3.heap.size = U.heap.size→U.os = U3.os→U.tape = U3.tape→U.output = U3.output →
              U.heap[w.heap.size + 1 + 1]? = some (.cells O.ob 61)→U.heap[w.heap.size + 1 + 1 + 1]? = some (.cells #[.bool true] 4) →
              KeepsFrom W0.heap.size W U∧Below w.heap.size w U∧(cd = .ret∧∃ lJ x' O W1 W2,pre ++ [x] = lJ ++ [x']∧(∀ y∈lJ,¬ ((E y.1).p = qs∧pS y.1 = true∧pH y.1 = false))∧((E x'.1).p = qs∧pS x'.1 = true∧pH x'.1 = false)∧Below w.heap.size w W1∧R x'.1 O W1 W2 ∧
                (∀ b arr t fz,W1.heap.size≤b→W2.heap[b]? = some (.cells arr t fz)→U.heap[b]? = some (.cells arr t fz)) ∧
                U.heap[w.heap.size + 1 + 1]? = some (.cells (bW.ob O) 61)∧U.heap[w.heap.size + 1 + 1 + 1]? = some (.cells #[.bool true] 4)):=by
            intro cd hcd O U3 U kj BG BR hh2 Rs Rt Ru Rv Rw
            have tB:=xw.trans (kj.mono xw.size)
            refine ⟨⟨?_,?_⟩,⟨Rs.trans tB.os,Rt.trans tB.tape,Ru.trans tB.output,by have:=tB.size; omega,fun k hk=>(BR k (by omega) (by omega)).trans (tB.block k hk)⟩,hcd,pre,x,O,U2,U3,rfl,hi1,⟨hp,hs,hh⟩,xw,BG,fun b arr t fz hb h=>(BR b (by omega) (by omega)).trans h,Rv,Rw⟩
            · have:=kj.size; omega
            · intro k o' hk xh RI
              have hkW:=(Array.getElem?_eq_some_iff.1 xh).1
              exact (BR k (by omega) (by omega)).trans ((kj.block k (by omega)).trans ((GA.trans gQ.2).same k o' xh RI))
          clear hl hS hH hC wR hi1
          gi_wp2_with (refine ⟨trivial,?_⟩; gi_at_call 183; refine (CallsIn.inRound l (callsIn_wide.2 (w7 U2 xw))).mono ?_; rintro e U3 ⟨O,rfl,kj,BG⟩; obtain ⟨z1,⟨z2,z3⟩,z5,z6⟩:=z4 U3 kj; have y0:=z1 0 _ rfl; have y1:=z1 1 _ rfl; have y2:=z1 2 _ rfl; have y3:=z1 3 _ rfl; have y4:=z1 4 _ rfl; have y5:=z1 5 _ rfl; have y6:=z1 6 _ rfl; clear z4 z1 w7)
          refine NM _ rfl O U3 _ kj BG ?f1 ?f2 ?f3 ?f4 ?f5 ?f6 ?f7
          case f1 =>
            intro b n1 n2
            rw [Below.heap_setCell _ _ _ b n2,Below.heap_setCell _ _ _ b n1,Below.heap_setCell _ _ _ b n1,Below.heap_setCell _ _ _ b n1,Below.heap_setCell _ _ _ b n1,Below.heap_setCell _ _ _ b n1,Below.heap_setCell _ _ _ b n1,Below.heap_setCell _ _ _ b n1]
          case f2=>rw [fT,fT,fT,fT,fT,fT,fT,fT]
          case f3=>simp only [FU]
          case f4=>simp only [FW]
          case f5=>simp only [FV]
          case f6 =>
            rw [Below.heap_setCell _ _ _ _ (by show w.heap.size + 1 + 1≠w.heap.size + 1 + 1 + 1; omega)]
            exact fS _ (fS _ (fS _ (fS _ (fS _ (fS _ (fS _ z5))))))
          case f7 =>
            refine fS (arr:=#[.bool false]) _ ?_
            have n : w.heap.size + 1 + 1 + 1≠w.heap.size + 1 + 1:=by omega
            rw [Below.heap_setCell _ _ _ _ n,Below.heap_setCell _ _ _ _ n,Below.heap_setCell _ _ _ _ n,Below.heap_setCell _ _ _ _ n,Below.heap_setCell _ _ _ _ n,Below.heap_setCell _ _ _ _ n,Below.heap_setCell _ _ _ _ n]
            exact z6
    · have hd0 : ¬ (E x.1).p.toList = qs.toList:=fun h=>hp (NI h)
      have hd1 : ((E x.1).p.toList == qs.toList) = false:=by simpa using hd0
      have Rc : decide ((E x.1).p.toList = qs.toList) = false:=by simpa using hd0
      refine M.aL (i:=0) (v:=.pointer (some ⟨W.heap.size,0,none⟩)) (aK:=#[true,false,false,false,false,false,false,false,false,false,false,false,false,false,false,false,false,false,false,false,false,false,false]) rfl (by kernel_rfl) (by kernel_rfl) (by kernel_rfl) (fun _ _ _ h=>h) rfl rfl aT (Or.inl ⟨by rfl,?_⟩) ?_
      · intro U hU; obtain ⟨u1,u2,u3,u4,u5,u6,u7,u8,u9,aU,aV⟩:=hl U hU.1; clear hl hS hH hC; go_simp
      simp only [List.setIfInBounds_toArray,List.set_cons_zero,List.set_cons_succ]
      refine M.aL (i:=1) (v:=.string (E x.1).p) (aK:=#[true,true,false,false,false,false,false,false,false,false,false,false,false,false,false,false,false,false,false,false,false,false,false]) rfl (by kernel_rfl) (by kernel_rfl) (by kernel_rfl) (fun _ _ _ h=>h) rfl rfl aT (Or.inl ⟨by rfl,?_⟩) ?_
      · intro U hU; obtain ⟨u1,u2,u3,u4,u5,u6,u7,u8,u9,aU,aV⟩:=hl U hU.1; clear hl hS hH hC; go_simp
      simp only [List.setIfInBounds_toArray,List.set_cons_zero,List.set_cons_succ]
      refine M.aL (i:=2) (v:=.pointer (some ⟨w.heap.size + 1,1,none⟩)) (aK:=#[true,true,true,false,false,false,false,false,false,false,false,false,false,false,false,false,false,false,false,false,false,false,false]) rfl (by kernel_rfl) (by kernel_rfl) (by kernel_rfl) (fun _ _ _ h=>h) rfl rfl aT (Or.inl ⟨by rfl,?_⟩) ?_
      · intro U hU; obtain ⟨u1,u2,u3,u4,u5,u6,u7,u8,u9,aU,aV⟩:=hl U hU.1; clear hl hS hH hC; go_simp
      simp only [List.setIfInBounds_toArray,List.set_cons_zero,List.set_cons_succ]
      refine M.aL (i:=3) (v:=.string qs) (aK:=#[true,true,true,true,false,false,false,false,false,false,false,false,false,false,false,false,false,false,false,false,false,false,false]) rfl (by kernel_rfl) (by kernel_rfl) (by kernel_rfl) (fun _ _ _ h=>h) rfl rfl aT (Or.inl ⟨by rfl,?_⟩) ?_
      · intro U hU; obtain ⟨u1,u2,u3,u4,u5,u6,u7,u8,u9,aU,aV⟩:=hl U hU.1; clear hl hS hH hC; go_simp
      simp only [List.setIfInBounds_toArray,List.set_cons_zero,List.set_cons_succ]
      refine M.aL (i:=4) (v:=.bool false) (aK:=#[true,true,true,true,true,false,false,false,false,false,false,false,false,false,false,false,false,false,false,false,false,false,false]) rfl (by kernel_rfl) (by kernel_rfl) (by kernel_rfl) (fun _ _ _ h=>h) rfl rfl aT (Or.inl ⟨by rfl,?_⟩) ?_
      · intro U hU; obtain ⟨u1,u2,u3,u4,u5,u6,u7,u8,u9,aU,aV⟩:=hl U hU.1; clear hl hS hH hC; go_simp
      simp only [List.setIfInBounds_toArray,List.set_cons_zero,List.set_cons_succ]
      refine M.aL (i:=5) (v:=.bool false) (aK:=#[true,true,true,true,true,true,false,false,false,false,false,false,false,false,false,false,false,false,false,false,false,false,false]) rfl (by kernel_rfl) (by kernel_rfl) (by kernel_rfl) (fun _ _ _ h=>h) rfl rfl aT (Or.inl ⟨by rfl,?_⟩) ?_
      · intro U hU; obtain ⟨u1,u2,u3,u4,u5,u6,u7,u8,u9,aU,aV⟩:=hl U hU.1; clear hl hS hH hC; go_simp
      simp only [List.setIfInBounds_toArray,List.set_cons_zero,List.set_cons_succ]
      refine M.aL (i:=6) (v:=undef) (aK:=#[true,true,true,true,true,true,true,false,false,false,false,false,false,false,false,false,false,false,false,false,false,false,false]) rfl (by kernel_rfl) (by kernel_rfl) (by kernel_rfl) (fun _ _ _ h=>h) rfl rfl aT (Or.inr ⟨by rfl,rfl⟩) ?_
      simp only [List.setIfInBounds_toArray,List.set_cons_zero,List.set_cons_succ]
      refine M.aL (i:=7) (v:=undef) (aK:=#[true,true,true,true,true,true,true,true,false,false,false,false,false,false,false,false,false,false,false,false,false,false,false]) rfl (by kernel_rfl) (by kernel_rfl) (by kernel_rfl) (fun _ _ _ h=>h) rfl rfl aT (Or.inr ⟨by rfl,rfl⟩) ?_
      simp only [List.setIfInBounds_toArray,List.set_cons_zero,List.set_cons_succ]
      refine M.aL (i:=8) (v:=undef) (aK:=#[true,true,true,true,true,true,true,true,true,false,false,false,false,false,false,false,false,false,false,false,false,false,false]) rfl (by kernel_rfl) (by kernel_rfl) (by kernel_rfl) (fun _ _ _ h=>h) rfl rfl aT (Or.inr ⟨by rfl,rfl⟩) ?_
      simp only [List.setIfInBounds_toArray,List.set_cons_zero,List.set_cons_succ]
      refine M.aL (i:=9) (v:=undef) (aK:=#[true,true,true,true,true,true,true,true,true,true,false,false,false,false,false,false,false,false,false,false,false,false,false]) rfl (by kernel_rfl) (by kernel_rfl) (by kernel_rfl) (fun _ _ _ h=>h) rfl rfl aT (Or.inr ⟨by rfl,rfl⟩) ?_
      simp only [List.setIfInBounds_toArray,List.set_cons_zero,List.set_cons_succ]
      refine M.aL (i:=10) (v:=undef) (aK:=#[true,true,true,true,true,true,true,true,true,true,true,false,false,false,false,false,false,false,false,false,false,false,false]) rfl (by kernel_rfl) (by kernel_rfl) (by kernel_rfl) (fun _ _ _ h=>h) rfl rfl aT (Or.inr ⟨by rfl,rfl⟩) ?_
      simp only [List.setIfInBounds_toArray,List.set_cons_zero,List.set_cons_succ]
      refine M.aL (i:=11) (v:=undef) (aK:=#[true,true,true,true,true,true,true,true,true,true,true,true,false,false,false,false,false,false,false,false,false,false,false]) rfl (by kernel_rfl) (by kernel_rfl) (by kernel_rfl) (fun _ _ _ h=>h) rfl rfl aT (Or.inr ⟨by rfl,rfl⟩) ?_
      simp only [List.setIfInBounds_toArray,List.set_cons_zero,List.set_cons_succ]
      refine M.aL (i:=12) (v:=undef) (aK:=#[true,true,true,true,true,true,true,true,true,true,true,true,true,false,false,false,false,false,false,false,false,false,false]) rfl (by kernel_rfl) (by kernel_rfl) (by kernel_rfl) (fun _ _ _ h=>h) rfl rfl aT (Or.inr ⟨by rfl,rfl⟩) ?_
      simp only [List.setIfInBounds_toArray,List.set_cons_zero,List.set_cons_succ]
      refine M.aL (i:=13) (v:=.bool false) (aK:=#[true,true,true,true,true,true,true,true,true,true,true,true,true,true,false,false,false,false,false,false,false,false,false]) rfl (by kernel_rfl) (by kernel_rfl) (by kernel_rfl) (fun _ _ _ h=>h) rfl rfl aT (Or.inl ⟨by rfl,?_⟩) ?_
      · intro U hU; obtain ⟨u1,u2,u3,u4,u5,u6,u7,u8,u9,aU,aV⟩:=hl U hU.1; clear hl hS hH hC; go_simp
      simp only [List.setIfInBounds_toArray,List.set_cons_zero,List.set_cons_succ]
      refine M.aL (i:=14) (v:=.bool false) (aK:=#[true,true,true,true,true,true,true,true,true,true,true,true,true,true,true,false,false,false,false,false,false,false,false]) rfl (by kernel_rfl) (by kernel_rfl) (by kernel_rfl) (fun _ _ _ h=>h) rfl rfl aT (Or.inl ⟨by rfl,?_⟩) ?_
      · intro U hU; obtain ⟨u1,u2,u3,u4,u5,u6,u7,u8,u9,aU,aV⟩:=hl U hU.1; clear hl hS hH hC; go_simp
      simp only [List.setIfInBounds_toArray,List.set_cons_zero,List.set_cons_succ]
      refine M.aL (i:=15) (v:=undef) (aK:=#[true,true,true,true,true,true,true,true,true,true,true,true,true,true,true,true,false,false,false,false,false,false,false]) rfl (by kernel_rfl) (by kernel_rfl) (by kernel_rfl) (fun _ _ _ h=>h) rfl rfl aT (Or.inr ⟨by rfl,rfl⟩) ?_
      simp only [List.setIfInBounds_toArray,List.set_cons_zero,List.set_cons_succ]
      refine M.aL (i:=16) (v:=undef) (aK:=#[true,true,true,true,true,true,true,true,true,true,true,true,true,true,true,true,true,false,false,false,false,false,false]) rfl (by kernel_rfl) (by kernel_rfl) (by kernel_rfl) (fun _ _ _ h=>h) rfl rfl aT (Or.inr ⟨by rfl,rfl⟩) ?_
      simp only [List.setIfInBounds_toArray,List.set_cons_zero,List.set_cons_succ]
      refine M.aL (i:=17) (v:=undef) (aK:=#[true,true,true,true,true,true,true,true,true,true,true,true,true,true,true,true,true,true,false,false,false,false,false]) rfl (by kernel_rfl) (by kernel_rfl) (by kernel_rfl) (fun _ _ _ h=>h) rfl rfl aT (Or.inr ⟨by rfl,rfl⟩) ?_
      simp only [List.setIfInBounds_toArray,List.set_cons_zero,List.set_cons_succ]
      refine M.aL (i:=18) (v:=undef) (aK:=#[true,true,true,true,true,true,true,true,true,true,true,true,true,true,true,true,true,true,true,false,false,false,false]) rfl (by kernel_rfl) (by kernel_rfl) (by kernel_rfl) (fun _ _ _ h=>h) rfl rfl aT (Or.inr ⟨by rfl,rfl⟩) ?_
      simp only [List.setIfInBounds_toArray,List.set_cons_zero,List.set_cons_succ]
      refine M.aL (i:=19) (v:=undef) (aK:=#[true,true,true,true,true,true,true,true,true,true,true,true,true,true,true,true,true,true,true,true,false,false,false]) rfl (by kernel_rfl) (by kernel_rfl) (by kernel_rfl) (fun _ _ _ h=>h) rfl rfl aT (Or.inr ⟨by rfl,rfl⟩) ?_
      simp only [List.setIfInBounds_toArray,List.set_cons_zero,List.set_cons_succ]
      refine M.aL (i:=20) (v:=undef) (aK:=#[true,true,true,true,true,true,true,true,true,true,true,true,true,true,true,true,true,true,true,true,true,false,false]) rfl (by kernel_rfl) (by kernel_rfl) (by kernel_rfl) (fun _ _ _ h=>h) rfl rfl aT (Or.inr ⟨by rfl,rfl⟩) ?_
      simp only [List.setIfInBounds_toArray,List.set_cons_zero,List.set_cons_succ]
      refine M.aL (i:=21) (v:=undef) (aK:=#[true,true,true,true,true,true,true,true,true,true,true,true,true,true,true,true,true,true,true,true,true,true,false]) rfl (by kernel_rfl) (by kernel_rfl) (by kernel_rfl) (fun _ _ _ h=>h) rfl rfl aT (Or.inr ⟨by rfl,rfl⟩) ?_
      simp only [List.setIfInBounds_toArray,List.set_cons_zero,List.set_cons_succ]
      refine M.aL (i:=22) (v:=.bool false) (aK:=#[true,true,true,true,true,true,true,true,true,true,true,true,true,true,true,true,true,true,true,true,true,true,true]) rfl (by kernel_rfl) (by kernel_rfl) (by kernel_rfl) (fun _ _ _ h=>h) rfl rfl aT (Or.inl ⟨by rfl,?_⟩) ?_
      · intro U hU; obtain ⟨u1,u2,u3,u4,u5,u6,u7,u8,u9,aU,aV⟩:=hl U hU.1; clear hl hS hH hC; go_simp
      simp only [List.setIfInBounds_toArray,List.set_cons_zero,List.set_cons_succ]
      refine wpAnyH_done (by kernel_rfl) ?_ _
      dsimp only [M.atEnd]
      gi_wp2
      exact wR _ aT (fun h=>hp h.1)
  case done =>
    rintro D ys W hD hys ⟨hi1,hi2⟩ hK
    have GY:=hi2.size
    have q4:=(hi2.block _ (by omega)).trans b4
    have q5:=(hi2.block _ (by omega)).trans b5
    have y0 : W.cell? ⟨w.heap.size + 1 + 1,0,none⟩ = some (.string ⟨#[]⟩):=by simp [World.cell?,q4]
    have y1 : W.cell? ⟨w.heap.size + 1 + 1,1,none⟩ = some (.slice none 0 0):=by simp [World.cell?,q4]
    have y2 : W.cell? ⟨w.heap.size + 1 + 1,2,none⟩ = some (.slice none 0 0):=by simp [World.cell?,q4]
    have y3 : W.cell? ⟨w.heap.size + 1 + 1,3,none⟩ = some (.int .i64 0):=by simp [World.cell?,q4]
    have y4 : W.cell? ⟨w.heap.size + 1 + 1,4,none⟩ = some (.slice none 0 0):=by simp [World.cell?,q4]
    have y5 : W.cell? ⟨w.heap.size + 1 + 1,5,none⟩ = some (.string ⟨#[]⟩):=by simp [World.cell?,q4]
    have y6 : W.cell? ⟨w.heap.size + 1 + 1,6,none⟩ = some (.int .i64 0):=by simp [World.cell?,q4]
    have y7 : W.cell? ⟨w.heap.size + 1 + 1 + 1,0,none⟩ = some (.bool false):=by simp [World.cell?,q5]
    have f4 : ∀ j,W.frozen? ⟨w.heap.size + 1 + 1,j,none⟩ = false:=by intro j; simp [World.frozen?,q4]
    have f5 : W.frozen? ⟨w.heap.size + 1 + 1 + 1,0,none⟩ = false:=by simp [World.frozen?,q5]
    have g0:=f4 0
    have g1:=f4 1
    have g2:=f4 2
    have g3:=f4 3
    have g4:=f4 4
    have g5:=f4 5
    have g6:=f4 6
    have hBW : Below w.heap.size w W:=BC.trans (hi2.mono (by omega))
    have hall : ∀ i,i < len→¬ ((E i).p = qs∧pS i = true∧pH i = false):=by
      intro i hi
      have hm : i∈ys.map Fin.val:=by
        rw [hys]
        simp only [iw,List.mem_map,List.mem_range]
        exact ⟨len - 1 - i,by omega,by omega⟩
      obtain ⟨y,hy,rfl⟩:=List.mem_map.1 hm
      exact hi1 y hy
    clear hS hH hC hc hi1 hys f4
    gi_wp2
    have n4 : D≠w.heap.size + 1 + 1:=by omega
    have n5 : D≠w.heap.size + 1 + 1 + 1:=by omega
    obtain ⟨U,hU⟩ : ∃ U,((((((((W.setCell ⟨w.heap.size + 1 + 1,0,none⟩ (.string ⟨#[]⟩)).setCell ⟨w.heap.size + 1 + 1,1,none⟩ (.slice none 0 0)).setCell ⟨w.heap.size + 1 + 1,2,none⟩ (.slice none 0 0)).setCell ⟨w.heap.size + 1 + 1,3,none⟩ (.int .i64 0)).setCell ⟨w.heap.size + 1 + 1,4,none⟩ (.slice none 0 0)).setCell ⟨w.heap.size + 1 + 1,5,none⟩ (.string ⟨#[]⟩)).setCell ⟨w.heap.size + 1 + 1,6,none⟩ (.int .i64 0)).setCell ⟨w.heap.size + 1 + 1 + 1,0,none⟩ (.bool false)) = U:=⟨_,rfl⟩
    rw [hU]
    have r4 : U.heap[w.heap.size + 1 + 1]? = some (.cells p8 61):=by
      rw [← hU,Below.heap_setCell _ _ _ _ (by show w.heap.size + 1 + 1≠w.heap.size + 1 + 1 + 1; omega)]
      exact fS _ (fS _ (fS _ (fS _ (fS _ (fS _ (fS _ q4))))))
    have r5 : U.heap[w.heap.size + 1 + 1 + 1]? = some (.cells #[.bool false] 4):=by
      rw [← hU]
      refine fS (arr:=#[.bool false]) _ ?_
      have n : w.heap.size + 1 + 1 + 1≠w.heap.size + 1 + 1:=by omega
      rw [Below.heap_setCell _ _ _ _ n,Below.heap_setCell _ _ _ _ n,Below.heap_setCell _ _ _ _ n,Below.heap_setCell _ _ _ _ n,Below.heap_setCell _ _ _ _ n,Below.heap_setCell _ _ _ _ n,Below.heap_setCell _ _ _ _ n]
      exact q5
    have rD : ∀ b,b≠w.heap.size + 1 + 1→b≠w.heap.size + 1 + 1 + 1→U.heap[b]? = W.heap[b]?:=by
      intro b n1 n2
      rw [← hU,Below.heap_setCell _ _ _ b n2,Below.heap_setCell _ _ _ b n1,Below.heap_setCell _ _ _ b n1,Below.heap_setCell _ _ _ b n1,Below.heap_setCell _ _ _ b n1,Below.heap_setCell _ _ _ b n1,Below.heap_setCell _ _ _ b n1,Below.heap_setCell _ _ _ b n1]
    have QO : Below w.heap.size w U:=by
      refine ⟨?_,?_,?_,?_,fun k hk=>(rD k (by omega) (by omega)).trans (hBW.block k hk)⟩
      · rw [← hU]; simp only [FU]; exact hBW.os
      · rw [← hU]; simp only [FW]; exact hBW.tape
      · rw [← hU]; simp only [FV]; exact hBW.output
      · rw [← hU]; rw [fT,fT,fT,fT,fT,fT,fT,fT]; exact hBW.size
    have eH:=(rD D n4 n5).trans hK
    clear hU rD
    refine ⟨by simp,.inl ⟨_,_,rfl,run_takeDeferred eH,?_⟩⟩
    have k4:=(World.putObj_heap_other (o:=.deferred none) (show w.heap.size + 1 + 1≠D by omega)).trans r4
    have k5:=(World.putObj_heap_other (o:=.deferred none) (show w.heap.size + 1 + 1 + 1≠D by omega)).trans r5
    refine ⟨.tuple #[.agg p8,.bool false],?_,QO.trans (belowK_b (w:=w) (Nat.le_refl _) U D _ _ (by omega) eH rfl rfl),.inl ⟨rfl,hall⟩⟩
    exact FT (e:=bW.z) rfl rfl k4 k5
  case stop =>
    rintro D c pre W hD ⟨k,hk,hpre⟩ ⟨hB,rfl,lJ,x,O,W1,W2,e1,e2,e3,e4,e5,e6,e7,e8⟩ hK
    clear hS hH hC hc
    gi_wp2
    refine ⟨by simp,.inl ⟨_,_,rfl,run_takeDeferred hK,?_⟩⟩
    have k4:=(World.putObj_heap_other (o:=.deferred none) (show w.heap.size + 1 + 1≠D by omega)).trans e7
    have k5:=(World.putObj_heap_other (o:=.deferred none) (show w.heap.size + 1 + 1 + 1≠D by omega)).trans e8
    have BT : ∀ i',x.1 < i'→i' < len→¬ ((E i').p = qs∧pS i' = true∧pH i' = false):=by
      intro i' h1 h2
      obtain ⟨k',rfl⟩ : ∃ k',k = k' + 1:=by
        cases k with
        | zero=>rw [e1] at hpre; simp [iw] at hpre
        | succ k'=>exact ⟨k',rfl⟩
      rw [e1,List.map_append,Bi] at hpre
      obtain ⟨h3,h4⟩:=List.append_inj' hpre rfl
      have h4 : x.1 = len - 1 - k':=by simpa using h4
      have hm : i'∈lJ.map Fin.val:=by
        rw [h3]
        simp only [iw,List.mem_map,List.mem_range]
        exact ⟨len - 1 - i',by omega,by omega⟩
      obtain ⟨y,hy,rfl⟩:=List.mem_map.1 hm
      exact e2 y hy
    refine ⟨.tuple #[.agg O.ob,.bool true],?_,hB.trans (belowK_b (w:=w) (Nat.le_refl _) W D _ _ (by omega) hK rfl rfl),.inr ⟨x.1,O,W1,W2,x.2,rfl,e3,BT,e4,e5,fun b arr t fz hb h=>?_⟩⟩
    · exact FT rfl rfl k4 k5
    · refine (World.putObj_heap_other (o:=.deferred none) (fun e=>?_)).trans (e6 b arr t fz hb h)
      subst e
      have:=e6 _ arr t fz hb h
      rw [hK] at this
      cases this
end Go.Proofs
namespace M
open Go
noncomputable def vY : bD:=fm (dw 93 (sO l7 jD)) gK
@[reducible] def Da : Lb:=⟨gK,fun _ _=>rfl⟩
@[reducible] noncomputable def ZU : Fd:={ L:=vY,h:=fun f hf=>by funext xs; simp [vY,fm,dw,hf],f:=fun s q hs hq=>by simp only [vY,fm,dw,if_true,NN l7 jD s q hs hq]; rfl }
theorem Yd [Bs] (h0 : gK.Sound Go.Proofs.Tryz.prog) (hT : TT.Ok Go.Proofs.Tryz.prog) : vY.Sound Go.Proofs.Tryz.prog:=by
  have hs : (ev gK TT).Sound Go.Proofs.Tryz.prog:=NA h0 hT
  refine oP (NQ (fs:=154) (fh:=61) (fc:=183) (fun ns vs fl h1 h2 h3=>?_) (fun l o h1 h2=>?_) (fun o h=>?_) ?_) h0
  · exact (hs _ _ _ (@K5 Da ns vs fl h1 h2 (by omega))).mono fun r ps h=>h.1
  · exact (hs _ _ _ (@KU Da l o h1 h2)).mono fun r ps h=>h.1
  · exact (hs _ _ _ (@K8 Da o h)).mono fun r ps h=>h.1
  · intro g o A Ab Aq len cap lb cb lq cq qm qs qb E pS pH R w h1 h2 h3 h4 h5 h6 h7 h8
    exact Go.Proofs.NJ g o A Ab Aq len cap lb cb lq cq qm qs qb E pS pH R w h1 h2 h3 h4 h5 h6 h7 h8
end M
