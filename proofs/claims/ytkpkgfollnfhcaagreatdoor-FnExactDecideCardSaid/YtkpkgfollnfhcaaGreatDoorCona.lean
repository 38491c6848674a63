/- What the functions come to in the machine; no conditions. -/
import Derived.Test.YtkpkgfollnfhcaaGreatDoorTab
import Derived.Test.YtkpkgfollnfhcaaGreatDoorMc
set_option linter.unusedSectionVars false
set_option linter.unusedVariables false
set_option linter.unusedSimpArgs false
namespace M
open Go
variable [Lb]
theorem JL (l : List ah) (hlen : l.length≤9223372036854775807) (hb : bL bS l) (n : Int) (hn : 0≤n) (hm : n≤9223372036854775807) : aJ (aj (ev LI TT) (av TT) qT) [(0,.row .af 1 (l.map (eS))),(1,.int .i64 n),(5,.int .i64 0)] = if eu (fun b n=>aF n (wS b)) (l) n < 0 then some (.ret,[(4,.int .i64 (-1))]) else some (.exit 0,[(0,.row .af 1 (l.map (eS))),(1,.int .i64 (eu (fun b n=>aF n (wS b)) (l) n)),(5,.int .i64 (l).length),(15,.bool false)]):=by
 refine uG (f:=aj (ev LI TT) (av TT) qT) (l) (fun i n=>[(0,.row .af 1 (l.map (eS))),(1,.int .i64 n),(5,.int .i64 i)]) (fun b n=>aF n (wS b)) _ (fun n=>[(0,.row .af 1 (l.map (eS))),(1,.int .i64 n),(5,.int .i64 (l).length),(15,.bool false)]) n hn hm (fun b n=>vE _ n) (fun i b n hi hl hn hm=>?_) (fun n=>?_)
 ·have hw:=aY i (by first | omega | (simp at hl; omega))
  obtain ⟨_,rfl⟩:=List.getElem?_eq_some_iff.1 hi
  have h1 : (l[i]).length≤9223372036854775807:=hb.2 _ (List.getElem_mem hl)
  have h3:=cu n (wS l[i])
  have h4 : wS l[i] = (l[i]).length:=rfl
  obtain ⟨m,e1⟩ : ∃ m,m = n - ((l[i]).length : Int):=⟨_,rfl⟩
  have h2 : IntKind.i64.wrap (n - ((l[i]).length : Int)) = m:=by rw [e1]; exact bl (by omega) (by omega)
  by_cases h5 : m < 0
  ·have ef : aF n (wS l[i]) = -1:=by omega
   simp -implicitDefEqProofs [qT,yH,hl,hw,h2,h5,ef]
  have ef : aF n (wS l[i]) = m:=by omega
  simp -implicitDefEqProofs [qT,yH,hl,hw,h2,h5,ef]
 ·simp -implicitDefEqProofs [qT,yH]
theorem AK (l : List ah) (n : Int) (hb : bL bS l) (hn : 0≤n) (hm : n≤9223372036854775807) : ev LI TT 105 [.row .af 1 (l.map (eS)),.int .i64 n] = some (.int .i64 (aF n (wL wS l)),[.dead,.dead]):=by
 rw [ay (b:=qU) (rs:=[.t 4]) (n:=2) rfl rfl]
 have hl:=hb.1
 have hw : wL wS l = l.length + (l.map wS).sum:=rfl
 have ht:=cu n (wL wS l)
 obtain ⟨m,e1⟩ : ∃ m,m = n - (l.length : Int):=⟨_,rfl⟩
 have h2 : IntKind.i64.wrap (n - (l.length : Int)) = m:=by rw [e1]; exact bl (by omega) (by omega)
 by_cases h : m < 0
 ·have ef : aF n (wL wS l) = -1:=by omega
  simp -implicitDefEqProofs [qU,h2,h,ef]
 have h3:=JL  l hb.1 hb m (by omega) (by omega)
 rw [rN _ _ _ (by omega)] at h3
 have hs:=cu m (l.map wS).sum
 obtain ⟨q,e2⟩ : ∃ q,q = aF m (l.map wS).sum:=⟨_,rfl⟩
 rw [← e2] at h3 hs
 try simp at h3
 by_cases h4 : q < 0
 ·have ef : aF n (wL wS l) = -1:=by omega
  simp only [h4,if_true] at h3
  simp -implicitDefEqProofs [qU,h2,h,h3,ef]
 have ef : aF n (wL wS l) = q:=by omega
 simp only [h4,if_false] at h3
 simp -implicitDefEqProofs [qU,h2,h,h3,ef]
 all_goals (repeat' split) <;> first | rfl | omega | (simp_all; done) | (simp_all; omega) | skip
theorem JQ (l : List ah) (hlen : l.length≤1048576) (hb : wL wS l≤1048576) : aJ (aj (ev LI TT) (av TT) uB) [(0,.row .af 1 (l.map eS)),(3,.row .own 1 (dH (l.map eS) 0 [.str ⟨#[]⟩])),(4,.int .i64 0),(6,.int .i64 l.length)] = some (.exit 0,[(0,.row .af 1 (l.map eS)),(3,.row .own 1 (l.map eS)),(4,.int .i64 (l).length),(6,.int .i64 l.length),(11,.bool false)]):=by
 refine gY (f:=aj (ev LI TT) (av TT) uB) (l) (fun i=>[(0,.row .af 1 (l.map eS)),(3,.row .own 1 (dH (l.map eS) i [.str ⟨#[]⟩])),(4,.int .i64 i),(6,.int .i64 l.length)]) _ (fun i b hi hl=>?_) ?_
 ·have hw:=aY i (by first | omega | (simp at hl; omega))
  obtain ⟨_,rfl⟩:=List.getElem?_eq_some_iff.1 hi
  skip
  simp -implicitDefEqProofs [uB,C8,hl,hw]
  first | done | (rw [ke _ _ _ _ (by simpa using hl) (by simp)]; done) | (simp only [kA]; rw [ke _ _ _ _ (by simpa using hl) (by simp)])
 ·simp -implicitDefEqProofs [uB,C8]
theorem AL (l : List ah) (hb : wL wS l≤1048576) : ev LI TT 111 [.row .af 1 (l.map eS)] = some (.row .own 1 (l.map eS),[.dead]):=by
 rw [ay (b:=yT) (rs:=[.t 2]) (n:=1) rfl rfl]
 have hlen:=bw (w:=wS) l
 have h:=JQ  l (by omega) hb
 try simp at h
 simp -implicitDefEqProofs [yT,h,(by omega : (l.length : Int) * 16≤140737488355328)]
 all_goals (repeat' split) <;> first | rfl | omega | (simp_all; done) | (simp_all; omega) | skip
theorem Jy (ps : List (ah×ah)) (hb : ps.length≤9223372036854775807) (cT : ∀ x∈ps,wS x.1≤1073741824) : aJ (aj (ev LI TT) (av TT) uc) [(0,.row .af 1 (ps.map (fun x : ah×ah=>eS x.1))),(1,.row .af 1 (ps.map (fun x : ah×ah=>eS x.2))),(5,.int .i64 0)] = if aO cZ (ps) = true then some (.exit 0,[(0,.row .af 1 (ps.map (fun x : ah×ah=>eS x.1))),(1,.row .af 1 (ps.map (fun x : ah×ah=>eS x.2))),(5,.int .i64 ps.length),(14,.bool false)]) else some (.ret,[(4,.bool false)]):=by
 refine dh (f:=aj (ev LI TT) (av TT) uc) (ps) (fun i=>[(0,.row .af 1 (ps.map (fun x : ah×ah=>eS x.1))),(1,.row .af 1 (ps.map (fun x : ah×ah=>eS x.2))),(5,.int .i64 i)]) cZ _ _ (fun i b hi hl=>?_) ?_
 ·have hw:=aY i (by first | omega | (simp at hl; omega))
  obtain ⟨_,rfl⟩:=List.getElem?_eq_some_iff.1 hi
  simp -implicitDefEqProofs [uc,CP,hl,hw,cZ]
  first | done | (split <;> simp_all)
 ·simp -implicitDefEqProofs [uc,CP]
theorem AH (a b : List ah) (hb : wL wS a≤1073741824) : ev LI TT 77 [.row .af 1 (a.map eS),.row .af 1 (b.map eS)] = some (.bool (decide (a = b)),[.dead,.dead]):=by
 rw [ay (b:=yl) (rs:=[.t 4]) (n:=2) rfl rfl]
 simp -implicitDefEqProofs [yl]
 have hlen:=bw (w:=wS) a
 by_cases h : a.length = b.length
 ·obtain ⟨ps,rfl,rfl⟩:=pI h
  have h1:=Jy  ps (by simp at hlen; omega) (fun x hx=>Nat.le_trans (ic (List.mem_map_of_mem hx)) hb)
  have h2:=nR ps
  simp at h1
  rw [← h2]
  cases h3 : aO cZ ps <;> rw [h3] at h1 <;> simp [h1,Function.comp_def]
 ·have : ¬ a = b:=fun e=>h (by rw [e])
  simp [this]
  omega
theorem LP (a : Wr) (n : Int) (hb : pP a) (hn : 0≤n) (hm : n≤9223372036854775807) : ev LI TT 211 [.agg (eW a),.int .i64 n] = some (.int .i64 (aF n (ck a)),[.dead,.dead]):=by
 rw [ay (b:=ux) (rs:=[.t 4]) (n:=2) rfl rfl]
 have hw : ck a = a.text.length:=rfl
 have ht:=cu n (ck a)
 have mR : a.text.length≤9223372036854775807:=hb.Ss
 obtain ⟨m1,e1⟩ : ∃ m,m = n - (a.text.length : Int):=⟨_,rfl⟩
 have c1 : IntKind.i64.wrap (n - (a.text.length : Int)) = m1:=by rw [e1]; exact bl (by omega) (by omega)
 by_cases h1 : m1 < 0
 ·have ef : aF n (ck a) = -1:=by omega
  simp -implicitDefEqProofs [ux,c1,h1,ef]
 have ef : aF n (ck a) = m1:=by omega
 simp -implicitDefEqProofs [ux,c1,h1,ef]
 all_goals (repeat' split) <;> first | rfl | omega | (simp_all; done) | (simp_all; omega) | skip
theorem L2 (a : Wr) (hb : ck a≤1048576) : ev LI TT 218 [.agg (eW a)] = some (.agg (eW a),[.dead]):=by
 rw [ay (b:=yV) (rs:=[.c 2 2 true 246]) (n:=1) rfl rfl]
 have hw : ck a = a.text.length:=rfl
 simp -implicitDefEqProofs [yV,hw]
 all_goals (repeat' split) <;> first | rfl | omega | (simp_all; done) | (simp_all; omega) | skip
theorem Lq (a b : Wr) (hb : ck a≤1073741824) : ev LI TT 227 [.agg (eW a),.agg (eW b)] = some (.bool (decide (a = b)),[.dead,.dead]):=by
 rw [ay (b:=qL) (rs:=[.t 4]) (n:=2) rfl rfl]
 have hw : ck a = a.text.length:=rfl
 rw [Nf]
 by_cases g1 : a.at_ = b.at_
 rotate_left
 ·simp -implicitDefEqProofs [qL,eq_false g1]
 by_cases g2 : a.text = b.text
 rotate_left
 ·simp -implicitDefEqProofs [qL,eq_true g1,eq_false g2]
 simp -implicitDefEqProofs [qL,eq_true g1,eq_true g2]
 all_goals (repeat' split) <;> first | rfl | omega | (simp_all; done) | (simp_all; omega) | skip
theorem JM (l : List Wr) (hlen : l.length≤9223372036854775807) (hb : bL pP l) (n : Int) (hn : 0≤n) (hm : n≤9223372036854775807) : aJ (aj (ev LI TT) (av TT) uw) [(0,.row .af 2 (l.map (eW))),(1,.int .i64 n),(5,.int .i64 0)] = if eu (fun b n=>aF n (ck b)) (l) n < 0 then some (.ret,[(4,.int .i64 (-1))]) else some (.exit 0,[(0,.row .af 2 (l.map (eW))),(1,.int .i64 (eu (fun b n=>aF n (ck b)) (l) n)),(5,.int .i64 (l).length),(15,.bool false)]):=by
 refine uG (f:=aj (ev LI TT) (av TT) uw) (l) (fun i n=>[(0,.row .af 2 (l.map (eW))),(1,.int .i64 n),(5,.int .i64 i)]) (fun b n=>aF n (ck b)) _ (fun n=>[(0,.row .af 2 (l.map (eW))),(1,.int .i64 n),(5,.int .i64 (l).length),(15,.bool false)]) n hn hm (fun b n=>vE _ n) (fun i b n hi hl hn hm=>?_) (fun n=>?_)
 ·have hw:=aY i (by first | omega | (simp at hl; omega))
  obtain ⟨_,rfl⟩:=List.getElem?_eq_some_iff.1 hi
  have h2:=LP  l[i] n (hb.2 _ (List.getElem_mem hl)) hn hm
  obtain ⟨m,e1⟩ : ∃ m,m = aF n (ck l[i]):=⟨_,rfl⟩
  rw [← e1] at h2 ⊢
  try simp at h2
  simp -implicitDefEqProofs [uw,C4,hl,hw,h2]
 ·simp -implicitDefEqProofs [uw,C4]
theorem LQ (l : List Wr) (n : Int) (hb : bL pP l) (hn : 0≤n) (hm : n≤9223372036854775807) : ev LI TT 118 [.row .af 2 (l.map (eW)),.int .i64 n] = some (.int .i64 (aF n (wL ck l)),[.dead,.dead]):=by
 rw [ay (b:=qV) (rs:=[.t 4]) (n:=2) rfl rfl]
 have hl:=hb.1
 have hw : wL ck l = l.length + (l.map ck).sum:=rfl
 have ht:=cu n (wL ck l)
 obtain ⟨m,e1⟩ : ∃ m,m = n - (l.length : Int):=⟨_,rfl⟩
 have h2 : IntKind.i64.wrap (n - (l.length : Int)) = m:=by rw [e1]; exact bl (by omega) (by omega)
 by_cases h : m < 0
 ·have ef : aF n (wL ck l) = -1:=by omega
  simp -implicitDefEqProofs [qV,h2,h,ef]
 have h3:=JM  l hb.1 hb m (by omega) (by omega)
 rw [rN _ _ _ (by omega)] at h3
 have hs:=cu m (l.map ck).sum
 obtain ⟨q,e2⟩ : ∃ q,q = aF m (l.map ck).sum:=⟨_,rfl⟩
 rw [← e2] at h3 hs
 try simp at h3
 by_cases h4 : q < 0
 ·have ef : aF n (wL ck l) = -1:=by omega
  simp only [h4,if_true] at h3
  simp -implicitDefEqProofs [qV,h2,h,h3,ef]
 have ef : aF n (wL ck l) = q:=by omega
 simp only [h4,if_false] at h3
 simp -implicitDefEqProofs [qV,h2,h,h3,ef]
 all_goals (repeat' split) <;> first | rfl | omega | (simp_all; done) | (simp_all; omega) | skip
theorem JR (l : List Wr) (hlen : l.length≤1048576) (hb : wL ck l≤1048576) : aJ (aj (ev LI TT) (av TT) uC) [(0,.row .af 2 (l.map eW)),(3,.row .own 2 (dH (l.map eW) 0 [.int .i64 0,.str ⟨#[]⟩])),(4,.int .i64 0),(6,.int .i64 l.length)] = some (.exit 0,[(0,.row .af 2 (l.map eW)),(3,.row .own 2 (l.map eW)),(4,.int .i64 (l).length),(6,.int .i64 l.length),(11,.bool false)]):=by
 refine gY (f:=aj (ev LI TT) (av TT) uC) (l) (fun i=>[(0,.row .af 2 (l.map eW)),(3,.row .own 2 (dH (l.map eW) i [.int .i64 0,.str ⟨#[]⟩])),(4,.int .i64 i),(6,.int .i64 l.length)]) _ (fun i b hi hl=>?_) ?_
 ·have hw:=aY i (by first | omega | (simp at hl; omega))
  obtain ⟨_,rfl⟩:=List.getElem?_eq_some_iff.1 hi
  have h:=L2  l[i] (Nat.le_trans (ic (List.getElem_mem hl)) hb)
  try simp at h
  simp -implicitDefEqProofs [uC,C9,hl,hw,h]
  first | done | (rw [ke _ _ _ _ (by simpa using hl) (by simp)]; done) | (simp only [kA]; rw [ke _ _ _ _ (by simpa using hl) (by simp)])
 ·simp -implicitDefEqProofs [uC,C9]
theorem L3 (l : List Wr) (hb : wL ck l≤1048576) : ev LI TT 127 [.row .af 2 (l.map eW)] = some (.row .own 2 (l.map eW),[.dead]):=by
 rw [ay (b:=yU) (rs:=[.t 2]) (n:=1) rfl rfl]
 have hlen:=bw (w:=ck) l
 have h:=JR  l (by omega) hb
 try simp at h
 simp -implicitDefEqProofs [yU,h,(by omega : (l.length : Int) * 24≤140737488355328)]
 all_goals (repeat' split) <;> first | rfl | omega | (simp_all; done) | (simp_all; omega) | skip
theorem Jz (ps : List (Wr×Wr)) (hb : ps.length≤9223372036854775807) (cT : ∀ x∈ps,ck x.1≤1073741824) : aJ (aj (ev LI TT) (av TT) ud) [(0,.row .af 2 (ps.map (fun x : Wr×Wr=>eW x.1))),(1,.row .af 2 (ps.map (fun x : Wr×Wr=>eW x.2))),(5,.int .i64 0)] = if aO cZ (ps) = true then some (.exit 0,[(0,.row .af 2 (ps.map (fun x : Wr×Wr=>eW x.1))),(1,.row .af 2 (ps.map (fun x : Wr×Wr=>eW x.2))),(5,.int .i64 ps.length),(14,.bool false)]) else some (.ret,[(4,.bool false)]):=by
 refine dh (f:=aj (ev LI TT) (av TT) ud) (ps) (fun i=>[(0,.row .af 2 (ps.map (fun x : Wr×Wr=>eW x.1))),(1,.row .af 2 (ps.map (fun x : Wr×Wr=>eW x.2))),(5,.int .i64 i)]) cZ _ _ (fun i b hi hl=>?_) ?_
 ·have hw:=aY i (by first | omega | (simp at hl; omega))
  obtain ⟨_,rfl⟩:=List.getElem?_eq_some_iff.1 hi
  have h:=Lq  (ps[i]).1 (ps[i]).2 (cT _ (List.getElem_mem hl)); try simp at h
  simp -implicitDefEqProofs [ud,CQ,hl,hw,cZ,h]
 ·simp -implicitDefEqProofs [ud,CQ]
theorem Lr (a b : List Wr) (hb : wL ck a≤1073741824) : ev LI TT 132 [.row .af 2 (a.map eW),.row .af 2 (b.map eW)] = some (.bool (decide (a = b)),[.dead,.dead]):=by
 rw [ay (b:=ym) (rs:=[.t 4]) (n:=2) rfl rfl]
 simp -implicitDefEqProofs [ym]
 have hlen:=bw (w:=ck) a
 by_cases h : a.length = b.length
 ·obtain ⟨ps,rfl,rfl⟩:=pI h
  have h1:=Jz  ps (by simp at hlen; omega) (fun x hx=>Nat.le_trans (ic (List.mem_map_of_mem hx)) hb)
  have h2:=nR ps
  simp at h1
  rw [← h2]
  cases h3 : aO cZ ps <;> rw [h3] at h1 <;> simp [h1,Function.comp_def]
 ·have : ¬ a = b:=fun e=>h (by rw [e])
  simp [this]
  omega
theorem LG (a : ew) (n : Int) (hb : Av a) (hn : 0≤n) (hm : n≤9223372036854775807) : ev LI TT 44 [.agg ((fR .af) a),.int .i64 n] = some (.int .i64 (aF n (cH a)),[.dead,.dead]):=by
 rw [ay (b:=qO) (rs:=[.t 4]) (n:=2) rfl rfl]
 have hw : cH a = wL wS a.cells + wL ck a.pending:=rfl
 have ht:=cu n (cH a)
 have c1:=AK  a.cells n hb.Si (by omega) (by omega)
 have s1:=cu n (wL wS a.cells)
 obtain ⟨m1,e1⟩ : ∃ m,m = aF n (wL wS a.cells):=⟨_,rfl⟩
 rw [← e1] at c1 s1
 try simp at c1
 by_cases h1 : m1 < 0
 ·have ef : aF n (cH a) = -1:=by omega
  simp -implicitDefEqProofs [qO,c1,h1,ef]
 have c2:=LQ  a.pending m1 hb.Sq (by omega) (by omega)
 have s2:=cu m1 (wL ck a.pending)
 obtain ⟨m2,e2⟩ : ∃ m,m = aF m1 (wL ck a.pending):=⟨_,rfl⟩
 rw [← e2] at c2 s2
 try simp at c2
 by_cases h2 : m2 < 0
 ·have ef : aF n (cH a) = -1:=by omega
  simp -implicitDefEqProofs [qO,c1,h1,c2,h2,ef]
 have ef : aF n (cH a) = m2:=by omega
 simp -implicitDefEqProofs [qO,c1,h1,c2,h2,ef]
 all_goals (repeat' split) <;> first | rfl | omega | (simp_all; done) | (simp_all; omega) | skip
theorem LU (a : ew) (hb : cH a≤1048576) : ev LI TT 46 [.agg ((fR .af) a)] = some (.agg ((fR .own) a),[.dead]):=by
 rw [ay (b:=yK) (rs:=[.c 2 2 true 39]) (n:=1) rfl rfl]
 have hw : cH a = wL wS a.cells + wL ck a.pending:=rfl
 have h1:=AL  a.cells (by omega)
 try simp at h1
 have h2:=L3  a.pending (by omega)
 try simp at h2
 simp -implicitDefEqProofs [yK,h1,h2,hw]
 all_goals (repeat' split) <;> first | rfl | omega | (simp_all; done) | (simp_all; omega) | skip
theorem Li (a b : ew) (hb : cH a≤1073741824) : ev LI TT 48 [.agg ((fR .af) a),.agg ((fR .af) b)] = some (.bool (decide (a = b)),[.dead,.dead]):=by
 rw [ay (b:=qJ) (rs:=[.t 4]) (n:=2) rfl rfl]
 have hw : cH a = wL wS a.cells + wL ck a.pending:=rfl
 rw [M7]
 have c1:=AH  a.cells b.cells (by omega)
 cases g1 : decide (a.cells = b.cells)
 ·rw [g1] at c1
  try simp at c1
  simp -implicitDefEqProofs [qJ,c1]
 rw [g1] at c1
 try simp at c1
 have c2:=Lr  a.pending b.pending (by omega)
 cases g2 : decide (a.pending = b.pending)
 ·rw [g2] at c2
  try simp at c2
  simp -implicitDefEqProofs [qJ,c1,c2]
 rw [g2] at c2
 try simp at c2
 simp -implicitDefEqProofs [qJ,c1,c2]
 all_goals (repeat' split) <;> first | rfl | omega | (simp_all; done) | (simp_all; omega) | skip
theorem LH (a : aG) (n : Int) (hb : mw a) (hn : 0≤n) (hm : n≤9223372036854775807) : ev LI TT 159 [.agg (aD a),.int .i64 n] = some (.int .i64 (aF n (aI a)),[.dead,.dead]):=by
 rw [ay (b:=qQ) (rs:=[.t 4]) (n:=2) rfl rfl]
 have hw : aI a = a.name.length + a.value.length:=rfl
 have ht:=cu n (aI a)
 have mR : a.name.length≤9223372036854775807:=hb.Sl
 obtain ⟨m1,e1⟩ : ∃ m,m = n - (a.name.length : Int):=⟨_,rfl⟩
 have c1 : IntKind.i64.wrap (n - (a.name.length : Int)) = m1:=by rw [e1]; exact bl (by omega) (by omega)
 by_cases h1 : m1 < 0
 ·have ef : aF n (aI a) = -1:=by omega
  simp -implicitDefEqProofs [qQ,c1,h1,ef]
 have qn : a.value.length≤9223372036854775807:=hb.Su
 obtain ⟨m2,e2⟩ : ∃ m,m = m1 - (a.value.length : Int):=⟨_,rfl⟩
 have c2 : IntKind.i64.wrap (m1 - (a.value.length : Int)) = m2:=by rw [e2]; exact bl (by omega) (by omega)
 by_cases h2 : m2 < 0
 ·have ef : aF n (aI a) = -1:=by omega
  simp -implicitDefEqProofs [qQ,c1,h1,c2,h2,ef]
 have ef : aF n (aI a) = m2:=by omega
 simp -implicitDefEqProofs [qQ,c1,h1,c2,h2,ef]
 all_goals (repeat' split) <;> first | rfl | omega | (simp_all; done) | (simp_all; omega) | skip
theorem LV (a : aG) (hb : aI a≤1048576) : ev LI TT 167 [.agg (aD a)] = some (.agg (aD a),[.dead]):=by
 rw [ay (b:=yM) (rs:=[.c 2 2 true 214]) (n:=1) rfl rfl]
 have hw : aI a = a.name.length + a.value.length:=rfl
 simp -implicitDefEqProofs [yM,hw]
 all_goals (repeat' split) <;> first | rfl | omega | (simp_all; done) | (simp_all; omega) | skip
theorem Lj (a b : aG) (hb : aI a≤1073741824) : ev LI TT 171 [.agg (aD a),.agg (aD b)] = some (.bool (decide (a = b)),[.dead,.dead]):=by
 rw [ay (b:=qK) (rs:=[.t 4]) (n:=2) rfl rfl]
 have hw : aI a = a.name.length + a.value.length:=rfl
 rw [M8]
 by_cases g1 : a.name = b.name
 rotate_left
 ·simp -implicitDefEqProofs [qK,eq_false g1]
 by_cases g2 : a.value = b.value
 rotate_left
 ·simp -implicitDefEqProofs [qK,eq_true g1,eq_false g2]
 simp -implicitDefEqProofs [qK,eq_true g1,eq_true g2]
 all_goals (repeat' split) <;> first | rfl | omega | (simp_all; done) | (simp_all; omega) | skip
theorem JJ (l : List aG) (hlen : l.length≤9223372036854775807) (hb : bL mw l) (n : Int) (hn : 0≤n) (hm : n≤9223372036854775807) : aJ (aj (ev LI TT) (av TT) ur) [(0,.row .af 2 (l.map (aD))),(1,.int .i64 n),(5,.int .i64 0)] = if eu (fun b n=>aF n (aI b)) (l) n < 0 then some (.ret,[(4,.int .i64 (-1))]) else some (.exit 0,[(0,.row .af 2 (l.map (aD))),(1,.int .i64 (eu (fun b n=>aF n (aI b)) (l) n)),(5,.int .i64 (l).length),(15,.bool false)]):=by
 refine uG (f:=aj (ev LI TT) (av TT) ur) (l) (fun i n=>[(0,.row .af 2 (l.map (aD))),(1,.int .i64 n),(5,.int .i64 i)]) (fun b n=>aF n (aI b)) _ (fun n=>[(0,.row .af 2 (l.map (aD))),(1,.int .i64 n),(5,.int .i64 (l).length),(15,.bool false)]) n hn hm (fun b n=>vE _ n) (fun i b n hi hl hn hm=>?_) (fun n=>?_)
 ·have hw:=aY i (by first | omega | (simp at hl; omega))
  obtain ⟨_,rfl⟩:=List.getElem?_eq_some_iff.1 hi
  have h2:=LH  l[i] n (hb.2 _ (List.getElem_mem hl)) hn hm
  obtain ⟨m,e1⟩ : ∃ m,m = aF n (aI l[i]):=⟨_,rfl⟩
  rw [← e1] at h2 ⊢
  try simp at h2
  simp -implicitDefEqProofs [ur,C0,hl,hw,h2]
 ·simp -implicitDefEqProofs [ur,C0]
theorem EX (l : List aG) (n : Int) (hb : bL mw l) (hn : 0≤n) (hm : n≤9223372036854775807) : ev LI TT 69 [.row .af 2 (l.map (aD)),.int .i64 n] = some (.int .i64 (aF n (wL aI l)),[.dead,.dead]):=by
 rw [ay (b:=qP) (rs:=[.t 4]) (n:=2) rfl rfl]
 have hl:=hb.1
 have hw : wL aI l = l.length + (l.map aI).sum:=rfl
 have ht:=cu n (wL aI l)
 obtain ⟨m,e1⟩ : ∃ m,m = n - (l.length : Int):=⟨_,rfl⟩
 have h2 : IntKind.i64.wrap (n - (l.length : Int)) = m:=by rw [e1]; exact bl (by omega) (by omega)
 by_cases h : m < 0
 ·have ef : aF n (wL aI l) = -1:=by omega
  simp -implicitDefEqProofs [qP,h2,h,ef]
 have h3:=JJ  l hb.1 hb m (by omega) (by omega)
 rw [rN _ _ _ (by omega)] at h3
 have hs:=cu m (l.map aI).sum
 obtain ⟨q,e2⟩ : ∃ q,q = aF m (l.map aI).sum:=⟨_,rfl⟩
 rw [← e2] at h3 hs
 try simp at h3
 by_cases h4 : q < 0
 ·have ef : aF n (wL aI l) = -1:=by omega
  simp only [h4,if_true] at h3
  simp -implicitDefEqProofs [qP,h2,h,h3,ef]
 have ef : aF n (wL aI l) = q:=by omega
 simp only [h4,if_false] at h3
 simp -implicitDefEqProofs [qP,h2,h,h3,ef]
 all_goals (repeat' split) <;> first | rfl | omega | (simp_all; done) | (simp_all; omega) | skip
theorem JO (l : List aG) (hlen : l.length≤1048576) (hb : wL aI l≤1048576) : aJ (aj (ev LI TT) (av TT) uz) [(0,.row .af 2 (l.map aD)),(3,.row .own 2 (dH (l.map aD) 0 [.str ⟨#[]⟩,.str ⟨#[]⟩])),(4,.int .i64 0),(6,.int .i64 l.length)] = some (.exit 0,[(0,.row .af 2 (l.map aD)),(3,.row .own 2 (l.map aD)),(4,.int .i64 (l).length),(6,.int .i64 l.length),(11,.bool false)]):=by
 refine gY (f:=aj (ev LI TT) (av TT) uz) (l) (fun i=>[(0,.row .af 2 (l.map aD)),(3,.row .own 2 (dH (l.map aD) i [.str ⟨#[]⟩,.str ⟨#[]⟩])),(4,.int .i64 i),(6,.int .i64 l.length)]) _ (fun i b hi hl=>?_) ?_
 ·have hw:=aY i (by first | omega | (simp at hl; omega))
  obtain ⟨_,rfl⟩:=List.getElem?_eq_some_iff.1 hi
  have h:=LV  l[i] (Nat.le_trans (ic (List.getElem_mem hl)) hb)
  try simp at h
  simp -implicitDefEqProofs [uz,C6,hl,hw,h]
  first | done | (rw [ke _ _ _ _ (by simpa using hl) (by simp)]; done) | (simp only [kA]; rw [ke _ _ _ _ (by simpa using hl) (by simp)])
 ·simp -implicitDefEqProofs [uz,C6]
theorem EY (l : List aG) (hb : wL aI l≤1048576) : ev LI TT 75 [.row .af 2 (l.map aD)] = some (.row .own 2 (l.map aD),[.dead]):=by
 rw [ay (b:=yL) (rs:=[.t 2]) (n:=1) rfl rfl]
 have hlen:=bw (w:=aI) l
 have h:=JO  l (by omega) hb
 try simp at h
 simp -implicitDefEqProofs [yL,h,(by omega : (l.length : Int) * 32≤140737488355328)]
 all_goals (repeat' split) <;> first | rfl | omega | (simp_all; done) | (simp_all; omega) | skip
theorem Jv (ps : List (aG×aG)) (hb : ps.length≤9223372036854775807) (cT : ∀ x∈ps,aI x.1≤1073741824) : aJ (aj (ev LI TT) (av TT) tZ) [(0,.row .af 2 (ps.map (fun x : aG×aG=>aD x.1))),(1,.row .af 2 (ps.map (fun x : aG×aG=>aD x.2))),(5,.int .i64 0)] = if aO cZ (ps) = true then some (.exit 0,[(0,.row .af 2 (ps.map (fun x : aG×aG=>aD x.1))),(1,.row .af 2 (ps.map (fun x : aG×aG=>aD x.2))),(5,.int .i64 ps.length),(14,.bool false)]) else some (.ret,[(4,.bool false)]):=by
 refine dh (f:=aj (ev LI TT) (av TT) tZ) (ps) (fun i=>[(0,.row .af 2 (ps.map (fun x : aG×aG=>aD x.1))),(1,.row .af 2 (ps.map (fun x : aG×aG=>aD x.2))),(5,.int .i64 i)]) cZ _ _ (fun i b hi hl=>?_) ?_
 ·have hw:=aY i (by first | omega | (simp at hl; omega))
  obtain ⟨_,rfl⟩:=List.getElem?_eq_some_iff.1 hi
  have h:=Lj  (ps[i]).1 (ps[i]).2 (cT _ (List.getElem_mem hl)); try simp at h
  simp -implicitDefEqProofs [tZ,CN,hl,hw,cZ,h]
 ·simp -implicitDefEqProofs [tZ,CN]
theorem EU (a b : List aG) (hb : wL aI a≤1073741824) : ev LI TT 81 [.row .af 2 (a.map aD),.row .af 2 (b.map aD)] = some (.bool (decide (a = b)),[.dead,.dead]):=by
 rw [ay (b:=yh) (rs:=[.t 4]) (n:=2) rfl rfl]
 simp -implicitDefEqProofs [yh]
 have hlen:=bw (w:=aI) a
 by_cases h : a.length = b.length
 ·obtain ⟨ps,rfl,rfl⟩:=pI h
  have h1:=Jv  ps (by simp at hlen; omega) (fun x hx=>Nat.le_trans (ic (List.mem_map_of_mem hx)) hb)
  have h2:=nR ps
  simp at h1
  rw [← h2]
  cases h3 : aO cZ ps <;> rw [h3] at h1 <;> simp [h1,Function.comp_def]
 ·have : ¬ a = b:=fun e=>h (by rw [e])
  simp [this]
  omega
theorem LN (a : cR) (n : Int) (hb : pO a) (hn : 0≤n) (hm : n≤9223372036854775807) : ev LI TT 106 [.agg ((eO .af) a),.int .i64 n] = some (.int .i64 (aF n (cj a)),[.dead,.dead]):=by
 rw [ay (b:=qS) (rs:=[.t 4]) (n:=2) rfl rfl]
 have hw : cj a = wL aI a.fields + a.body.length:=rfl
 have ht:=cu n (cj a)
 have c1:=EX  a.fields n hb.Cz (by omega) (by omega)
 have s1:=cu n (wL aI a.fields)
 obtain ⟨m1,e1⟩ : ∃ m,m = aF n (wL aI a.fields):=⟨_,rfl⟩
 rw [← e1] at c1 s1
 try simp at c1
 by_cases h1 : m1 < 0
 ·have ef : aF n (cj a) = -1:=by omega
  simp -implicitDefEqProofs [qS,c1,h1,ef]
 have qn : a.body.length≤9223372036854775807:=hb.Cy
 obtain ⟨m2,e2⟩ : ∃ m,m = m1 - (a.body.length : Int):=⟨_,rfl⟩
 have c2 : IntKind.i64.wrap (m1 - (a.body.length : Int)) = m2:=by rw [e2]; exact bl (by omega) (by omega)
 by_cases h2 : m2 < 0
 ·have ef : aF n (cj a) = -1:=by omega
  simp -implicitDefEqProofs [qS,c1,h1,c2,h2,ef]
 have ef : aF n (cj a) = m2:=by omega
 simp -implicitDefEqProofs [qS,c1,h1,c2,h2,ef]
 all_goals (repeat' split) <;> first | rfl | omega | (simp_all; done) | (simp_all; omega) | skip
theorem L0 (a : cR) (hb : cj a≤1048576) : ev LI TT 112 [.agg ((eO .af) a)] = some (.agg ((eO .own) a),[.dead]):=by
 rw [ay (b:=yR) (rs:=[.c 2 3 true 59]) (n:=1) rfl rfl]
 have hw : cj a = wL aI a.fields + a.body.length:=rfl
 have h1:=EY  a.fields (by omega)
 try simp at h1
 simp -implicitDefEqProofs [yR,h1,hw]
 all_goals (repeat' split) <;> first | rfl | omega | (simp_all; done) | (simp_all; omega) | skip
theorem Lo (a b : cR) (hb : cj a≤1073741824) : ev LI TT 78 [.agg ((eO .af) a),.agg ((eO .af) b)] = some (.bool (decide (a = b)),[.dead,.dead]):=by
 rw [ay (b:=oB) (rs:=[.t 4]) (n:=2) rfl rfl]
 have hw : cj a = wL aI a.fields + a.body.length:=rfl
 rw [Nc]
 by_cases g1 : a.status = b.status
 rotate_left
 ·simp -implicitDefEqProofs [oB,eq_false g1]
 have c2:=EU  a.fields b.fields (by omega)
 cases g2 : decide (a.fields = b.fields)
 ·rw [g2] at c2
  try simp at c2
  simp -implicitDefEqProofs [oB,eq_true g1,c2]
 rw [g2] at c2
 try simp at c2
 by_cases g3 : a.body = b.body
 rotate_left
 ·simp -implicitDefEqProofs [oB,eq_true g1,c2,eq_false g3]
 simp -implicitDefEqProofs [oB,eq_true g1,c2,eq_true g3]
 all_goals (repeat' split) <;> first | rfl | omega | (simp_all; done) | (simp_all; omega) | skip
theorem LL (a : Ob) (n : Int) (hb : si a) (hn : 0≤n) (hm : n≤9223372036854775807) : ev LI TT 38 [.agg ((bu .af) a),.int .i64 n] = some (.int .i64 (aF n (bG a)),[.dead,.dead]):=by
 rw [ay (b:=nq) (rs:=[.t 4]) (n:=2) rfl rfl]
 have hw : bG a = a.path.length + wL wS a.names + wL wS a.values + cj a.resp:=rfl
 have ht:=cu n (bG a)
 have mR : a.path.length≤9223372036854775807:=hb.CA
 obtain ⟨m1,e1⟩ : ∃ m,m = n - (a.path.length : Int):=⟨_,rfl⟩
 have c1 : IntKind.i64.wrap (n - (a.path.length : Int)) = m1:=by rw [e1]; exact bl (by omega) (by omega)
 by_cases h1 : m1 < 0
 ·have ef : aF n (bG a) = -1:=by omega
  simp -implicitDefEqProofs [nq,c1,h1,ef]
 have c2:=AK  a.names m1 hb.Sm (by omega) (by omega)
 have s2:=cu m1 (wL wS a.names)
 obtain ⟨m2,e2⟩ : ∃ m,m = aF m1 (wL wS a.names):=⟨_,rfl⟩
 rw [← e2] at c2 s2
 try simp at c2
 by_cases h2 : m2 < 0
 ·have ef : aF n (bG a) = -1:=by omega
  simp -implicitDefEqProofs [nq,c1,h1,c2,h2,ef]
 have c3:=AK  a.values m2 hb.Sv (by omega) (by omega)
 have s3:=cu m2 (wL wS a.values)
 obtain ⟨m3,e3⟩ : ∃ m,m = aF m2 (wL wS a.values):=⟨_,rfl⟩
 rw [← e3] at c3 s3
 try simp at c3
 by_cases h3 : m3 < 0
 ·have ef : aF n (bG a) = -1:=by omega
  simp -implicitDefEqProofs [nq,c1,h1,c2,h2,c3,h3,ef]
 have c4:=LN  a.resp m3 hb.yf (by omega) (by omega)
 have s4:=cu m3 (cj a.resp)
 obtain ⟨m4,e4⟩ : ∃ m,m = aF m3 (cj a.resp):=⟨_,rfl⟩
 rw [← e4] at c4 s4
 try simp at c4
 by_cases h4 : m4 < 0
 ·have ef : aF n (bG a) = -1:=by omega
  simp -implicitDefEqProofs [nq,c1,h1,c2,h2,c3,h3,c4,h4,ef]
 have ef : aF n (bG a) = m4:=by omega
 simp -implicitDefEqProofs [nq,c1,h1,c2,h2,c3,h3,c4,h4,ef]
 all_goals (repeat' split) <;> first | rfl | omega | (simp_all; done) | (simp_all; omega) | skip
theorem LY (a : Ob) (hb : bG a≤1048576) : ev LI TT 40 [.agg ((bu .af) a)] = some (.agg ((bu .own) a),[.dead]):=by
 rw [ay (b:=yP) (rs:=[.c 2 7 true 61]) (n:=1) rfl rfl]
 have hw : bG a = a.path.length + wL wS a.names + wL wS a.values + cj a.resp:=rfl
 have h1:=AL  a.names (by omega)
 try simp at h1
 have h2:=AL  a.values (by omega)
 try simp at h2
 have h3:=L0  a.resp (by omega)
 try simp at h3
 simp -implicitDefEqProofs [yP,h1,h2,h3,hw]
 all_goals (repeat' split) <;> first | rfl | omega | (simp_all; done) | (simp_all; omega) | skip
theorem EV (a b : Ob) (hb : bG a≤1073741824) : ev LI TT 24 [.agg ((bu .af) a),.agg ((bu .af) b)] = some (.bool (decide (a = b)),[.dead,.dead]):=by
 rw [ay (b:=lM) (rs:=[.t 4]) (n:=2) rfl rfl]
 have hw : bG a = a.path.length + wL wS a.names + wL wS a.values + cj a.resp:=rfl
 rw [Na]
 by_cases g1 : a.path = b.path
 rotate_left
 ·simp -implicitDefEqProofs [lM,eq_false g1]
 have c2:=AH  a.names b.names (by omega)
 cases g2 : decide (a.names = b.names)
 ·rw [g2] at c2
  try simp at c2
  simp -implicitDefEqProofs [lM,eq_true g1,c2]
 rw [g2] at c2
 try simp at c2
 have c3:=AH  a.values b.values (by omega)
 cases g3 : decide (a.values = b.values)
 ·rw [g3] at c3
  try simp at c3
  simp -implicitDefEqProofs [lM,eq_true g1,c2,c3]
 rw [g3] at c3
 try simp at c3
 have c4:=Lo  a.resp b.resp (by omega)
 cases g4 : decide (a.resp = b.resp)
 ·rw [g4] at c4
  try simp at c4
  simp -implicitDefEqProofs [lM,eq_true g1,c2,c3,c4]
 rw [g4] at c4
 try simp at c4
 by_cases g5 : a.t = b.t
 rotate_left
 ·simp -implicitDefEqProofs [lM,eq_true g1,c2,c3,c4,eq_false g5]
 simp -implicitDefEqProofs [lM,eq_true g1,c2,c3,c4,eq_true g5]
 all_goals (repeat' split) <;> first | rfl | omega | (simp_all; done) | (simp_all; omega) | skip
theorem LJ (a : Kp) (n : Int) (hb : pN a) (hn : 0≤n) (hm : n≤9223372036854775807) : ev LI TT 158 [.agg ((aQ .af) a),.int .i64 n] = some (.int .i64 (aF n (bt a)),[.dead,.dead]):=by
 rw [ay (b:=uv) (rs:=[.t 4]) (n:=2) rfl rfl]
 have hw : bt a = bG a.obj:=rfl
 have ht:=cu n (bt a)
 have c1:=LL  a.obj n hb.Hs (by omega) (by omega)
 have s1:=cu n (bG a.obj)
 obtain ⟨m1,e1⟩ : ∃ m,m = aF n (bG a.obj):=⟨_,rfl⟩
 rw [← e1] at c1 s1
 try simp at c1
 by_cases h1 : m1 < 0
 ·have ef : aF n (bt a) = -1:=by omega
  simp -implicitDefEqProofs [uv,c1,h1,ef]
 have ef : aF n (bt a) = m1:=by omega
 simp -implicitDefEqProofs [uv,c1,h1,ef]
 all_goals (repeat' split) <;> first | rfl | omega | (simp_all; done) | (simp_all; omega) | skip
theorem LW (a : Kp) (hb : bt a≤1048576) : ev LI TT 166 [.agg ((aQ .af) a)] = some (.agg ((aQ .own) a),[.dead]):=by
 rw [ay (b:=yO) (rs:=[.c 2 9 true 108]) (n:=1) rfl rfl]
 have hw : bt a = bG a.obj:=rfl
 have h1:=LY  a.obj (by omega)
 try simp at h1
 simp -implicitDefEqProofs [yO,h1,hw]
 all_goals (repeat' split) <;> first | rfl | omega | (simp_all; done) | (simp_all; omega) | skip
theorem Ll (a b : Kp) (hb : bt a≤1073741824) : ev LI TT 169 [.agg ((aQ .af) a),.agg ((aQ .af) b)] = some (.bool (decide (a = b)),[.dead,.dead]):=by
 rw [ay (b:=oA) (rs:=[.t 4]) (n:=2) rfl rfl]
 have hw : bt a = bG a.obj:=rfl
 rw [M9]
 have c1:=EV  a.obj b.obj (by omega)
 cases g1 : decide (a.obj = b.obj)
 ·rw [g1] at c1
  try simp at c1
  simp -implicitDefEqProofs [oA,c1]
 rw [g1] at c1
 try simp at c1
 by_cases g2 : a.at_ = b.at_
 rotate_left
 ·simp -implicitDefEqProofs [oA,c1,eq_false g2]
 by_cases g3 : a.seq = b.seq
 rotate_left
 ·simp -implicitDefEqProofs [oA,c1,eq_true g2,eq_false g3]
 simp -implicitDefEqProofs [oA,c1,eq_true g2,eq_true g3]
 all_goals (repeat' split) <;> first | rfl | omega | (simp_all; done) | (simp_all; omega) | skip
theorem JK (l : List Kp) (hlen : l.length≤9223372036854775807) (hb : bL pN l) (n : Int) (hn : 0≤n) (hm : n≤9223372036854775807) : aJ (aj (ev LI TT) (av TT) uu) [(0,.row .af 9 (l.map (aQ .af))),(1,.int .i64 n),(5,.int .i64 0)] = if eu (fun b n=>aF n (bt b)) (l) n < 0 then some (.ret,[(4,.int .i64 (-1))]) else some (.exit 0,[(0,.row .af 9 (l.map (aQ .af))),(1,.int .i64 (eu (fun b n=>aF n (bt b)) (l) n)),(5,.int .i64 (l).length),(15,.bool false)]):=by
 refine uG (f:=aj (ev LI TT) (av TT) uu) (l) (fun i n=>[(0,.row .af 9 (l.map (aQ .af))),(1,.int .i64 n),(5,.int .i64 i)]) (fun b n=>aF n (bt b)) _ (fun n=>[(0,.row .af 9 (l.map (aQ .af))),(1,.int .i64 n),(5,.int .i64 (l).length),(15,.bool false)]) n hn hm (fun b n=>vE _ n) (fun i b n hi hl hn hm=>?_) (fun n=>?_)
 ·have hw:=aY i (by first | omega | (simp at hl; omega))
  obtain ⟨_,rfl⟩:=List.getElem?_eq_some_iff.1 hi
  have h2:=LJ  l[i] n (hb.2 _ (List.getElem_mem hl)) hn hm
  obtain ⟨m,e1⟩ : ∃ m,m = aF n (bt l[i]):=⟨_,rfl⟩
  rw [← e1] at h2 ⊢
  try simp at h2
  simp -implicitDefEqProofs [uu,C3,hl,hw,h2]
 ·simp -implicitDefEqProofs [uu,C3]
theorem LK (l : List Kp) (n : Int) (hb : bL pN l) (hn : 0≤n) (hm : n≤9223372036854775807) : ev LI TT 67 [.row .af 9 (l.map (aQ .af)),.int .i64 n] = some (.int .i64 (aF n (wL bt l)),[.dead,.dead]):=by
 rw [ay (b:=qR) (rs:=[.t 4]) (n:=2) rfl rfl]
 have hl:=hb.1
 have hw : wL bt l = l.length + (l.map bt).sum:=rfl
 have ht:=cu n (wL bt l)
 obtain ⟨m,e1⟩ : ∃ m,m = n - (l.length : Int):=⟨_,rfl⟩
 have h2 : IntKind.i64.wrap (n - (l.length : Int)) = m:=by rw [e1]; exact bl (by omega) (by omega)
 by_cases h : m < 0
 ·have ef : aF n (wL bt l) = -1:=by omega
  simp -implicitDefEqProofs [qR,h2,h,ef]
 have h3:=JK  l hb.1 hb m (by omega) (by omega)
 rw [rN _ _ _ (by omega)] at h3
 have hs:=cu m (l.map bt).sum
 obtain ⟨q,e2⟩ : ∃ q,q = aF m (l.map bt).sum:=⟨_,rfl⟩
 rw [← e2] at h3 hs
 try simp at h3
 by_cases h4 : q < 0
 ·have ef : aF n (wL bt l) = -1:=by omega
  simp only [h4,if_true] at h3
  simp -implicitDefEqProofs [qR,h2,h,h3,ef]
 have ef : aF n (wL bt l) = q:=by omega
 simp only [h4,if_false] at h3
 simp -implicitDefEqProofs [qR,h2,h,h3,ef]
 all_goals (repeat' split) <;> first | rfl | omega | (simp_all; done) | (simp_all; omega) | skip
theorem JP (l : List Kp) (hlen : l.length≤1048576) (hb : wL bt l≤1048576) : aJ (aj (ev LI TT) (av TT) uA) [(0,.row .af 9 (l.map (aQ .af))),(3,.row .own 9 (dH (l.map (aQ .own)) 0 [.str ⟨#[]⟩,.row .own 1 [],.row .own 1 [],.int .i64 0,.row .own 2 [],.str ⟨#[]⟩,.int .i64 0,.int .i64 0,.int .i64 0])),(4,.int .i64 0),(6,.int .i64 l.length)] = some (.exit 0,[(0,.row .af 9 (l.map (aQ .af))),(3,.row .own 9 (l.map (aQ .own))),(4,.int .i64 (l).length),(6,.int .i64 l.length),(11,.bool false)]):=by
 refine gY (f:=aj (ev LI TT) (av TT) uA) (l) (fun i=>[(0,.row .af 9 (l.map (aQ .af))),(3,.row .own 9 (dH (l.map (aQ .own)) i [.str ⟨#[]⟩,.row .own 1 [],.row .own 1 [],.int .i64 0,.row .own 2 [],.str ⟨#[]⟩,.int .i64 0,.int .i64 0,.int .i64 0])),(4,.int .i64 i),(6,.int .i64 l.length)]) _ (fun i b hi hl=>?_) ?_
 ·have hw:=aY i (by first | omega | (simp at hl; omega))
  obtain ⟨_,rfl⟩:=List.getElem?_eq_some_iff.1 hi
  have h:=LW  l[i] (Nat.le_trans (ic (List.getElem_mem hl)) hb)
  try simp at h
  simp -implicitDefEqProofs [uA,C7,hl,hw,h]
  first | done | (rw [ke _ _ _ _ (by simpa using hl) (by simp)]; done) | (simp only [kA]; rw [ke _ _ _ _ (by simpa using hl) (by simp)])
 ·simp -implicitDefEqProofs [uA,C7]
theorem LX (l : List Kp) (hb : wL bt l≤1048576) : ev LI TT 73 [.row .af 9 (l.map (aQ .af))] = some (.row .own 9 (l.map (aQ .own)),[.dead]):=by
 rw [ay (b:=yN) (rs:=[.t 2]) (n:=1) rfl rfl]
 have hlen:=bw (w:=bt) l
 have h:=JP  l (by omega) hb
 try simp at h
 simp -implicitDefEqProofs [yN,h,(by omega : (l.length : Int) * 136≤140737488355328)]
 all_goals (repeat' split) <;> first | rfl | omega | (simp_all; done) | (simp_all; omega) | skip
theorem Jw (ps : List (Kp×Kp)) (hb : ps.length≤9223372036854775807) (cT : ∀ x∈ps,bt x.1≤1073741824) : aJ (aj (ev LI TT) (av TT) ua) [(0,.row .af 9 (ps.map (fun x : Kp×Kp=>(aQ .af) x.1))),(1,.row .af 9 (ps.map (fun x : Kp×Kp=>(aQ .af) x.2))),(5,.int .i64 0)] = if aO cZ (ps) = true then some (.exit 0,[(0,.row .af 9 (ps.map (fun x : Kp×Kp=>(aQ .af) x.1))),(1,.row .af 9 (ps.map (fun x : Kp×Kp=>(aQ .af) x.2))),(5,.int .i64 ps.length),(14,.bool false)]) else some (.ret,[(4,.bool false)]):=by
 refine dh (f:=aj (ev LI TT) (av TT) ua) (ps) (fun i=>[(0,.row .af 9 (ps.map (fun x : Kp×Kp=>(aQ .af) x.1))),(1,.row .af 9 (ps.map (fun x : Kp×Kp=>(aQ .af) x.2))),(5,.int .i64 i)]) cZ _ _ (fun i b hi hl=>?_) ?_
 ·have hw:=aY i (by first | omega | (simp at hl; omega))
  obtain ⟨_,rfl⟩:=List.getElem?_eq_some_iff.1 hi
  have h:=Ll  (ps[i]).1 (ps[i]).2 (cT _ (List.getElem_mem hl)); try simp at h
  simp -implicitDefEqProofs [ua,CO,hl,hw,cZ,h]
 ·simp -implicitDefEqProofs [ua,CO]
theorem Lm (a b : List Kp) (hb : wL bt a≤1073741824) : ev LI TT 79 [.row .af 9 (a.map (aQ .af)),.row .af 9 (b.map (aQ .af))] = some (.bool (decide (a = b)),[.dead,.dead]):=by
 rw [ay (b:=yj) (rs:=[.t 4]) (n:=2) rfl rfl]
 simp -implicitDefEqProofs [yj]
 have hlen:=bw (w:=bt) a
 by_cases h : a.length = b.length
 ·obtain ⟨ps,rfl,rfl⟩:=pI h
  have h1:=Jw  ps (by simp at hlen; omega) (fun x hx=>Nat.le_trans (ic (List.mem_map_of_mem hx)) hb)
  have h2:=nR ps
  simp at h1
  rw [← h2]
  cases h3 : aO cZ ps <;> rw [h3] at h1 <;> simp [h1,Function.comp_def]
 ·have : ¬ a = b:=fun e=>h (by rw [e])
  simp [this]
  omega
theorem LD (a : Bn) (n : Int) (hb : nT a) (hn : 0≤n) (hm : n≤9223372036854775807) : ev LI TT 33 [.agg (bg a),.int .i64 n] = some (.int .i64 (aF n (aN a)),[.dead,.dead]):=by
 rw [ay (b:=qN) (rs:=[.t 4]) (n:=2) rfl rfl]
 have hw : aN a = a.a.length + a.b.length:=rfl
 have ht:=cu n (aN a)
 have mR : a.a.length≤9223372036854775807:=hb.Hp
 obtain ⟨m1,e1⟩ : ∃ m,m = n - (a.a.length : Int):=⟨_,rfl⟩
 have c1 : IntKind.i64.wrap (n - (a.a.length : Int)) = m1:=by rw [e1]; exact bl (by omega) (by omega)
 by_cases h1 : m1 < 0
 ·have ef : aF n (aN a) = -1:=by omega
  simp -implicitDefEqProofs [qN,c1,h1,ef]
 have qn : a.b.length≤9223372036854775807:=hb.Sg
 obtain ⟨m2,e2⟩ : ∃ m,m = m1 - (a.b.length : Int):=⟨_,rfl⟩
 have c2 : IntKind.i64.wrap (m1 - (a.b.length : Int)) = m2:=by rw [e2]; exact bl (by omega) (by omega)
 by_cases h2 : m2 < 0
 ·have ef : aF n (aN a) = -1:=by omega
  simp -implicitDefEqProofs [qN,c1,h1,c2,h2,ef]
 have ef : aF n (aN a) = m2:=by omega
 simp -implicitDefEqProofs [qN,c1,h1,c2,h2,ef]
 all_goals (repeat' split) <;> first | rfl | omega | (simp_all; done) | (simp_all; omega) | skip
theorem LR (a : Bn) (hb : aN a≤1048576) : ev LI TT 35 [.agg (bg a)] = some (.agg (bg a),[.dead]):=by
 rw [ay (b:=yJ) (rs:=[.c 2 4 true 83]) (n:=1) rfl rfl]
 have hw : aN a = a.a.length + a.b.length:=rfl
 simp -implicitDefEqProofs [yJ,hw]
 all_goals (repeat' split) <;> first | rfl | omega | (simp_all; done) | (simp_all; omega) | skip
theorem Lg (a b : Bn) (hb : aN a≤1073741824) : ev LI TT 170 [.agg (bg a),.agg (bg b)] = some (.bool (decide (a = b)),[.dead,.dead]):=by
 rw [ay (b:=nj) (rs:=[.t 4]) (n:=2) rfl rfl]
 have hw : aN a = a.a.length + a.b.length:=rfl
 rw [M6]
 by_cases g1 : a.kind = b.kind
 rotate_left
 ·simp -implicitDefEqProofs [nj,eq_false g1]
 by_cases g2 : a.a = b.a
 rotate_left
 ·simp -implicitDefEqProofs [nj,eq_true g1,eq_false g2]
 by_cases g3 : a.b = b.b
 rotate_left
 ·simp -implicitDefEqProofs [nj,eq_true g1,eq_true g2,eq_false g3]
 by_cases g4 : a.t = b.t
 rotate_left
 ·simp -implicitDefEqProofs [nj,eq_true g1,eq_true g2,eq_true g3,eq_false g4]
 simp -implicitDefEqProofs [nj,eq_true g1,eq_true g2,eq_true g3,eq_true g4]
 all_goals (repeat' split) <;> first | rfl | omega | (simp_all; done) | (simp_all; omega) | skip
theorem JI (l : List Bn) (hlen : l.length≤9223372036854775807) (hb : bL nT l) (n : Int) (hn : 0≤n) (hm : n≤9223372036854775807) : aJ (aj (ev LI TT) (av TT) uq) [(0,.row .af 4 (l.map (bg))),(1,.int .i64 n),(5,.int .i64 0)] = if eu (fun b n=>aF n (aN b)) (l) n < 0 then some (.ret,[(4,.int .i64 (-1))]) else some (.exit 0,[(0,.row .af 4 (l.map (bg))),(1,.int .i64 (eu (fun b n=>aF n (aN b)) (l) n)),(5,.int .i64 (l).length),(15,.bool false)]):=by
 refine uG (f:=aj (ev LI TT) (av TT) uq) (l) (fun i n=>[(0,.row .af 4 (l.map (bg))),(1,.int .i64 n),(5,.int .i64 i)]) (fun b n=>aF n (aN b)) _ (fun n=>[(0,.row .af 4 (l.map (bg))),(1,.int .i64 n),(5,.int .i64 (l).length),(15,.bool false)]) n hn hm (fun b n=>vE _ n) (fun i b n hi hl hn hm=>?_) (fun n=>?_)
 ·have hw:=aY i (by first | omega | (simp at hl; omega))
  obtain ⟨_,rfl⟩:=List.getElem?_eq_some_iff.1 hi
  have h2:=LD  l[i] n (hb.2 _ (List.getElem_mem hl)) hn hm
  obtain ⟨m,e1⟩ : ∃ m,m = aF n (aN l[i]):=⟨_,rfl⟩
  rw [← e1] at h2 ⊢
  try simp at h2
  simp -implicitDefEqProofs [uq,CZ,hl,hw,h2]
 ·simp -implicitDefEqProofs [uq,CZ]
theorem LF (l : List Bn) (n : Int) (hb : bL nT l) (hn : 0≤n) (hm : n≤9223372036854775807) : ev LI TT 68 [.row .af 4 (l.map (bg)),.int .i64 n] = some (.int .i64 (aF n (wL aN l)),[.dead,.dead]):=by
 rw [ay (b:=qM) (rs:=[.t 4]) (n:=2) rfl rfl]
 have hl:=hb.1
 have hw : wL aN l = l.length + (l.map aN).sum:=rfl
 have ht:=cu n (wL aN l)
 obtain ⟨m,e1⟩ : ∃ m,m = n - (l.length : Int):=⟨_,rfl⟩
 have h2 : IntKind.i64.wrap (n - (l.length : Int)) = m:=by rw [e1]; exact bl (by omega) (by omega)
 by_cases h : m < 0
 ·have ef : aF n (wL aN l) = -1:=by omega
  simp -implicitDefEqProofs [qM,h2,h,ef]
 have h3:=JI  l hb.1 hb m (by omega) (by omega)
 rw [rN _ _ _ (by omega)] at h3
 have hs:=cu m (l.map aN).sum
 obtain ⟨q,e2⟩ : ∃ q,q = aF m (l.map aN).sum:=⟨_,rfl⟩
 rw [← e2] at h3 hs
 try simp at h3
 by_cases h4 : q < 0
 ·have ef : aF n (wL aN l) = -1:=by omega
  simp only [h4,if_true] at h3
  simp -implicitDefEqProofs [qM,h2,h,h3,ef]
 have ef : aF n (wL aN l) = q:=by omega
 simp only [h4,if_false] at h3
 simp -implicitDefEqProofs [qM,h2,h,h3,ef]
 all_goals (repeat' split) <;> first | rfl | omega | (simp_all; done) | (simp_all; omega) | skip
theorem JN (l : List Bn) (hlen : l.length≤1048576) (hb : wL aN l≤1048576) : aJ (aj (ev LI TT) (av TT) uy) [(0,.row .af 4 (l.map bg)),(3,.row .own 4 (dH (l.map bg) 0 [.int .i64 0,.str ⟨#[]⟩,.str ⟨#[]⟩,.int .i64 0])),(4,.int .i64 0),(6,.int .i64 l.length)] = some (.exit 0,[(0,.row .af 4 (l.map bg)),(3,.row .own 4 (l.map bg)),(4,.int .i64 (l).length),(6,.int .i64 l.length),(11,.bool false)]):=by
 refine gY (f:=aj (ev LI TT) (av TT) uy) (l) (fun i=>[(0,.row .af 4 (l.map bg)),(3,.row .own 4 (dH (l.map bg) i [.int .i64 0,.str ⟨#[]⟩,.str ⟨#[]⟩,.int .i64 0])),(4,.int .i64 i),(6,.int .i64 l.length)]) _ (fun i b hi hl=>?_) ?_
 ·have hw:=aY i (by first | omega | (simp at hl; omega))
  obtain ⟨_,rfl⟩:=List.getElem?_eq_some_iff.1 hi
  have h:=LR  l[i] (Nat.le_trans (ic (List.getElem_mem hl)) hb)
  try simp at h
  simp -implicitDefEqProofs [uy,C5,hl,hw,h]
  first | done | (rw [ke _ _ _ _ (by simpa using hl) (by simp)]; done) | (simp only [kA]; rw [ke _ _ _ _ (by simpa using hl) (by simp)])
 ·simp -implicitDefEqProofs [uy,C5]
theorem LS (l : List Bn) (hb : wL aN l≤1048576) : ev LI TT 74 [.row .af 4 (l.map bg)] = some (.row .own 4 (l.map bg),[.dead]):=by
 rw [ay (b:=yI) (rs:=[.t 2]) (n:=1) rfl rfl]
 have hlen:=bw (w:=aN) l
 have h:=JN  l (by omega) hb
 try simp at h
 simp -implicitDefEqProofs [yI,h,(by omega : (l.length : Int) * 48≤140737488355328)]
 all_goals (repeat' split) <;> first | rfl | omega | (simp_all; done) | (simp_all; omega) | skip
theorem Ju (ps : List (Bn×Bn)) (hb : ps.length≤9223372036854775807) (cT : ∀ x∈ps,aN x.1≤1073741824) : aJ (aj (ev LI TT) (av TT) tY) [(0,.row .af 4 (ps.map (fun x : Bn×Bn=>bg x.1))),(1,.row .af 4 (ps.map (fun x : Bn×Bn=>bg x.2))),(5,.int .i64 0)] = if aO cZ (ps) = true then some (.exit 0,[(0,.row .af 4 (ps.map (fun x : Bn×Bn=>bg x.1))),(1,.row .af 4 (ps.map (fun x : Bn×Bn=>bg x.2))),(5,.int .i64 ps.length),(14,.bool false)]) else some (.ret,[(4,.bool false)]):=by
 refine dh (f:=aj (ev LI TT) (av TT) tY) (ps) (fun i=>[(0,.row .af 4 (ps.map (fun x : Bn×Bn=>bg x.1))),(1,.row .af 4 (ps.map (fun x : Bn×Bn=>bg x.2))),(5,.int .i64 i)]) cZ _ _ (fun i b hi hl=>?_) ?_
 ·have hw:=aY i (by first | omega | (simp at hl; omega))
  obtain ⟨_,rfl⟩:=List.getElem?_eq_some_iff.1 hi
  have h:=Lg  (ps[i]).1 (ps[i]).2 (cT _ (List.getElem_mem hl)); try simp at h
  simp -implicitDefEqProofs [tY,CM,hl,hw,cZ,h]
 ·simp -implicitDefEqProofs [tY,CM]
theorem Lh (a b : List Bn) (hb : wL aN a≤1073741824) : ev LI TT 80 [.row .af 4 (a.map bg),.row .af 4 (b.map bg)] = some (.bool (decide (a = b)),[.dead,.dead]):=by
 rw [ay (b:=yg) (rs:=[.t 4]) (n:=2) rfl rfl]
 simp -implicitDefEqProofs [yg]
 have hlen:=bw (w:=aN) a
 by_cases h : a.length = b.length
 ·obtain ⟨ps,rfl,rfl⟩:=pI h
  have h1:=Ju  ps (by simp at hlen; omega) (fun x hx=>Nat.le_trans (ic (List.mem_map_of_mem hx)) hb)
  have h2:=nR ps
  simp at h1
  rw [← h2]
  cases h3 : aO cZ ps <;> rw [h3] at h1 <;> simp [h1,Function.comp_def]
 ·have : ¬ a = b:=fun e=>h (by rw [e])
  simp [this]
  omega
theorem LO (a : Sh) (n : Int) (hb : sj a) (hn : 0≤n) (hm : n≤9223372036854775807) : ev LI TT 18 [.agg ((bk .af) a),.int .i64 n] = some (.int .i64 (aF n (bP a)),[.dead,.dead]):=by
 rw [ay (b:=oD) (rs:=[.t 4]) (n:=2) rfl rfl]
 have hw : bP a = cH a.bz + wL bt a.au + wL aN a.aP:=rfl
 have ht:=cu n (bP a)
 have c1:=LG  a.bz n hb.Sk (by omega) (by omega)
 have s1:=cu n (cH a.bz)
 obtain ⟨m1,e1⟩ : ∃ m,m = aF n (cH a.bz):=⟨_,rfl⟩
 rw [← e1] at c1 s1
 try simp at c1
 by_cases h1 : m1 < 0
 ·have ef : aF n (bP a) = -1:=by omega
  simp -implicitDefEqProofs [oD,c1,h1,ef]
 have c2:=LK  a.au m1 hb.Sn (by omega) (by omega)
 have s2:=cu m1 (wL bt a.au)
 obtain ⟨m2,e2⟩ : ∃ m,m = aF m1 (wL bt a.au):=⟨_,rfl⟩
 rw [← e2] at c2 s2
 try simp at c2
 by_cases h2 : m2 < 0
 ·have ef : aF n (bP a) = -1:=by omega
  simp -implicitDefEqProofs [oD,c1,h1,c2,h2,ef]
 have c3:=LF  a.aP m2 hb.Hq (by omega) (by omega)
 have s3:=cu m2 (wL aN a.aP)
 obtain ⟨m3,e3⟩ : ∃ m,m = aF m2 (wL aN a.aP):=⟨_,rfl⟩
 rw [← e3] at c3 s3
 try simp at c3
 by_cases h3 : m3 < 0
 ·have ef : aF n (bP a) = -1:=by omega
  simp -implicitDefEqProofs [oD,c1,h1,c2,h2,c3,h3,ef]
 have ef : aF n (bP a) = m3:=by omega
 simp -implicitDefEqProofs [oD,c1,h1,c2,h2,c3,h3,ef]
 all_goals (repeat' split) <;> first | rfl | omega | (simp_all; done) | (simp_all; omega) | skip
theorem L1 (a : Sh) (hb : bP a≤1048576) : ev LI TT 21 [.agg ((bk .af) a)] = some (.agg ((bk .own) a),[.dead]):=by
 rw [ay (b:=yS) (rs:=[.c 2 6 true 43]) (n:=1) rfl rfl]
 have hw : bP a = cH a.bz + wL bt a.au + wL aN a.aP:=rfl
 have h1:=LU  a.bz (by omega)
 try simp at h1
 have h2:=LX  a.au (by omega)
 try simp at h2
 have h3:=LS  a.aP (by omega)
 try simp at h3
 simp -implicitDefEqProofs [yS,h1,h2,h3,hw]
 all_goals (repeat' split) <;> first | rfl | omega | (simp_all; done) | (simp_all; omega) | skip
theorem Lp (a b : Sh) (hb : bP a≤1073741824) : ev LI TT 25 [.agg ((bk .af) a),.agg ((bk .af) b)] = some (.bool (decide (a = b)),[.dead,.dead]):=by
 rw [ay (b:=lN) (rs:=[.t 4]) (n:=2) rfl rfl]
 have hw : bP a = cH a.bz + wL bt a.au + wL aN a.aP:=rfl
 rw [Nd]
 have c1:=Li  a.bz b.bz (by omega)
 cases g1 : decide (a.bz = b.bz)
 ·rw [g1] at c1
  try simp at c1
  simp -implicitDefEqProofs [lN,c1]
 rw [g1] at c1
 try simp at c1
 have c2:=Lm  a.au b.au (by omega)
 cases g2 : decide (a.au = b.au)
 ·rw [g2] at c2
  try simp at c2
  simp -implicitDefEqProofs [lN,c1,c2]
 rw [g2] at c2
 try simp at c2
 have c3:=Lh  a.aP b.aP (by omega)
 cases g3 : decide (a.aP = b.aP)
 ·rw [g3] at c3
  try simp at c3
  simp -implicitDefEqProofs [lN,c1,c2,c3]
 rw [g3] at c3
 try simp at c3
 by_cases g4 : a.next = b.next
 rotate_left
 ·simp -implicitDefEqProofs [lN,c1,c2,c3,eq_false g4]
 by_cases g5 : a.seq = b.seq
 rotate_left
 ·simp -implicitDefEqProofs [lN,c1,c2,c3,eq_true g4,eq_false g5]
 simp -implicitDefEqProofs [lN,c1,c2,c3,eq_true g4,eq_true g5]
 all_goals (repeat' split) <;> first | rfl | omega | (simp_all; done) | (simp_all; omega) | skip
theorem LM (a : Rq) (n : Int) (hb : mz a) (hn : 0≤n) (hm : n≤9223372036854775807) : ev LI TT 19 [.agg ((cw .af) a),.int .i64 n] = some (.int .i64 (aF n (cx a)),[.dead,.dead]):=by
 rw [ay (b:=oC) (rs:=[.t 4]) (n:=2) rfl rfl]
 have hw : cx a = a.path.length + wL aI a.fields + a.body.length:=rfl
 have ht:=cu n (cx a)
 have mR : a.path.length≤9223372036854775807:=hb.CA
 obtain ⟨m1,e1⟩ : ∃ m,m = n - (a.path.length : Int):=⟨_,rfl⟩
 have c1 : IntKind.i64.wrap (n - (a.path.length : Int)) = m1:=by rw [e1]; exact bl (by omega) (by omega)
 by_cases h1 : m1 < 0
 ·have ef : aF n (cx a) = -1:=by omega
  simp -implicitDefEqProofs [oC,c1,h1,ef]
 have c2:=EX  a.fields m1 hb.Cz (by omega) (by omega)
 have s2:=cu m1 (wL aI a.fields)
 obtain ⟨m2,e2⟩ : ∃ m,m = aF m1 (wL aI a.fields):=⟨_,rfl⟩
 rw [← e2] at c2 s2
 try simp at c2
 by_cases h2 : m2 < 0
 ·have ef : aF n (cx a) = -1:=by omega
  simp -implicitDefEqProofs [oC,c1,h1,c2,h2,ef]
 have hl3 : a.body.length≤9223372036854775807:=hb.Cy
 obtain ⟨m3,e3⟩ : ∃ m,m = m2 - (a.body.length : Int):=⟨_,rfl⟩
 have c3 : IntKind.i64.wrap (m2 - (a.body.length : Int)) = m3:=by rw [e3]; exact bl (by omega) (by omega)
 by_cases h3 : m3 < 0
 ·have ef : aF n (cx a) = -1:=by omega
  simp -implicitDefEqProofs [oC,c1,h1,c2,h2,c3,h3,ef]
 have ef : aF n (cx a) = m3:=by omega
 simp -implicitDefEqProofs [oC,c1,h1,c2,h2,c3,h3,ef]
 all_goals (repeat' split) <;> first | rfl | omega | (simp_all; done) | (simp_all; omega) | skip
theorem LZ (a : Rq) (hb : cx a≤1048576) : ev LI TT 22 [.agg ((cw .af) a)] = some (.agg ((cw .own) a),[.dead]):=by
 rw [ay (b:=yQ) (rs:=[.c 2 4 true 66]) (n:=1) rfl rfl]
 have hw : cx a = a.path.length + wL aI a.fields + a.body.length:=rfl
 have h1:=EY  a.fields (by omega)
 try simp at h1
 simp -implicitDefEqProofs [yQ,h1,hw]
 all_goals (repeat' split) <;> first | rfl | omega | (simp_all; done) | (simp_all; omega) | skip
theorem Ln (a b : Rq) (hb : cx a≤1073741824) : ev LI TT 26 [.agg ((cw .af) a),.agg ((cw .af) b)] = some (.bool (decide (a = b)),[.dead,.dead]):=by
 rw [ay (b:=nk) (rs:=[.t 4]) (n:=2) rfl rfl]
 have hw : cx a = a.path.length + wL aI a.fields + a.body.length:=rfl
 rw [Nb]
 by_cases g1 : a.method = b.method
 rotate_left
 ·simp -implicitDefEqProofs [nk,eq_false g1]
 by_cases g2 : a.path = b.path
 rotate_left
 ·simp -implicitDefEqProofs [nk,eq_true g1,eq_false g2]
 have c3:=EU  a.fields b.fields (by omega)
 cases g3 : decide (a.fields = b.fields)
 ·rw [g3] at c3
  try simp at c3
  simp -implicitDefEqProofs [nk,eq_true g1,eq_true g2,c3]
 rw [g3] at c3
 try simp at c3
 by_cases g4 : a.body = b.body
 rotate_left
 ·simp -implicitDefEqProofs [nk,eq_true g1,eq_true g2,c3,eq_false g4]
 simp -implicitDefEqProofs [nk,eq_true g1,eq_true g2,c3,eq_true g4]
 all_goals (repeat' split) <;> first | rfl | omega | (simp_all; done) | (simp_all; omega) | skip
end M
set_option maxHeartbeats 4000000
namespace M
open Go
variable [Lb]
theorem JG (n : Nat) (out : ah) (hn : out.length + n≤9223372036854775807) : aJ (aj (ev LI TT) (av TT) CX) [(0,.int .i64 n),(3,.str ⟨out.toArray⟩)] = some (.exit 0,[(0,.int .i64 0),(3,.str ⟨(je n out).toArray⟩),(7,.bool false)]):=by
 have hs : ∀ s,aj (ev LI TT) (av TT) CX s = aj (ev LI TT) (av TT) yF s:=fun _=>rfl
 induction n using Nat.strongRecOn generalizing out with
 | ind n ih =>
  rw [gE,hs]
  unfold je
  by_cases h : n = 0
  ·subst h
   simp -implicitDefEqProofs [yF]
  ·have hp : 0 < n:=by omega
   have:=ih (n / 10) (by omega) (UInt8.ofNat (48 + n % 10) :: out) (by rw [List.length_cons]; omega)
   have e1 : ((n : Int)).tmod 10 = ((n % 10 : Nat) : Int):=by rw [Int.tmod_eq_emod_of_nonneg (by omega)]; omega
   have e4 : ((n : Int)).tdiv 10 = ((n / 10 : Nat) : Int):=by rw [Int.tdiv_eq_ediv_of_nonneg (by omega)]; omega
   have e2 : IntKind.i64.wrap (48 + ((n % 10 : Nat) : Int)) = ((48 + n % 10 : Nat) : Int):=by rw [bl (by omega) (by omega)]; omega
   have e3 : IntKind.u8.wrap ((48 + n % 10 : Nat) : Int) = ((48 + n % 10 : Nat) : Int):=Ek (by omega) (by omega)
   have e5:=IZ (48 + n % 10) (by omega)
   have e6 : IntKind.i64.wrap ((n / 10 : Nat) : Int) = ((n / 10 : Nat) : Int):=bl (by omega) (by omega)
   simp only [h,dite_false]
   rw [← this]
   simp -implicitDefEqProofs [yF,hp,yX,e1,e2,e3,e4,e5,e6,-Int.natCast_emod,-Int.natCast_ediv,-Int.natCast_add,-UInt8.ofNat_add,Eb,(by omega : 1 + out.length≤9223372036854775807)]
theorem SK : ∀ (n : Nat) (out : ah),(je n out).length≤out.length + n:=by
 intro n
 induction n using Nat.strongRecOn with
 | ind n ih =>
  intro out
  unfold je
  by_cases h : n = 0
  ·simp [h]
  ·simp only [h,dite_false]
   have:=ih (n / 10) (by omega) (UInt8.ofNat (48 + n % 10) :: out)
   rw [List.length_cons] at this
   omega
theorem ju (k : Int) (hk : k≤9223372036854775800) : ev LI TT 172 [.int .i64 k] = some (.str ⟨(oF k).toArray⟩,[.dead]):=by
 rw [ay (b:=um) (rs:=[.t 2]) (n:=1) rfl rfl]
 unfold oF
 by_cases h : k≤0
 ·simp -implicitDefEqProofs [um,h]
 obtain ⟨n,rfl⟩ : ∃ n : Nat,k = n:=⟨k.toNat,by omega⟩
 have h1:=JG  n [] (by simp; omega)
 have h2:=SK n []
 simp at h2
 simp -implicitDefEqProofs [um,h,h1,Eb,(by omega : 1 + (je n []).length≤9223372036854775807)]
 have h3 : ¬ n = 0:=by omega
 simp [h3]
theorem JD (l : List aG) (k : Int) (hk : 0≤k) (hn : k + (nL aC l : Nat)≤1000000000000000) : aJ (aj (ev LI TT) (av TT) uh) [(0,.ref 100000 []),(1,.int .i64 (k + ((nL aC (l.take 0) : Nat) : Int))),(5,.int .i64 0),(100000,.row .own 2 (dG ((aZ dR aC l k).map aD) (l.map aD) 0))] = some (.exit 0,[(0,.ref 100000 []),(1,.int .i64 (k + ((nL aC l : Nat) : Int))),(5,.int .i64 l.length),(9,.bool false),(100000,.row .own 2 ((aZ dR aC l k).map aD))]):=by
 refine gY (f:=aj (ev LI TT) (av TT) uh) (l) (fun i=>[(0,.ref 100000 []),(1,.int .i64 (k + ((nL aC (l.take i) : Nat) : Int))),(5,.int .i64 i),(100000,.row .own 2 (dG ((aZ dR aC l k).map aD) (l.map aD) i))]) _ (fun i b hi hl=>?_) ?_
 ·have hw:=aY i (by have:=oK aC Fq l; omega)
  obtain ⟨_,rfl⟩:=List.getElem?_eq_some_iff.1 hi
  have hnt:=oL aC l i hl
  have hns:=nw aC l i hl
  have hg:=nv dR aC l k i hl (by simpa using hl)
  obtain ⟨k0,hk0⟩ : ∃ k0,k + ((nL aC (l.take i) : Nat) : Int) = k0:=⟨_,rfl⟩
  rw [hk0] at hg
  have hce : aC l[i] = 2:=rfl
  have m0:=ju k0 (by omega)
  obtain ⟨k1,hk1⟩ : ∃ x,k0 + 1 = x:=⟨_,rfl⟩
  have e0 : IntKind.i64.wrap (k0 + 1) = k1:=by rw [← hk1]; exact bl (by omega) (by omega)
  have m1:=ju k1 (by omega)
  obtain ⟨k2,hk2⟩ : ∃ x,k1 + 1 = x:=⟨_,rfl⟩
  have e1 : IntKind.i64.wrap (k1 + 1) = k2:=by rw [← hk2]; exact bl (by omega) (by omega)
  simp -implicitDefEqProofs [uh,CU,hl,hw,hk0,m0,e0,m1,e1]
  refine ⟨?_,?_⟩
  ·omega
  ·(try simp only [kA])
   refine sN _ _ _ _ (by simp) (by simpa using hl) ?_
   simp [hg,dR,cP,bR,lQ,hk1,hk2]
 ·rw [List.take_length]
  simp -implicitDefEqProofs [uh,CU]
theorem AJ (l : List aG) (k : Int) (hk : 0≤k) (hn : k + (nL aC l : Nat)≤1000000000000000) : ev LI TT 84 [.row .own 2 (l.map aD),.int .i64 k] = some (.int .i64 (k + ((nL aC l : Nat) : Int)),[.row .own 2 ((aZ dR aC l k).map aD),.dead]):=by
 rw [ay (b:=yx) (rs:=[.t 4]) (n:=2) rfl rfl]
 have u1:=JD l k hk hn
 simp [nL] at u1
 simp -implicitDefEqProofs [yx,u1,nL]
 all_goals (repeat' split) <;> first | rfl | omega | (simp_all; done) | (simp_all; omega) | skip
theorem JA (l : List aG) (k : Int) (hk : 0≤k) (hn : k + (nL aC l : Nat)≤1000000000000000) : aJ (aj (ev LI TT) (av TT) ue) [(0,.row .af 2 ((aZ dR aC l k).map aD)),(1,.int .i64 (k + ((nL aC (l.take 0) : Nat) : Int))),(5,.int .i64 0)] = some (.exit 0,[(0,.row .af 2 ((aZ dR aC l k).map aD)),(1,.int .i64 (k + ((nL aC l : Nat) : Int))),(5,.int .i64 l.length),(9,.bool false)]):=by
 refine gY (f:=aj (ev LI TT) (av TT) ue) (l) (fun i=>[(0,.row .af 2 ((aZ dR aC l k).map aD)),(1,.int .i64 (k + ((nL aC (l.take i) : Nat) : Int))),(5,.int .i64 i)]) _ (fun i b hi hl=>?_) ?_
 ·have hw:=aY i (by have:=oK aC Fq l; omega)
  obtain ⟨_,rfl⟩:=List.getElem?_eq_some_iff.1 hi
  have hnt:=oL aC l i hl
  have hns:=nw aC l i hl
  have hg:=nv dR aC l k i hl (by simpa using hl)
  obtain ⟨k0,hk0⟩ : ∃ k0,k + ((nL aC (l.take i) : Nat) : Int) = k0:=⟨_,rfl⟩
  rw [hk0] at hg
  have hce : aC l[i] = 2:=rfl
  have m0:=ju k0 (by omega)
  obtain ⟨k1,hk1⟩ : ∃ x,k0 + 1 = x:=⟨_,rfl⟩
  have e0 : IntKind.i64.wrap (k0 + 1) = k1:=by rw [← hk1]; exact bl (by omega) (by omega)
  have f0 : IntKind.i64.wrap k1 = k1:=bl (by omega) (by omega)
  have m1:=ju k1 (by omega)
  obtain ⟨k2,hk2⟩ : ∃ x,k1 + 1 = x:=⟨_,rfl⟩
  have e1 : IntKind.i64.wrap (k1 + 1) = k2:=by rw [← hk2]; exact bl (by omega) (by omega)
  have f1 : IntKind.i64.wrap k2 = k2:=bl (by omega) (by omega)
  simp -implicitDefEqProofs [ue,CR,hl,hw,hk0,hg,dR,cP,bR,lQ,hk1,hk2,m0,e0,f0,m1,e1,f1]
  omega
 ·rw [List.take_length]
  simp -implicitDefEqProofs [ue,CR]
theorem Ls (l : List aG) (k : Int) (hk : 0≤k) (hn : k + (nL aC l : Nat)≤1000000000000000) : ev LI TT 173 [.row .af 2 ((aZ dR aC l k).map aD),.int .i64 k] = some (.int .i64 (k + ((nL aC l : Nat) : Int)),[.dead,.dead]):=by
 rw [ay (b:=yo) (rs:=[.t 4]) (n:=2) rfl rfl]
 have u1:=JA l k hk hn
 simp [nL] at u1
 simp -implicitDefEqProofs [yo,u1,nL]
 all_goals (repeat' split) <;> first | rfl | omega | (simp_all; done) | (simp_all; omega) | skip
theorem JF (l : List ah) (k : Int) (hk : 0≤k) (hn : k + (nL aB l : Nat)≤1000000000000000) : aJ (aj (ev LI TT) (av TT) uk) [(0,.ref 100000 []),(1,.int .i64 (k + ((nL aB (l.take 0) : Nat) : Int))),(5,.int .i64 0),(100000,.row .own 1 (dG ((aZ bR aB l k).map eS) (l.map eS) 0))] = some (.exit 0,[(0,.ref 100000 []),(1,.int .i64 (k + ((nL aB l : Nat) : Int))),(5,.int .i64 l.length),(9,.bool false),(100000,.row .own 1 ((aZ bR aB l k).map eS))]):=by
 refine gY (f:=aj (ev LI TT) (av TT) uk) (l) (fun i=>[(0,.ref 100000 []),(1,.int .i64 (k + ((nL aB (l.take i) : Nat) : Int))),(5,.int .i64 i),(100000,.row .own 1 (dG ((aZ bR aB l k).map eS) (l.map eS) i))]) _ (fun i b hi hl=>?_) ?_
 ·have hw:=aY i (by have:=oK aB (fun _=>Nat.le_refl 1) l; omega)
  obtain ⟨_,rfl⟩:=List.getElem?_eq_some_iff.1 hi
  have hnt:=oL aB l i hl
  have hns:=nw aB l i hl
  have hg:=nv bR aB l k i hl (by simpa using hl)
  obtain ⟨k0,hk0⟩ : ∃ k0,k + ((nL aB (l.take i) : Nat) : Int) = k0:=⟨_,rfl⟩
  rw [hk0] at hg
  have hce : aB l[i] = 1:=rfl
  have m0:=ju k0 (by omega)
  obtain ⟨k1,hk1⟩ : ∃ x,k0 + 1 = x:=⟨_,rfl⟩
  have e0 : IntKind.i64.wrap (k0 + 1) = k1:=by rw [← hk1]; exact bl (by omega) (by omega)
  simp -implicitDefEqProofs [uk,CW,hl,hw,hk0,m0,e0]
  refine ⟨?_,?_⟩
  ·omega
  ·(try simp only [kA])
   refine sN _ _ _ _ (by simp) (by simpa using hl) ?_
   simp [hg,cP,bR,lQ,hk1]
 ·rw [List.take_length]
  simp -implicitDefEqProofs [uk,CW]
theorem so (l : List ah) (k : Int) (hk : 0≤k) (hn : k + (nL aB l : Nat)≤1000000000000000) : ev LI TT 85 [.row .own 1 (l.map eS),.int .i64 k] = some (.int .i64 (k + ((nL aB l : Nat) : Int)),[.row .own 1 ((aZ bR aB l k).map eS),.dead]):=by
 rw [ay (b:=yE) (rs:=[.t 4]) (n:=2) rfl rfl]
 have u1:=JF l k hk hn
 simp [nL] at u1
 simp -implicitDefEqProofs [yE,u1,nL]
 all_goals (repeat' split) <;> first | rfl | omega | (simp_all; done) | (simp_all; omega) | skip
theorem JB (l : List ah) (k : Int) (hk : 0≤k) (hn : k + (nL aB l : Nat)≤1000000000000000) : aJ (aj (ev LI TT) (av TT) uf) [(0,.row .af 1 ((aZ bR aB l k).map eS)),(1,.int .i64 (k + ((nL aB (l.take 0) : Nat) : Int))),(5,.int .i64 0)] = some (.exit 0,[(0,.row .af 1 ((aZ bR aB l k).map eS)),(1,.int .i64 (k + ((nL aB l : Nat) : Int))),(5,.int .i64 l.length),(9,.bool false)]):=by
 refine gY (f:=aj (ev LI TT) (av TT) uf) (l) (fun i=>[(0,.row .af 1 ((aZ bR aB l k).map eS)),(1,.int .i64 (k + ((nL aB (l.take i) : Nat) : Int))),(5,.int .i64 i)]) _ (fun i b hi hl=>?_) ?_
 ·have hw:=aY i (by have:=oK aB (fun _=>Nat.le_refl 1) l; omega)
  obtain ⟨_,rfl⟩:=List.getElem?_eq_some_iff.1 hi
  have hnt:=oL aB l i hl
  have hns:=nw aB l i hl
  have hg:=nv bR aB l k i hl (by simpa using hl)
  obtain ⟨k0,hk0⟩ : ∃ k0,k + ((nL aB (l.take i) : Nat) : Int) = k0:=⟨_,rfl⟩
  rw [hk0] at hg
  have hce : aB l[i] = 1:=rfl
  have m0:=ju k0 (by omega)
  obtain ⟨k1,hk1⟩ : ∃ x,k0 + 1 = x:=⟨_,rfl⟩
  have e0 : IntKind.i64.wrap (k0 + 1) = k1:=by rw [← hk1]; exact bl (by omega) (by omega)
  have f0 : IntKind.i64.wrap k1 = k1:=bl (by omega) (by omega)
  simp -implicitDefEqProofs [uf,CS,hl,hw,hk0,hg,cP,bR,lQ,hk1,m0,e0,f0]
  omega
 ·rw [List.take_length]
  simp -implicitDefEqProofs [uf,CS]
theorem EW (l : List ah) (k : Int) (hk : 0≤k) (hn : k + (nL aB l : Nat)≤1000000000000000) : ev LI TT 87 [.row .af 1 ((aZ bR aB l k).map eS),.int .i64 k] = some (.int .i64 (k + ((nL aB l : Nat) : Int)),[.dead,.dead]):=by
 rw [ay (b:=yt) (rs:=[.t 4]) (n:=2) rfl rfl]
 have u1:=JB l k hk hn
 simp [nL] at u1
 simp -implicitDefEqProofs [yt,u1,nL]
 all_goals (repeat' split) <;> first | rfl | omega | (simp_all; done) | (simp_all; omega) | skip
theorem JH (l : List Wr) (k : Int) (hk : 0≤k) (hn : k + (nL dn l : Nat)≤1000000000000000) : aJ (aj (ev LI TT) (av TT) uo) [(0,.ref 100000 []),(1,.int .i64 (k + ((nL dn (l.take 0) : Nat) : Int))),(5,.int .i64 0),(100000,.row .own 2 (dG ((aZ oJ dn l k).map eW) (l.map eW) 0))] = some (.exit 0,[(0,.ref 100000 []),(1,.int .i64 (k + ((nL dn l : Nat) : Int))),(5,.int .i64 l.length),(9,.bool false),(100000,.row .own 2 ((aZ oJ dn l k).map eW))]):=by
 refine gY (f:=aj (ev LI TT) (av TT) uo) (l) (fun i=>[(0,.ref 100000 []),(1,.int .i64 (k + ((nL dn (l.take i) : Nat) : Int))),(5,.int .i64 i),(100000,.row .own 2 (dG ((aZ oJ dn l k).map eW) (l.map eW) i))]) _ (fun i b hi hl=>?_) ?_
 ·have hw:=aY i (by have:=oK dn MR l; omega)
  obtain ⟨_,rfl⟩:=List.getElem?_eq_some_iff.1 hi
  have hnt:=oL dn l i hl
  have hns:=nw dn l i hl
  have hg:=nv oJ dn l k i hl (by simpa using hl)
  obtain ⟨k0,hk0⟩ : ∃ k0,k + ((nL dn (l.take i) : Nat) : Int) = k0:=⟨_,rfl⟩
  rw [hk0] at hg
  have hce : dn l[i] = 2:=rfl
  obtain ⟨k1,hk1⟩ : ∃ x,k0 + 1 = x:=⟨_,rfl⟩
  have e0 : IntKind.i64.wrap (k0 + 1) = k1:=by rw [← hk1]; exact bl (by omega) (by omega)
  have m1:=ju k1 (by omega)
  obtain ⟨k2,hk2⟩ : ∃ x,k1 + 1 = x:=⟨_,rfl⟩
  have e1 : IntKind.i64.wrap (k1 + 1) = k2:=by rw [← hk2]; exact bl (by omega) (by omega)
  simp -implicitDefEqProofs [uo,CY,hl,hw,hk0,e0,m1,e1]
  refine ⟨?_,?_⟩
  ·omega
  ·(try simp only [kA])
   refine sN _ _ _ _ (by simp) (by simpa using hl) ?_
   simp [hg,oJ,cP,bR,lQ,hk1,hk2]
 ·rw [List.take_length]
  simp -implicitDefEqProofs [uo,CY]
theorem LC (l : List Wr) (k : Int) (hk : 0≤k) (hn : k + (nL dn l : Nat)≤1000000000000000) : ev LI TT 133 [.row .own 2 (l.map eW),.int .i64 k] = some (.int .i64 (k + ((nL dn l : Nat) : Int)),[.row .own 2 ((aZ oJ dn l k).map eW),.dead]):=by
 rw [ay (b:=yG) (rs:=[.t 4]) (n:=2) rfl rfl]
 have u1:=JH l k hk hn
 simp [nL] at u1
 simp -implicitDefEqProofs [yG,u1,nL]
 all_goals (repeat' split) <;> first | rfl | omega | (simp_all; done) | (simp_all; omega) | skip
theorem JE (l : List Kp) (k : Int) (hk : 0≤k) (hn : k + (nL cY l : Nat)≤1000000000000000) : aJ (aj (ev LI TT) (av TT) uj) [(0,.ref 100000 []),(1,.int .i64 (k + ((nL cY (l.take 0) : Nat) : Int))),(5,.int .i64 0),(100000,.row .own 9 (dG ((aZ oI cY l k).map (aQ .own)) (l.map (aQ .own)) 0))] = some (.exit 0,[(0,.ref 100000 []),(1,.int .i64 (k + ((nL cY l : Nat) : Int))),(5,.int .i64 l.length),(9,.bool false),(100000,.row .own 9 ((aZ oI cY l k).map (aQ .own)))]):=by
 refine gY (f:=aj (ev LI TT) (av TT) uj) (l) (fun i=>[(0,.ref 100000 []),(1,.int .i64 (k + ((nL cY (l.take i) : Nat) : Int))),(5,.int .i64 i),(100000,.row .own 9 (dG ((aZ oI cY l k).map (aQ .own)) (l.map (aQ .own)) i))]) _ (fun i b hi hl=>?_) ?_
 ·have hw:=aY i (by have:=oK cY MO l; omega)
  obtain ⟨_,rfl⟩:=List.getElem?_eq_some_iff.1 hi
  have hnt:=oL cY l i hl
  have hns:=nw cY l i hl
  have hg:=nv oI cY l k i hl (by simpa using hl)
  obtain ⟨k0,hk0⟩ : ∃ k0,k + ((nL cY (l.take i) : Nat) : Int) = k0:=⟨_,rfl⟩
  rw [hk0] at hg
  have hce : cY l[i] = 6 + nL aB l[i].obj.names + nL aB l[i].obj.values + nL aC l[i].obj.resp.fields:=rfl
  have m0:=ju k0 (by omega)
  obtain ⟨k1,hk1⟩ : ∃ x,k0 + 1 = x:=⟨_,rfl⟩
  have e0 : IntKind.i64.wrap (k0 + 1) = k1:=by rw [← hk1]; exact bl (by omega) (by omega)
  have u1:=so l[i].obj.names k1 (by omega) (by omega)
  obtain ⟨k2,hk2⟩ : ∃ x,k1 + ((nL aB l[i].obj.names : Nat) : Int) = x:=⟨_,rfl⟩
  rw [hk2] at u1
  try simp at u1
  have u2:=so l[i].obj.values k2 (by omega) (by omega)
  obtain ⟨k3,fX⟩ : ∃ x,k2 + ((nL aB l[i].obj.values : Nat) : Int) = x:=⟨_,rfl⟩
  rw [fX] at u2
  try simp at u2
  obtain ⟨k4,tg⟩ : ∃ x,k3 + 1 = x:=⟨_,rfl⟩
  have e3 : IntKind.i64.wrap (k3 + 1) = k4:=by rw [← tg]; exact bl (by omega) (by omega)
  have u4:=AJ l[i].obj.resp.fields k4 (by omega) (by omega)
  obtain ⟨k5,GN⟩ : ∃ x,k4 + ((nL aC l[i].obj.resp.fields : Nat) : Int) = x:=⟨_,rfl⟩
  rw [GN] at u4
  try simp at u4
  have m5:=ju k5 (by omega)
  obtain ⟨k6,GO⟩ : ∃ x,k5 + 1 = x:=⟨_,rfl⟩
  have e5 : IntKind.i64.wrap (k5 + 1) = k6:=by rw [← GO]; exact bl (by omega) (by omega)
  obtain ⟨k7,GP⟩ : ∃ x,k6 + 1 = x:=⟨_,rfl⟩
  have e6 : IntKind.i64.wrap (k6 + 1) = k7:=by rw [← GP]; exact bl (by omega) (by omega)
  obtain ⟨k8,GQ⟩ : ∃ x,k7 + 1 = x:=⟨_,rfl⟩
  have e7 : IntKind.i64.wrap (k7 + 1) = k8:=by rw [← GQ]; exact bl (by omega) (by omega)
  obtain ⟨k9,GR⟩ : ∃ x,k8 + 1 = x:=⟨_,rfl⟩
  have e8 : IntKind.i64.wrap (k8 + 1) = k9:=by rw [← GR]; exact bl (by omega) (by omega)
  simp -implicitDefEqProofs [uj,CV,hl,hw,hk0,m0,e0,u1,u2,e3,u4,m5,e5,e6,e7,e8]
  refine ⟨?_,?_⟩
  ·omega
  ·(try simp only [kA])
   refine sN _ _ _ _ (by simp) (by simpa using hl) ?_
   simp [hg,oI,cP,bR,lQ,hk1,hk2,fX,tg,GN,GO,GP,GQ,GR]
 ·rw [List.take_length]
  simp -implicitDefEqProofs [uj,CV]
theorem Lx (l : List Kp) (k : Int) (hk : 0≤k) (hn : k + (nL cY l : Nat)≤1000000000000000) : ev LI TT 82 [.row .own 9 (l.map (aQ .own)),.int .i64 k] = some (.int .i64 (k + ((nL cY l : Nat) : Int)),[.row .own 9 ((aZ oI cY l k).map (aQ .own)),.dead]):=by
 rw [ay (b:=yy) (rs:=[.t 4]) (n:=2) rfl rfl]
 have u1:=JE l k hk hn
 simp [nL] at u1
 simp -implicitDefEqProofs [yy,u1,nL]
 all_goals (repeat' split) <;> first | rfl | omega | (simp_all; done) | (simp_all; omega) | skip
theorem JC (l : List Bn) (k : Int) (hk : 0≤k) (hn : k + (nL dm l : Nat)≤1000000000000000) : aJ (aj (ev LI TT) (av TT) ug) [(0,.ref 100000 []),(1,.int .i64 (k + ((nL dm (l.take 0) : Nat) : Int))),(5,.int .i64 0),(100000,.row .own 4 (dG ((aZ oH dm l k).map bg) (l.map bg) 0))] = some (.exit 0,[(0,.ref 100000 []),(1,.int .i64 (k + ((nL dm l : Nat) : Int))),(5,.int .i64 l.length),(9,.bool false),(100000,.row .own 4 ((aZ oH dm l k).map bg))]):=by
 refine gY (f:=aj (ev LI TT) (av TT) ug) (l) (fun i=>[(0,.ref 100000 []),(1,.int .i64 (k + ((nL dm (l.take i) : Nat) : Int))),(5,.int .i64 i),(100000,.row .own 4 (dG ((aZ oH dm l k).map bg) (l.map bg) i))]) _ (fun i b hi hl=>?_) ?_
 ·have hw:=aY i (by have:=oK dm ML l; omega)
  obtain ⟨_,rfl⟩:=List.getElem?_eq_some_iff.1 hi
  have hnt:=oL dm l i hl
  have hns:=nw dm l i hl
  have hg:=nv oH dm l k i hl (by simpa using hl)
  obtain ⟨k0,hk0⟩ : ∃ k0,k + ((nL dm (l.take i) : Nat) : Int) = k0:=⟨_,rfl⟩
  rw [hk0] at hg
  have hce : dm l[i] = 4:=rfl
  obtain ⟨k1,hk1⟩ : ∃ x,k0 + 1 = x:=⟨_,rfl⟩
  have e0 : IntKind.i64.wrap (k0 + 1) = k1:=by rw [← hk1]; exact bl (by omega) (by omega)
  have m1:=ju k1 (by omega)
  obtain ⟨k2,hk2⟩ : ∃ x,k1 + 1 = x:=⟨_,rfl⟩
  have e1 : IntKind.i64.wrap (k1 + 1) = k2:=by rw [← hk2]; exact bl (by omega) (by omega)
  have m2:=ju k2 (by omega)
  obtain ⟨k3,fX⟩ : ∃ x,k2 + 1 = x:=⟨_,rfl⟩
  have e2 : IntKind.i64.wrap (k2 + 1) = k3:=by rw [← fX]; exact bl (by omega) (by omega)
  obtain ⟨k4,tg⟩ : ∃ x,k3 + 1 = x:=⟨_,rfl⟩
  have e3 : IntKind.i64.wrap (k3 + 1) = k4:=by rw [← tg]; exact bl (by omega) (by omega)
  simp -implicitDefEqProofs [ug,CT,hl,hw,hk0,e0,m1,e1,m2,e2,e3]
  refine ⟨?_,?_⟩
  ·omega
  ·(try simp only [kA])
   refine sN _ _ _ _ (by simp) (by simpa using hl) ?_
   simp [hg,oH,cP,bR,lQ,hk1,hk2,fX,tg]
 ·rw [List.take_length]
  simp -implicitDefEqProofs [ug,CT]
theorem Lv (l : List Bn) (k : Int) (hk : 0≤k) (hn : k + (nL dm l : Nat)≤1000000000000000) : ev LI TT 83 [.row .own 4 (l.map bg),.int .i64 k] = some (.int .i64 (k + ((nL dm l : Nat) : Int)),[.row .own 4 ((aZ oH dm l k).map bg),.dead]):=by
 rw [ay (b:=yu) (rs:=[.t 4]) (n:=2) rfl rfl]
 have u1:=JC l k hk hn
 simp [nL] at u1
 simp -implicitDefEqProofs [yu,u1,nL]
 all_goals (repeat' split) <;> first | rfl | omega | (simp_all; done) | (simp_all; omega) | skip
theorem LA (a : cR) (k : Int) (hk : 0≤k) (hn : k + (gb a : Nat)≤1000000000000000) : ev LI TT 86 [.agg (eO .own a),.int .i64 k] = some (.int .i64 (k + ((gb a : Nat) : Int)),[.agg (eO .own (jT a k)),.dead]):=by
 rw [ay (b:=yB) (rs:=[.t 4]) (n:=2) rfl rfl]
 unfold gb at hn
 unfold gb jT
 have u1:=AJ a.fields k (by omega) (by omega)
 obtain ⟨k1,hk1⟩ : ∃ x,k + ((nL aC a.fields : Nat) : Int) = x:=⟨_,rfl⟩
 rw [hk1] at u1
 try simp at u1
 have hT : k + ((nL aC a.fields : Nat) : Int) = k1:=by omega
 rw [hT]
 simp -implicitDefEqProofs [yB,u1,hk1,kV,lS,kE,eV,dB,ny,fD,kf,iJ]
 all_goals (repeat' split) <;> first | rfl | omega | (simp_all; done) | (simp_all; omega) | skip
theorem Lu (a : cR) (k : Int) (hk : 0≤k) (hn : k + (gb a : Nat)≤1000000000000000) : ev LI TT 88 [.agg (eO .af (jT a k)),.int .i64 k] = some (.int .i64 (k + ((gb a : Nat) : Int)),[.dead,.dead]):=by
 rw [ay (b:=yq) (rs:=[.t 4]) (n:=2) rfl rfl]
 unfold gb at hn
 unfold gb jT
 have u1:=Ls a.fields k (by omega) (by omega)
 obtain ⟨k1,hk1⟩ : ∃ x,k + ((nL aC a.fields : Nat) : Int) = x:=⟨_,rfl⟩
 rw [hk1] at u1
 try simp at u1
 have n1 : ¬ k1 < 0:=by omega
 have hT : k + ((nL aC a.fields : Nat) : Int) = k1:=by omega
 rw [hT]
 simp -implicitDefEqProofs [yq,u1,hk1,n1]
 all_goals (repeat' split) <;> first | rfl | omega | (simp_all; done) | (simp_all; omega) | skip
theorem Lz (a : Rq) (k : Int) (hk : 0≤k) (hn : k + (kL a : Nat)≤1000000000000000) : ev LI TT 28 [.agg (cw .own a),.int .i64 k] = some (.int .i64 (k + ((kL a : Nat) : Int)),[.agg (cw .own (pz a k)),.dead]):=by
 rw [ay (b:=yA) (rs:=[.t 4]) (n:=2) rfl rfl]
 unfold kL at hn
 unfold kL pz
 have u1:=AJ a.fields k (by omega) (by omega)
 obtain ⟨k1,hk1⟩ : ∃ x,k + ((nL aC a.fields : Nat) : Int) = x:=⟨_,rfl⟩
 rw [hk1] at u1
 try simp at u1
 have hT : k + ((nL aC a.fields : Nat) : Int) = k1:=by omega
 rw [hT]
 simp -implicitDefEqProofs [yA,u1,hk1,kV,lS,kE,eV,dB,ny,fD,kf,iJ]
 all_goals (repeat' split) <;> first | rfl | omega | (simp_all; done) | (simp_all; omega) | skip
theorem Ly (a : Ob) (k : Int) (hk : 0≤k) (hn : k + (jV a : Nat)≤1000000000000000) : ev LI TT 29 [.agg (bu .own a),.int .i64 k] = some (.int .i64 (k + ((jV a : Nat) : Int)),[.agg (bu .own (pq a k)),.dead]):=by
 rw [ay (b:=yz) (rs:=[.t 4]) (n:=2) rfl rfl]
 unfold jV at hn
 unfold jV pq
 have u1:=so a.names k (by omega) (by omega)
 obtain ⟨k1,hk1⟩ : ∃ x,k + ((nL aB a.names : Nat) : Int) = x:=⟨_,rfl⟩
 rw [hk1] at u1
 try simp at u1
 have u2:=so a.values k1 (by omega) (by omega)
 obtain ⟨k2,hk2⟩ : ∃ x,k1 + ((nL aB a.values : Nat) : Int) = x:=⟨_,rfl⟩
 rw [hk2] at u2
 try simp at u2
 have u3:=LA a.resp k2 (by omega) (by omega)
 obtain ⟨k3,fX⟩ : ∃ x,k2 + ((gb a.resp : Nat) : Int) = x:=⟨_,rfl⟩
 rw [fX] at u3
 try simp at u3
 have hT : k + ((nL aB a.names + nL aB a.values + gb a.resp : Nat) : Int) = k3:=by omega
 rw [hT]
 simp -implicitDefEqProofs [yz,u1,hk1,u2,hk2,u3,fX,kV,lS,kE,eV,dB,ny,fD,kf,iJ,jT]
 all_goals (repeat' split) <;> first | rfl | omega | (simp_all; done) | (simp_all; omega) | skip
theorem Lt (a : Ob) (k : Int) (hk : 0≤k) (hn : k + (jV a : Nat)≤1000000000000000) : ev LI TT 30 [.agg (bu .af (pq a k)),.int .i64 k] = some (.int .i64 (k + ((jV a : Nat) : Int)),[.dead,.dead]):=by
 rw [ay (b:=yp) (rs:=[.t 4]) (n:=2) rfl rfl]
 unfold jV at hn
 unfold jV pq
 have u1:=EW a.names k (by omega) (by omega)
 obtain ⟨k1,hk1⟩ : ∃ x,k + ((nL aB a.names : Nat) : Int) = x:=⟨_,rfl⟩
 rw [hk1] at u1
 try simp at u1
 have n1 : ¬ k1 < 0:=by omega
 have u2:=EW a.values k1 (by omega) (by omega)
 obtain ⟨k2,hk2⟩ : ∃ x,k1 + ((nL aB a.values : Nat) : Int) = x:=⟨_,rfl⟩
 rw [hk2] at u2
 try simp at u2
 have n2 : ¬ k2 < 0:=by omega
 have u3:=Lu a.resp k2 (by omega) (by omega)
 obtain ⟨k3,fX⟩ : ∃ x,k2 + ((gb a.resp : Nat) : Int) = x:=⟨_,rfl⟩
 rw [fX] at u3
 try simp at u3
 have n3 : ¬ k3 < 0:=by omega
 have hT : k + ((nL aB a.names + nL aB a.values + gb a.resp : Nat) : Int) = k3:=by omega
 rw [hT]
 simp -implicitDefEqProofs [yp,u1,hk1,n1,u2,hk2,n2,u3,fX,n3]
 all_goals (repeat' split) <;> first | rfl | omega | (simp_all; done) | (simp_all; omega) | skip
theorem Lw (a : ew) (k : Int) (hk : 0≤k) (hn : k + (jU a : Nat)≤1000000000000000) : ev LI TT 49 [.agg (fR .own a),.int .i64 k] = some (.int .i64 (k + ((jU a : Nat) : Int)),[.agg (fR .own (vH a k)),.dead]):=by
 rw [ay (b:=yw) (rs:=[.t 4]) (n:=2) rfl rfl]
 unfold jU at hn
 unfold jU vH
 have u1:=so a.cells k (by omega) (by omega)
 obtain ⟨k1,hk1⟩ : ∃ x,k + ((nL aB a.cells : Nat) : Int) = x:=⟨_,rfl⟩
 rw [hk1] at u1
 try simp at u1
 have u2:=LC a.pending k1 (by omega) (by omega)
 obtain ⟨k2,hk2⟩ : ∃ x,k1 + ((nL dn a.pending : Nat) : Int) = x:=⟨_,rfl⟩
 rw [hk2] at u2
 try simp at u2
 have hT : k + ((nL aB a.cells + nL dn a.pending : Nat) : Int) = k2:=by omega
 rw [hT]
 simp -implicitDefEqProofs [yw,u1,hk1,u2,hk2,kV,lS,kE,eV,dB,ny,fD,kf,iJ]
 all_goals (repeat' split) <;> first | rfl | omega | (simp_all; done) | (simp_all; omega) | skip
theorem LB (a : Sh) (k : Int) (hk : 0≤k) (hn : k + (kM a : Nat)≤1000000000000000) : ev LI TT 27 [.agg (bk .own a),.int .i64 k] = some (.int .i64 (k + ((kM a : Nat) : Int)),[.agg (bk .own (pE a k)),.dead]):=by
 rw [ay (b:=yC) (rs:=[.t 4]) (n:=2) rfl rfl]
 unfold kM at hn
 unfold kM pE
 have u1:=Lw a.bz k (by omega) (by omega)
 obtain ⟨k1,hk1⟩ : ∃ x,k + ((jU a.bz : Nat) : Int) = x:=⟨_,rfl⟩
 rw [hk1] at u1
 try simp at u1
 have u2:=Lx a.au k1 (by omega) (by omega)
 obtain ⟨k2,hk2⟩ : ∃ x,k1 + ((nL cY a.au : Nat) : Int) = x:=⟨_,rfl⟩
 rw [hk2] at u2
 try simp at u2
 have u3:=Lv a.aP k2 (by omega) (by omega)
 obtain ⟨k3,fX⟩ : ∃ x,k2 + ((nL dm a.aP : Nat) : Int) = x:=⟨_,rfl⟩
 rw [fX] at u3
 try simp at u3
 have hT : k + ((jU a.bz + nL cY a.au + nL dm a.aP : Nat) : Int) = k3:=by omega
 rw [hT]
 simp -implicitDefEqProofs [yC,u1,hk1,u2,hk2,u3,fX,kV,lS,kE,eV,dB,ny,fD,kf,iJ,vH]
 all_goals (repeat' split) <;> first | rfl | omega | (simp_all; done) | (simp_all; omega) | skip
end M
namespace M
open Go
variable [Lb]
@[simp] theorem YD (x : Int) (lo : Int) (hi : Int) : ev LI TT 137 [.int .i64 x,.int .i64 lo,.int .i64 hi] = some (.bool ((decide (lo≤x∧x≤hi))),[.dead,.dead,.dead]):=by
 rw [ay (b:=zJ) (rs:=[.t 6]) (n:=3) rfl rfl]
 simp -implicitDefEqProofs [zJ]
 try (by_cases h1 : lo≤x <;> by_cases h2 : x≤hi <;> simp [h1,h2])
@[simp] theorem Yy (x : Int) (lo : Int) (hi : Int) : ev LI TT 180 [.int .i64 x,.int .i64 lo,.int .i64 hi] = some (.bool ((decide (lo≤x∧x≤hi))),[.dead,.dead,.dead]):=by
 rw [ay (b:=xY) (rs:=[.t 6]) (n:=3) rfl rfl]
 simp -implicitDefEqProofs [xY]
 try (by_cases h1 : lo≤x <;> by_cases h2 : x≤hi <;> simp [h1,h2])
theorem J6 (s : ah) (hb : s.length≤9223372036854775807) : aJ (aj (ev LI TT) (av TT) vl) [(0,.str ⟨s.toArray⟩),(3,.int .i64 0)] = if aO pF (s) = true then some (.exit 0,[(0,.str ⟨s.toArray⟩),(3,.int .i64 (s).length),(8,.bool false)]) else some (.ret,[(2,.bool false)]):=by
 refine dh (f:=aj (ev LI TT) (av TT) vl) (s) (fun i=>[(0,.str ⟨s.toArray⟩),(3,.int .i64 i)]) pF _ _ (fun i b hi hl=>?_) ?_
 ·have hw:=aY i (by first | omega | (simp at hl; omega))
  obtain ⟨_,rfl⟩:=List.getElem?_eq_some_iff.1 hi
  unfold pF
  simp -implicitDefEqProofs [vl,DQ,hl,hw]
  all_goals (repeat' split) <;> first | rfl | omega | (simp_all; done) | (simp_all; omega) | skip
 ·simp -implicitDefEqProofs [vl,DQ]
theorem AN (s : ah) (hb : s.length≤9223372036854775807) : ev LI TT 184 [.str ⟨s.toArray⟩] = some (.bool ((eX s)),[.dead]):=by
 rw [ay (b:=zB) (rs:=[.t 2]) (n:=1) rfl rfl]
 unfold eX
 have u1:=J6  s hb
 try simp at u1
 simp -implicitDefEqProofs [zB,u1]
 all_goals (repeat' split) <;> first | rfl | omega | (simp_all; done) | (simp_all; omega) | skip
theorem Jo (s : ah) (hb : s.length≤9223372036854775807) : aJ (aj (ev LI TT) (av TT) tQ) [(0,.str ⟨s.toArray⟩),(3,.int .i64 0)] = if aO pF (s) = true then some (.exit 0,[(0,.str ⟨s.toArray⟩),(3,.int .i64 (s).length),(7,.bool false)]) else some (.ret,[(2,.bool false)]):=by
 refine dh (f:=aj (ev LI TT) (av TT) tQ) (s) (fun i=>[(0,.str ⟨s.toArray⟩),(3,.int .i64 i)]) pF _ _ (fun i b hi hl=>?_) ?_
 ·have hw:=aY i (by first | omega | (simp at hl; omega))
  obtain ⟨_,rfl⟩:=List.getElem?_eq_some_iff.1 hi
  unfold pF
  simp -implicitDefEqProofs [tQ,Co,hl,hw]
  all_goals (repeat' split) <;> first | rfl | omega | (simp_all; done) | (simp_all; omega) | skip
 ·simp -implicitDefEqProofs [tQ,Co]
theorem AE (s : ah) (hb : s.length≤9223372036854775807) : ev LI TT 260 [.str ⟨s.toArray⟩] = some (.bool ((eX s)),[.dead]):=by
 rw [ay (b:=xP) (rs:=[.t 2]) (n:=1) rfl rfl]
 unfold eX
 have u1:=Jo  s hb
 try simp at u1
 simp -implicitDefEqProofs [xP,u1]
 all_goals (repeat' split) <;> first | rfl | omega | (simp_all; done) | (simp_all; omega) | skip
theorem Jr (s : ah) (lo : UInt8) (hb : s.length≤9223372036854775807) : aJ (aj (ev LI TT) (av TT) tT) [(0,.str ⟨s.toArray⟩),(1,.int .u8 (lo.toNat : Int)),(5,.int .i64 0)] = if aO (gI lo.toNat) (s) = true then some (.exit 0,[(0,.str ⟨s.toArray⟩),(1,.int .u8 (lo.toNat : Int)),(5,.int .i64 (s).length),(9,.bool false)]) else some (.ret,[(4,.bool false)]):=by
 refine dh (f:=aj (ev LI TT) (av TT) tT) (s) (fun i=>[(0,.str ⟨s.toArray⟩),(1,.int .u8 (lo.toNat : Int)),(5,.int .i64 i)]) (gI lo.toNat) _ _ (fun i b hi hl=>?_) ?_
 ·have hw:=aY i (by first | omega | (simp at hl; omega))
  obtain ⟨_,rfl⟩:=List.getElem?_eq_some_iff.1 hi
  unfold gI
  simp -implicitDefEqProofs [tT,Cr,hl,hw]
  all_goals (repeat' split) <;> first | rfl | omega | (simp_all; done) | (simp_all; omega) | skip
 ·simp -implicitDefEqProofs [tT,Cr]
theorem ES (s : ah) (lo : UInt8) (hb : s.length≤9223372036854775807) : ev LI TT 305 [.str ⟨s.toArray⟩,.int .u8 (lo.toNat : Int)] = some (.bool ((aO (gI lo.toNat) s)),[.dead,.dead]):=by
 rw [ay (b:=xT) (rs:=[.t 4]) (n:=2) rfl rfl]
 have u1:=Jr  s lo hb
 try simp at u1
 simp -implicitDefEqProofs [xT,u1]
 all_goals (repeat' split) <;> first | rfl | omega | (simp_all; done) | (simp_all; omega) | skip
end M
namespace M
open Go
variable [Lb]
def dK (b : UInt8) : Bool:=decide ¬ (b.toNat : Int) = 32
theorem J7 (s : ah) (hb : s.length≤9223372036854775807) : aJ (aj (ev LI TT) (av TT) vm) [(0,.str ⟨s.toArray⟩),(3,.int .i64 0),(4,.int .i64 s.length)] = some (.exit 0,(fun (i : Nat)=>[(0,.str ⟨s.toArray⟩),(3,.int .i64 i),(4,.int .i64 s.length),(15,.bool false)]) (cQ dK (s))):=by
 refine HB (f:=aj (ev LI TT) (av TT) vm) (s) (fun i=>[(0,.str ⟨s.toArray⟩),(3,.int .i64 i),(4,.int .i64 s.length)]) dK (fun (i : Nat)=>[(0,.str ⟨s.toArray⟩),(3,.int .i64 i),(4,.int .i64 s.length),(15,.bool false)]) (fun i b hi hl=>?_) ?_
 ·have hw:=aY i (by first | omega | (simp at hl; omega))
  obtain ⟨_,rfl⟩:=List.getElem?_eq_some_iff.1 hi
  simp -implicitDefEqProofs [vm,DR,hl,hw,dK]
  all_goals (repeat' split) <;> first | rfl | omega | (simp_all; done) | (simp_all; omega) | skip
 ·simp -implicitDefEqProofs [vm,DR]
theorem J8 (s : ah) (k : Nat) (hk : k≤s.length) (hb : s.length≤9223372036854775807) : aJ (aj (ev LI TT) (av TT) vn) [(0,.str ⟨s.toArray⟩),(3,.int .i64 k),(4,.int .i64 ((s.length - 0 : Nat) : Int))] = some (.exit 2,(fun (i : Nat)=>[(0,.str ⟨s.toArray⟩),(3,.int .i64 k),(4,.int .i64 ((s.length - i : Nat) : Int)),(27,.bool false)]) (cQ dK ((s.drop k).reverse))):=by
 refine HB (f:=aj (ev LI TT) (av TT) vn) ((s.drop k).reverse) (fun i=>[(0,.str ⟨s.toArray⟩),(3,.int .i64 k),(4,.int .i64 ((s.length - i : Nat) : Int))]) dK (fun (i : Nat)=>[(0,.str ⟨s.toArray⟩),(3,.int .i64 k),(4,.int .i64 ((s.length - i : Nat) : Int)),(27,.bool false)]) (fun i b hi hl=>?_) ?_
 ·have hw:=aY i (by first | omega | (simp at hl; omega))
  obtain ⟨_,rfl⟩:=List.getElem?_eq_some_iff.1 hi
  simp at hl
  obtain ⟨m,hm⟩ : ∃ m,s.length - i = m + 1:=⟨s.length - i - 1,by omega⟩
  have e1 : s.length - (i + 1) = m:=by omega
  have e2 : IntKind.i64.wrap (m : Int) = m:=bl (by omega) (by omega)
  have e3 : m < s.length:=by omega
  have e4 : ((s.drop k).reverse)[i] = s[m]:=by simp; congr 1; omega
  have e5 : (k : Int) < (m : Int) + 1:=by omega
  rw [e4,hm,e1]
  simp -implicitDefEqProofs [vn,DS,hl,hw,dK,e2,e3,e5]
  try (rw [List.getElem?_eq_getElem e3]; simp [e2])
  all_goals (repeat' split) <;> first | rfl | omega | (simp_all; done) | (simp_all; omega) | skip
 ·simp only [List.length_reverse,List.length_drop,show s.length - (s.length - k) = k by omega]
  simp -implicitDefEqProofs [vn,DS]
end M
namespace M
open Go
variable [Lb]
theorem HJ (b : UInt8) : dK b = true↔b≠32:=by
 unfold dK
 have : ((b.toNat : Int) = 32)↔b = 32:=by
  constructor
  ·intro h; exact UInt8.toNat_inj.1 (by have e : (32 : UInt8).toNat = 32:=rfl; omega)
  ·rintro rfl; rfl
 simp [this]
theorem IP (s : ah) : Lib.trimLeftB s 32 = s.drop (cQ dK s):=by
 refine Lib.trimLeftB_drop s 32 _ (Ai _ _) (fun j b hj hb=>?_) fun b hb=>(HJ b).1 (I0 _ _ _ hb)
 have:=I1 _ _ _ _ hj hb
 by_cases h : b = 32
 ·exact h
 ·rw [(HJ b).2 h] at this; cases this
theorem XQ (s : ah) : Lib.trimRightB s 32 = s.take (s.length - cQ dK s.reverse):=by
 have h:=IP s.reverse
 unfold Lib.trimLeftB at h
 unfold Lib.trimRightB
 rw [h,List.drop_reverse,List.reverse_reverse]
theorem XR (s : ah) : (s.drop (cQ dK s)).take (s.length - cQ dK (s.drop (cQ dK s)).reverse - cQ dK s) = dS s:=by
 rw [XS,IP,XQ,List.length_drop]
 congr 1
 omega
theorem AO (s : ah) (hb : s.length≤9223372036854775807) : ev LI TT 264 [.str ⟨s.toArray⟩] = some (.str ⟨(dS s).toArray⟩,[.dead]):=by
 rw [ay (b:=zE) (rs:=[.t 2]) (n:=1) rfl rfl]
 have h1:=Ai dK s
 have h2:=Ai dK (s.drop (cQ dK s)).reverse
 simp only [List.length_reverse,List.length_drop] at h2
 have h3:=XR s
 have u1:=J7  s hb
 try simp at u1
 have u2:=J8  s (cQ dK s) (Ai _ _) hb
 try simp at u2
 simp -implicitDefEqProofs [zE,u1,u2,(by omega : (cQ dK s : Int)≤((s.length - cQ dK (s.drop (cQ dK s)).reverse : Nat) : Int)),(by omega : ((s.length - cQ dK (s.drop (cQ dK s)).reverse : Nat) : Int)≤s.length),Lib.extract_mk,h3]
 all_goals (repeat' split) <;> first | rfl | omega | (simp_all; done) | (simp_all; omega) | skip
theorem ER (s : ah) (hb : s.length≤9223372036854775807) : ev LI TT 306 [.str ⟨s.toArray⟩] = some (.str ⟨(dS s).toArray⟩,[.dead]):=by
 rw [ay (b:=xQ) (rs:=[.t 2]) (n:=1) rfl rfl]
 have u1:=MC  s hb
 try simp at u1
 simp -implicitDefEqProofs [xQ,u1]
 all_goals (repeat' split) <;> first | rfl | omega | (simp_all; done) | (simp_all; omega) | skip
theorem J9 (s : ah) (hb : s.length≤9223372036854775807) : aJ (aj (ev LI TT) (av TT) vo) [(0,.str ⟨s.toArray⟩),(3,.int .i64 0)] = if aO (gI 32) (s) = true then some (.exit 0,[(0,.str ⟨s.toArray⟩),(3,.int .i64 (s).length),(7,.bool false)]) else some (.ret,[(2,.bool false)]):=by
 refine dh (f:=aj (ev LI TT) (av TT) vo) (s) (fun i=>[(0,.str ⟨s.toArray⟩),(3,.int .i64 i)]) (gI 32) _ _ (fun i b hi hl=>?_) ?_
 ·have hw:=aY i (by first | omega | (simp at hl; omega))
  obtain ⟨_,rfl⟩:=List.getElem?_eq_some_iff.1 hi
  unfold gI
  simp -implicitDefEqProofs [vo,DU,hl,hw]
  all_goals (repeat' split) <;> first | rfl | omega | (simp_all; done) | (simp_all; omega) | skip
 ·simp -implicitDefEqProofs [vo,DU]
theorem AP (s : ah) (hb : s.length≤9223372036854775807) : ev LI TT 185 [.str ⟨s.toArray⟩] = some (.bool ((ia s)),[.dead]):=by
 rw [ay (b:=o7) (rs:=[.t 2]) (n:=1) rfl rfl]
 unfold ia
 have u1:=J9  s hb
 try simp at u1
 have u2:=AO  s hb
 try simp at u2
 by_cases g1 : aO (gI 32) s = true
 rotate_left
 ·simp -implicitDefEqProofs [o7,u1,u2,g1]
 by_cases g2 : 1≤(s.length : Int)
 rotate_left
 ·simp -implicitDefEqProofs [o7,u1,u2,g1,eq_false g2]
 by_cases g3 : (s.length : Int)≤60
 rotate_left
 ·simp -implicitDefEqProofs [o7,u1,u2,g1,eq_true g2,eq_false g3]
 simp -implicitDefEqProofs [o7,u1,u2,g1,eq_true g2,eq_true g3]
 all_goals (repeat' split) <;> first | rfl | omega | (simp_all; done) | (simp_all; omega) | skip
theorem AF (s : ah) (hb : s.length≤9223372036854775807) : ev LI TT 261 [.str ⟨s.toArray⟩] = some (.bool ((ia s)),[.dead]):=by
 rw [ay (b:=ow) (rs:=[.t 2]) (n:=1) rfl rfl]
 unfold ia
 have Zr : (32 : UInt8).toNat = 32:=rfl
 have u1:=ES  s 32 hb
 try simp at u1
 have u2:=ER  s hb
 try simp at u2
 by_cases g1 : 1≤(s.length : Int)
 rotate_left
 ·simp -implicitDefEqProofs [ow,u1,u2,eq_false g1]
 by_cases g2 : (s.length : Int)≤60
 rotate_left
 ·simp -implicitDefEqProofs [ow,u1,u2,eq_true g1,eq_false g2]
 by_cases g3 : aO (gI 32) s = true
 rotate_left
 ·simp -implicitDefEqProofs [ow,u1,u2,eq_true g1,eq_true g2,g3]
 simp -implicitDefEqProofs [ow,u1,u2,eq_true g1,eq_true g2,g3]
 all_goals (repeat' split) <;> first | rfl | omega | (simp_all; done) | (simp_all; omega) | skip
theorem Ke (s : ah) (hb : s.length≤9223372036854775807) : aJ (aj (ev LI TT) (av TT) vu) [(0,.str ⟨s.toArray⟩),(3,.int .i64 0)] = if aO (gI 33) (s) = true then some (.exit 0,[(0,.str ⟨s.toArray⟩),(3,.int .i64 (s).length),(7,.bool false)]) else some (.ret,[(2,.bool false)]):=by
 refine dh (f:=aj (ev LI TT) (av TT) vu) (s) (fun i=>[(0,.str ⟨s.toArray⟩),(3,.int .i64 i)]) (gI 33) _ _ (fun i b hi hl=>?_) ?_
 ·have hw:=aY i (by first | omega | (simp at hl; omega))
  obtain ⟨_,rfl⟩:=List.getElem?_eq_some_iff.1 hi
  unfold gI
  simp -implicitDefEqProofs [vu,DY,hl,hw]
  all_goals (repeat' split) <;> first | rfl | omega | (simp_all; done) | (simp_all; omega) | skip
 ·simp -implicitDefEqProofs [vu,DY]
theorem AQ (s : ah) (hb : s.length≤9223372036854775807) : ev LI TT 160 [.str ⟨s.toArray⟩] = some (.bool ((gG s)),[.dead]):=by
 rw [ay (b:=o8) (rs:=[.t 2]) (n:=1) rfl rfl]
 unfold gG
 have u1:=Ke  s hb
 try simp at u1
 by_cases g1 : aO (gI 33) s = true
 rotate_left
 ·simp -implicitDefEqProofs [o8,u1,g1]
 by_cases g2 : 1≤(s.length : Int)
 rotate_left
 ·simp -implicitDefEqProofs [o8,u1,g1,eq_false g2]
 by_cases g3 : (s.length : Int)≤60
 rotate_left
 ·simp -implicitDefEqProofs [o8,u1,g1,eq_true g2,eq_false g3]
 obtain ⟨b,hb0⟩ : ∃ b,s[0]? = some b:=⟨s[0]'(by omega),by simp⟩
 simp -implicitDefEqProofs [o8,u1,g1,eq_true g2,eq_true g3,hb0]
 all_goals (repeat' split) <;> first | rfl | omega | (simp_all; done) | (simp_all; omega) | skip
theorem AG (s : ah) (hb : s.length≤9223372036854775807) : ev LI TT 259 [.str ⟨s.toArray⟩] = some (.bool ((gG s)),[.dead]):=by
 rw [ay (b:=qC) (rs:=[.t 2]) (n:=1) rfl rfl]
 unfold gG
 have Zs : (33 : UInt8).toNat = 33:=rfl
 have u1:=ES  s 33 hb
 try simp at u1
 by_cases g1 : 1≤(s.length : Int)
 rotate_left
 ·simp -implicitDefEqProofs [qC,u1,eq_false g1]
 by_cases g2 : (s.length : Int)≤60
 rotate_left
 ·simp -implicitDefEqProofs [qC,u1,eq_true g1,eq_false g2]
 obtain ⟨b,hb0⟩ : ∃ b,s[0]? = some b:=⟨s[0]'(by omega),by simp⟩
 by_cases QJ : (b.toNat : Int) = 47
 all_goals
 simp -implicitDefEqProofs [qC,u1,eq_true g1,eq_true g2,hb0,QJ]
 all_goals (repeat' split) <;> first | rfl | omega | (simp_all; done) | (simp_all; omega) | skip
@[simp] theorem YB (t : Int) : ev LI TT 143 [.int .i64 t] = some (.bool ((decide (0≤t∧t≤1000000))),[.dead]):=by
 rw [ay (b:=x9) (rs:=[.t 2]) (n:=1) rfl rfl]
 simp -implicitDefEqProofs [x9]
 all_goals (repeat' split) <;> first | rfl | omega | (simp_all; done) | (simp_all; omega) | skip
end M
namespace M
open Go
variable [Lb]
theorem JX (s : ah) (hb : s.length≤1073741824) : aJ (aj (ev LI TT) (av TT) oX) [(0,.str ⟨s.toArray⟩),(3,.row .own 1 (([]).map eU)),(4,.int .i64 0)] = some (.exit 0,[(0,.str ⟨s.toArray⟩),(3,.row .own 1 ((((s).flatMap (fun b=>[jK b]))).map eU)),(4,.int .i64 (s).length),(10,.bool false)]):=by
 refine uF (f:=aj (ev LI TT) (av TT) oX) (s) (fun b=>[jK b]) (fun i out=>[(0,.str ⟨s.toArray⟩),(3,.row .own 1 ((out).map eU)),(4,.int .i64 i)]) (fun out=>[(0,.str ⟨s.toArray⟩),(3,.row .own 1 ((out).map eU)),(4,.int .i64 (s).length),(10,.bool false)]) (fun i b out hi hl hout=>?_) (fun out hout=>?_)
 ·have hw:=aY i (by first | omega | (simp at hl; omega))
  obtain ⟨_,rfl⟩:=List.getElem?_eq_some_iff.1 hi
  have hlo : out.length = i:=by rw [hout]; exact wV _ _ _ (by omega)
  have hx:=s[i].toNat_lt
  unfold jK
  by_cases h1 : 65≤(s[i]).toNat
  rotate_left
  ·have h1' : ¬ (65 : Int)≤(s[i]).toNat:=by omega
   simp -implicitDefEqProofs [oX,vh,hl,hw,h1,h1',hlo,gH]
   omega
  by_cases h2 : (s[i]).toNat≤90
  rotate_left
  ·have h1' : (65 : Int)≤(s[i]).toNat:=by omega
   have n9 : ¬ ((s[i]).toNat : Int)≤90:=by omega
   have BB : 90 < ((s[i]).toNat : Int):=by omega
   simp -implicitDefEqProofs [oX,vh,hl,hw,h1,h1',h2,n9,BB,hlo,gH]
   omega
  have h1' : (65 : Int)≤(s[i]).toNat:=by omega
  have n9 : ((s[i]).toNat : Int)≤90:=by omega
  have h3:=HC s[i] ⟨h1,h2⟩
  have h4 : IntKind.u8.wrap ((s[i]).toNat + 32) = (s[i]).toNat + 32:=Ja (by omega) (by omega)
  simp -implicitDefEqProofs [oX,vh,hl,hw,h1,h1',h2,n9,hlo,gH,h3,h4]
  omega
 ·simp -implicitDefEqProofs [oX,vh]
theorem E1 (s : ah) (hb : s.length≤1073741824) : ev LI TT 254 [.str ⟨s.toArray⟩] = some (.str ⟨(bF s).toArray⟩,[.dead]):=by
 rw [ay (b:=zw) (rs:=[.t 2]) (n:=1) rfl rfl]
 have hl : (bF s).length = s.length:=by simp [bF]
 have e : s.flatMap (fun b=>[jK b]) = bF s:=sQ jK s
 have u1:=JX  s hb
 try simp at u1
 simp -implicitDefEqProofs [zw,u1,e,hl,rowAt,(by omega : s.length≤9223372036854775807)]
 all_goals (repeat' split) <;> first | rfl | omega | (simp_all; done) | (simp_all; omega) | skip
theorem UI (s : ah) (i : Nat) (h : i < s.length) (x : UInt8) (hx : x = jK s[i]) : (bF (s.take i) ++ s.drop i).set i x = bF (s.take (i + 1)) ++ s.drop (i + 1):=by
 subst hx
 rw [List.set_append_right _ _ (by simp [bF]; omega),List.drop_eq_getElem_cons h]
 have : i - (bF (s.take i)).length = 0:=by simp [bF]; omega
 rw [this,List.take_succ_eq_append_getElem h]
 simp only [List.set_cons_zero,bF,List.map_append,List.map_cons,List.map_nil,List.append_assoc,List.cons_append,List.nil_append]
theorem Is (s : ah) (i : Nat) (h : i < s.length) (hx : jK s[i] = s[i]) : bF (s.take i) ++ s.drop i = bF (s.take (i + 1)) ++ s.drop (i + 1):=by
 rw [List.take_succ_eq_append_getElem h,List.drop_eq_getElem_cons h]
 simp only [bF,hx,List.map_append,List.map_cons,List.map_nil,List.append_assoc,List.cons_append,List.nil_append]
theorem Nt (l : ah) (i : Nat) (x : Int) (b : UInt8) (hx : x = (b.toNat : Int)) : (l.map eU).modify i (fun e=>e.set 0 (X.int .u8 x)) = (l.set i b).map eU:=by
 subst hx
 apply List.ext_getElem?
 intro j
 rw [List.getElem?_modify,List.getElem?_map,List.getElem?_map,List.getElem?_set]
 by_cases h : i = j
 ·subst h
  by_cases h2 : i < l.length
  ·simp [h2]
  ·simp [h2,List.getElem?_eq_none (Nat.le_of_not_lt h2)]
 ·simp only [h,if_false]
  cases l[j]? <;> rfl
theorem Jk (s : ah) (hb : s.length≤1073741824) : aJ (aj (ev LI TT) (av TT) ou) [(3,.row .own 1 ((bF (s.take 0) ++ s.drop 0).map eU)),(6,.str ⟨s.toArray⟩),(8,.ref 3 []),(9,.int .i64 s.length),(10,.int .i64 0)] = some (.exit 0,[(3,.row .own 1 ((bF s).map eU)),(6,.str ⟨s.toArray⟩),(8,.ref 3 []),(9,.int .i64 s.length),(10,.int .i64 (s).length),(11,.bool false)]):=by
 refine gY (f:=aj (ev LI TT) (av TT) ou) (s) (fun i=>[(3,.row .own 1 ((bF (s.take i) ++ s.drop i).map eU)),(6,.str ⟨s.toArray⟩),(8,.ref 3 []),(9,.int .i64 s.length),(10,.int .i64 i)]) _ (fun i b hi hl=>?_) ?_
 ·have hw:=aY i (by first | omega | (simp at hl; omega))
  obtain ⟨_,rfl⟩:=List.getElem?_eq_some_iff.1 hi
  have hk : (bF (s.take i) ++ s.drop i).length = s.length:=by simp [bF]; omega
  have hx:=s[i].toNat_lt
  have hg : (bF (s.take i) ++ s.drop i)[i]? = some s[i]:=by rw [List.getElem?_append_right (by simp [bF]; omega)]; simp [bF,Nat.min_eq_left (Nat.le_of_lt hl)]
  have hg' : ∀ h,(bF (s.take i) ++ s.drop i)[i]'h = s[i]:=fun h=>by rw [List.getElem?_eq_getElem h] at hg; exact Option.some.inj hg
  generalize hq : bF (s.take i) ++ s.drop i = q at hk hg hg' ⊢
  have mT : i < q.length:=by omega
  by_cases h1 : 65≤(s[i]).toNat
  rotate_left
  ·have h1' : ¬ (65 : Int)≤(s[i]).toNat:=by omega
   have e:=Is s i hl (by unfold jK; rw [if_neg (by omega)])
   rw [hq] at e
   simp -implicitDefEqProofs [ou,tN,hl,hw,hg,hg',mT,h1',← e]
  by_cases h2 : (s[i]).toNat≤90
  rotate_left
  ·have h1' : (65 : Int)≤(s[i]).toNat:=by omega
   have BB : 90 < ((s[i]).toNat : Int):=by omega
   have n9 : ¬ ((s[i]).toNat : Int)≤90:=by omega
   have e:=Is s i hl (by unfold jK; rw [if_neg (by omega)])
   rw [hq] at e
   simp -implicitDefEqProofs [ou,tN,hl,hw,hg,hg',mT,h1',n9,BB,← e]
  have h1' : (65 : Int)≤(s[i]).toNat:=by omega
  have n9 : ((s[i]).toNat : Int)≤90:=by omega
  have h3:=HC s[i] ⟨h1,h2⟩
  have h4 : IntKind.u8.wrap ((s[i]).toNat + 32) = (s[i]).toNat + 32:=Ja (by omega) (by omega)
  have e:=UI s i hl (s[i] + 32) (by unfold jK; rw [if_pos ⟨h1,h2⟩])
  rw [hq] at e
  have e2:=Nt q i _ (s[i] + 32) (show ((s[i]).toNat : Int) + 32 = _ by rw [h3]; rfl)
  rw [e] at e2
  simp -implicitDefEqProofs [ou,tN,hl,hw,hg,hg',mT,h1',n9,h4,e2]
  all_goals (repeat' split) <;> first | rfl | omega | (simp_all; done) | (simp_all; omega) | skip
 ·simp only [List.take_length,List.drop_length,List.append_nil]
  simp -implicitDefEqProofs [ou,tN]
theorem EM (s : ah) (hb : s.length≤1073741824) : ev LI TT 299 [.str ⟨s.toArray⟩] = some (.str ⟨(bF s).toArray⟩,[.dead]):=by
 rw [ay (b:=xI) (rs:=[.t 2]) (n:=1) rfl rfl]
 have hl : (bF s).length = s.length:=by simp [bF]
 have e0 : bF (s.take 0) ++ s.drop 0 = s:=by simp [bF]
 have u1:=Jk  s hb
 try simp at u1
 simp -implicitDefEqProofs [xI,u1,hl,rowAt,(by omega : s.length≤9223372036854775807)]
 all_goals (repeat' split) <;> first | rfl | omega | (simp_all; done) | (simp_all; omega) | skip
@[simp] theorem YF (x : Int) (y : Int) : ev LI TT 55 [.int .i64 x,.int .i64 y] = some (.int .i64 ((if x < y then x else y)),[.dead,.dead]):=by
 rw [ay (b:=zL) (rs:=[.t 4]) (n:=2) rfl rfl]
 simp -implicitDefEqProofs [zL]
 all_goals (repeat' split) <;> first | rfl | omega | (simp_all; done) | (simp_all; omega) | skip
@[simp] theorem YE (x : Int) (y : Int) : ev LI TT 54 [.int .i64 x,.int .i64 y] = some (.int .i64 ((if y < x then x else y)),[.dead,.dead]):=by
 rw [ay (b:=zK) (rs:=[.t 4]) (n:=2) rfl rfl]
 simp -implicitDefEqProofs [zK]
 all_goals (repeat' split) <;> first | rfl | omega | (simp_all; done) | (simp_all; omega) | skip
@[simp] theorem YC (n : Int) : ev LI TT 324 [.int .i64 n] = some (.int .i64 ((max 0 (min n 1000000))),[.dead]):=by
 rw [ay (b:=yb) (rs:=[.t 2]) (n:=1) rfl rfl]
 simp -implicitDefEqProofs [yb]
 (repeat' split) <;> omega
end M
namespace M
open Go
variable [Lb]
theorem J0 (n : Nat) (out : ah) (hn : out.length + n≤9223372036854775807) : aJ (aj (ev LI TT) (av TT) DM) [(0,.int .i64 n),(3,.str ⟨out.toArray⟩)] = some (.exit 0,[(0,.int .i64 0),(3,.str ⟨(je n out).toArray⟩),(10,.bool false)]):=by
 have hs : ∀ s,aj (ev LI TT) (av TT) DM s = aj (ev LI TT) (av TT) zx s:=fun _=>rfl
 induction n using Nat.strongRecOn generalizing out with
 | ind n ih =>
  rw [gE,hs]
  unfold je
  by_cases h : n = 0
  ·subst h
   simp -implicitDefEqProofs [zx]
  ·have hp : 0 < n:=by omega
   have:=ih (n / 10) (by omega) (UInt8.ofNat (48 + n % 10) :: out) (by rw [List.length_cons]; omega)
   have e1 : ((n : Int)).tmod 10 = ((n % 10 : Nat) : Int):=by rw [Int.tmod_eq_emod_of_nonneg (by omega)]; omega
   have e4 : ((n : Int)).tdiv 10 = ((n / 10 : Nat) : Int):=by rw [Int.tdiv_eq_ediv_of_nonneg (by omega)]; omega
   have e2 : IntKind.i64.wrap (48 + ((n % 10 : Nat) : Int)) = ((48 + n % 10 : Nat) : Int):=by rw [bl (by omega) (by omega)]; omega
   have e3 : IntKind.u8.wrap ((48 + n % 10 : Nat) : Int) = ((48 + n % 10 : Nat) : Int):=Ek (by omega) (by omega)
   have e5:=IZ (48 + n % 10) (by omega)
   have e6 : IntKind.i64.wrap ((n / 10 : Nat) : Int) = ((n / 10 : Nat) : Int):=bl (by omega) (by omega)
   simp only [h,dite_false]
   rw [← this]
   simp -implicitDefEqProofs [zx,hp,yX,e1,e2,e3,e4,e5,e6,-Int.natCast_emod,-Int.natCast_ediv,-Int.natCast_add,-UInt8.ofNat_add,Eb,(by omega : 1 + out.length≤9223372036854775807)]
theorem Me (n : Int) : ev LI TT 189 [.int .i64 n] = some (.str ⟨(oM n).toArray⟩,[.dead]):=by
 rw [ay (b:=rG) (rs:=[.t 2]) (n:=1) rfl rfl]
 unfold oM
 by_cases hn : 0≤n∧n≤1000000
 rotate_left
 ·have hf : (decide (0≤n) && decide (n≤1000000)) = false:=by simp; omega
  simp -implicitDefEqProofs [rG,hn,hf]
 obtain ⟨k,rfl⟩ : ∃ k : Nat,n = k:=⟨n.toNat,by omega⟩
 by_cases h : k = 0
 ·subst h; simp -implicitDefEqProofs [rG,A9]
 have h1:=J0 k [] (by simp; omega)
 rw [SJ k [] h,List.append_nil] at h1
 simp -implicitDefEqProofs [rG,hn,h,h1]
 all_goals (repeat' split) <;> first | rfl | omega | (simp_all; done) | (simp_all; omega) | skip
theorem JY (s : ah) (hb : s.length≤7) (hd : aO e9 s = true) (g : Nat) (hinv : g < 10 ^ 0) : aJ (aj (ev LI TT) (av TT) jR) [(0,.str ⟨s.toArray⟩),(4,.int .i64 (g : Nat)),(5,.int .i64 0)] = some (.exit 0,[(0,.str ⟨s.toArray⟩),(4,.int .i64 ((foldI (fun _ g b=>10 * g + b.toNat - 48) 0 (s) g) : Nat)),(5,.int .i64 (s).length),(16,.bool false)]):=by
 refine HA (f:=aj (ev LI TT) (av TT) jR) (s) (fun i (g : Nat)=>[(0,.str ⟨s.toArray⟩),(4,.int .i64 (g : Nat)),(5,.int .i64 i)]) (fun _ g b=>10 * g + b.toNat - 48) (fun g=>[(0,.str ⟨s.toArray⟩),(4,.int .i64 (g : Nat)),(5,.int .i64 (s).length),(16,.bool false)]) (fun i (g : Nat)=>g < 10 ^ i) g hinv (fun i b g hi hl hinv=>?_) (fun i b g hi hinv=>?_) (fun g hinv=>?_)
 ·have hw:=aY i (by first | omega | (simp at hl; omega))
  obtain ⟨_,rfl⟩:=List.getElem?_eq_some_iff.1 hi
  have hx:=kS.1 hd s[i] (List.getElem_mem hl)
  simp only [e9,decide_eq_true_eq] at hx
  have hp : 10 ^ i≤10 ^ 6:=Nat.pow_le_pow_right (by omega) (by omega)
  have h1 : ¬ ((s[i]).toNat : Int) < 48:=by omega
  have h2 : ¬ 57 < ((s[i]).toNat : Int):=by omega
  have e1 : IntKind.i64.wrap (10 * (g : Int)) = 10 * g:=bl (by omega) (by omega)
  have e0 : IntKind.i64.wrap ((s[i]).toNat : Int) = (s[i]).toNat:=bl (by omega) (by omega)
  have e2 : IntKind.i64.wrap (10 * (g : Int) + (s[i]).toNat) = 10 * g + (s[i]).toNat:=bl (by omega) (by omega)
  have e3 : IntKind.i64.wrap (10 * (g : Int) + (s[i]).toNat - 48) = ((10 * g + (s[i]).toNat - 48 : Nat) : Int):=by rw [bl (by omega) (by omega)]; omega
  simp -implicitDefEqProofs [jR,oY,hl,hw,h1,h2,e0,e1,e2,e3]
 ·obtain ⟨hl,rfl⟩:=List.getElem?_eq_some_iff.1 hi
  have hx:=kS.1 hd s[i] (List.getElem_mem hl)
  simp only [e9,decide_eq_true_eq] at hx
  rw [Nat.pow_succ]; omega
 ·simp -implicitDefEqProofs [jR,oY]
theorem JZ (s : ah) (hb : s.length≤7) (hd : ¬ aO e9 s = true) : aJ (aj (ev LI TT) (av TT) jR) [(0,.str ⟨s.toArray⟩),(4,.int .i64 0),(5,.int .i64 0)] = some (.ret,[(2,.int .i64 0),(3,.bool false)]):=by
 have key:=yY (xt:=0) (f:=aj (ev LI TT) (av TT) jR) s (fun i (g : Nat)=>[(0,.str ⟨s.toArray⟩),(4,.int .i64 (g : Int)),(5,.int .i64 i)]) (fun b g=>if e9 b = true then .inl (10 * g + b.toNat - 48) else .inr (.ret,[(2,.int .i64 0),(3,.bool false)])) (fun g=>[(0,.str ⟨s.toArray⟩),(4,.int .i64 (g : Int)),(5,.int .i64 s.length),(16,.bool false)]) (fun i g=>g < 10 ^ i) 0 (by decide) (fun i b g hi hl hinv=>?_) (fun i b g g' hi hinv hg=>?_) (fun g hg=>?_)
 ·have hr : ∀ (r : ah) (g : Nat),¬ aO e9 r = true→jj (fun (b : UInt8) (g : Nat)=>if e9 b = true then (.inl (10 * g + b.toNat - 48) : Nat ⊕ (Ex×ag)) else .inr (.ret,[(2,.int .i64 0),(3,.bool false)])) r g = .inr (.ret,[(2,.int .i64 0),(3,.bool false)]):=by
   intro r
   induction r with
   | nil=>intro g h; exact absurd rfl h
   | cons b r ih =>
    intro g h
    simp only [jj]
    by_cases hb : e9 b = true
    ·simp only [hb,if_true]
     exact ih _ fun h'=>h (by rw [kS] at h' ⊢; intro x hx; rcases List.mem_cons.1 hx with rfl | hx; exact hb; exact h' x hx)
    ·simp [hb]
  rw [hr s 0 hd] at key
  simpa [lv] using key
 ·have hw:=aY i (by omega)
  obtain ⟨_,rfl⟩:=List.getElem?_eq_some_iff.1 hi
  by_cases h : e9 s[i] = true
  ·have hx:=h
   simp only [e9,decide_eq_true_eq] at hx
   have hp : 10 ^ i≤10 ^ 6:=Nat.pow_le_pow_right (by omega) (by omega)
   have h1 : ¬ ((s[i]).toNat : Int) < 48:=by omega
   have h2 : ¬ 57 < ((s[i]).toNat : Int):=by omega
   have e1 : IntKind.i64.wrap (10 * (g : Int)) = 10 * g:=bl (by omega) (by omega)
   have e0 : IntKind.i64.wrap ((s[i]).toNat : Int) = (s[i]).toNat:=bl (by omega) (by omega)
   have e2 : IntKind.i64.wrap (10 * (g : Int) + (s[i]).toNat) = 10 * g + (s[i]).toNat:=bl (by omega) (by omega)
   have e3 : IntKind.i64.wrap (10 * (g : Int) + (s[i]).toNat - 48) = ((10 * g + (s[i]).toNat - 48 : Nat) : Int):=by rw [bl (by omega) (by omega)]; omega
   simp -implicitDefEqProofs [jR,oY,hl,hw,h,h1,h2,e0,e1,e2,e3]
  ·have hx:=h
   simp only [e9,decide_eq_true_eq] at hx
   by_cases h1 : ((s[i]).toNat : Int) < 48
   ·simp -implicitDefEqProofs [jR,oY,hl,hw,h,h1,lv]
   ·have h2 : 57 < ((s[i]).toNat : Int):=by omega
    simp -implicitDefEqProofs [jR,oY,hl,hw,h,h1,h2,lv]
 ·obtain ⟨hl,rfl⟩:=List.getElem?_eq_some_iff.1 hi
  split at hg
  ·rename_i hx
   simp only [e9,decide_eq_true_eq] at hx
   injection hg with hg
   rw [Nat.pow_succ]; omega
  ·cases hg
 ·simp -implicitDefEqProofs [jR,oY]
theorem Ga {β γ : Type} (go : γ→β→γ) : ∀ (l : List β) (i : Nat) (g : γ),foldI (fun _ g b=>go g b) i l g = l.foldl go g
 | [],_,_=>rfl
 | b :: l,i,g=>by rw [foldI,Ga go l,List.foldl_cons]
theorem E2 (s : ah) (hb : s.length≤9223372036854775807) : ev LI TT 216 [.str ⟨s.toArray⟩] = some (.ak [.int .i64 ((((cz s).getD 0 : Nat) : Int)),.bool ((cz s).isSome)],[.dead]):=by
 rw [ay (b:=nE) (rs:=[.t 2,.t 3]) (n:=1) rfl rfl]
 by_cases h7 : 7 < s.length
 ·have sV : 7 < (s.length : Int):=by omega
  have hn : ¬ s = []:=by rintro rfl; simp at h7
  simp -implicitDefEqProofs [nE,HK s h7,sV,hn]
 have sV : ¬ 7 < (s.length : Int):=by omega
 rw [Ta s (by omega)]
 by_cases h0 : s = []
 ·subst h0; simp -implicitDefEqProofs [nE]
 by_cases hd : aO e9 s = true
 rotate_left
 ·have u1:=JZ s (by omega) hd
  simp -implicitDefEqProofs [nE,sV,h0,hd,u1]
 have u1:=JY s (by omega) hd 0 (by decide)
 rw [show foldI (fun _ (g : Nat) (b : UInt8)=>10 * g + b.toNat - 48) 0 s 0 = gZ s from Ga _ s 0 0] at u1
 simp only [Int.ofNat_zero] at u1
 have u2:=Me (gZ s)
 by_cases ht : oM (gZ s) = s
 rotate_left
 ·simp -implicitDefEqProofs [nE,sV,h0,hd,u1,u2,eq_false ht]
 simp -implicitDefEqProofs [nE,sV,h0,hd,u1,u2,eq_true ht]
 all_goals (repeat' split) <;> first | rfl | omega | (simp_all; done) | (simp_all; omega) | skip
end M
namespace M
open Go
variable [Lb]
def ga (w : ah) : List ah:=if dS w≠[] then [dS w] else []
theorem T6 (s : ah) (i : Nat) (h : i < (s.map some ++ [none]).length) : (∃ hi : i < s.length,(s.map some ++ [none])[i] = some s[i])∨(i = s.length∧(s.map some ++ [none])[i] = none):=by
 by_cases hi : i < s.length
 ·refine .inl ⟨hi,?_⟩
  rw [List.getElem_append_left (by simpa using hi)]
  simp
 ·simp at h
  obtain rfl : i = s.length:=by omega
  refine .inr ⟨rfl,?_⟩
  rw [List.getElem_append_right (by simp)]
  simp
theorem Iw (w : ah) : (ga w).length≤1:=by unfold ga; split <;> simp
theorem QF (c : UInt8) (f : ah→List ah) (hf : ∀ w,(f w).length≤1) (s : ah) (i : Nat) (g : List ah×Nat) (b : Option UInt8) (h : g.2≤i∧g.1.length≤i) : (fU c f s i g b).2≤i + 1∧(fU c f s i g b).1.length≤i + 1:=by
 unfold fU
 have:=hf ((s.take i).drop g.2)
 split
 ·split
  ·simp; omega
  ·omega
 ·simp; omega
theorem J5 (s : ah) (hb : s.length≤1073741824) (g : List ah×Nat) (hinv : g.2≤0∧g.1.length≤0) : aJ (aj (ev LI TT) (av TT) l6) [(0,.str ⟨s.toArray⟩),(3,.row .own 1 ((g).1.map eS)),(4,.int .i64 ((g).2 : Nat)),(5,.int .i64 0)] = some (.exit 0,[(0,.str ⟨s.toArray⟩),(3,.row .own 1 (((foldI (fU 44 ga s) 0 (s.map some ++ [none]) g)).1.map eS)),(4,.int .i64 (((foldI (fU 44 ga s) 0 (s.map some ++ [none]) g)).2 : Nat)),(5,.int .i64 (s.map some ++ [none]).length),(11,.bool false)]):=by
 refine HA (f:=aj (ev LI TT) (av TT) l6) (s.map some ++ [none]) (fun i (g : List ah×Nat)=>[(0,.str ⟨s.toArray⟩),(3,.row .own 1 ((g).1.map eS)),(4,.int .i64 ((g).2 : Nat)),(5,.int .i64 i)]) (fU 44 ga s) (fun g=>[(0,.str ⟨s.toArray⟩),(3,.row .own 1 ((g).1.map eS)),(4,.int .i64 ((g).2 : Nat)),(5,.int .i64 (s.map some ++ [none]).length),(11,.bool false)]) (fun i (g : List ah×Nat)=>g.2≤i∧g.1.length≤i) g hinv (fun i b g hi hl hinv=>?_) (fun i b g hi hinv=>?_) (fun g hinv=>?_)
 ·have hw:=aY i (by first | omega | (simp at hl; omega))
  obtain ⟨_,rfl⟩:=List.getElem?_eq_some_iff.1 hi
  have hlz : (g.1.length + 1) * 16≤140737488355328:=by simp at hl; omega
  have Gu : ∀ b : UInt8,((b.toNat : Int) = 44)↔b = 44:=fun b=>⟨fun h=>UInt8.toNat_inj.1 (by have e : (44 : UInt8).toNat = 44:=rfl; omega),fun h=>by subst h; rfl⟩
  rcases T6 s i hl with ⟨hi',e⟩ | ⟨rfl,e⟩
  ·rw [e]
   have k1 : (i : Int)≤s.length:=by omega
   have k2 : i≤s.length:=by omega
   have hc:=AO ((s.drop g.2).take (i - g.2)) (by simp; omega)
   by_cases hx : s[i] = 44
   rotate_left
   ·have hx':=mt (Gu s[i]).1 hx
    simp -implicitDefEqProofs [l6,o6,k1,k2,hi',hw,fU,hx,hx']
   have hx':=(Gu s[i]).2 hx
   have e3 : (s.take i).drop g.2 = (s.drop g.2).take (i - g.2):=List.drop_take ..
   by_cases ht : dS ((s.drop g.2).take (i - g.2)) = []
   ·simp -implicitDefEqProofs [l6,o6,k1,k2,hi',hw,fU,eq_true hx,hx',hinv,hc,Lib.extract_mk,ga,e3,eq_true ht]
   ·simp -implicitDefEqProofs [l6,o6,k1,k2,hi',hw,fU,eq_true hx,hx',hinv,hc,Lib.extract_mk,ga,e3,eq_false ht,gH,hlz]
  rw [e]
  have hc:=AO ((s.drop g.2).take (s.length - g.2)) (by simp; omega)
  have e3 : (s.take s.length).drop g.2 = (s.drop g.2).take (s.length - g.2):=List.drop_take ..
  by_cases ht : dS ((s.drop g.2).take (s.length - g.2)) = []
  ·simp only [fU,e3,ga,eq_true ht]
   simp -implicitDefEqProofs [l6,o6,hw,hinv,hc,Lib.extract_mk,eq_true ht]
  simp only [fU,e3,ga,eq_false ht]
  simp -implicitDefEqProofs [l6,o6,hl,hw,hinv,hc,Lib.extract_mk,eq_false ht,gH,hlz]
 ·exact QF 44 ga Iw s i g b hinv
 ·have Rk : ¬ ((s.length : Int) + 1≤s.length):=by omega
  simp -implicitDefEqProofs [l6,o6,Rk]
theorem E5 (s : ah) (hb : s.length≤1073741824) : ev LI TT 253 [.str ⟨s.toArray⟩] = some (.row .own 1 ((eY s).map eS),[.dead]):=by
 rw [ay (b:=zz) (rs:=[.t 2]) (n:=1) rfl rfl]
 have u1:=J5 s hb ([],0) ⟨by omega,by simp⟩
 rw [Qx,show (cA 44 s).flatMap ga = eY s from (I7 s).symm] at u1
 simp at u1
 simp -implicitDefEqProofs [zz,u1]
 all_goals (repeat' split) <;> first | rfl | omega | (simp_all; done) | (simp_all; omega) | skip
theorem Jn (s : ah) (ws : List ah) (hb : ∀ w∈ws,w.length≤1073741824) (hl0 : ws.length≤1073741825) : aJ (aj (ev LI TT) (av TT) qB) [(3,.row .own 1 (([]).map eS)),(8,.row .own 1 (ws.map eS)),(9,.int .i64 ws.length),(10,.int .i64 0)] = some (.exit 0,[(3,.row .own 1 ((((ws).flatMap ga)).map eS)),(8,.row .own 1 (ws.map eS)),(9,.int .i64 ws.length),(10,.int .i64 (ws).length),(11,.bool false)]):=by
 refine uF (f:=aj (ev LI TT) (av TT) qB) (ws) ga (fun i out=>[(3,.row .own 1 ((out).map eS)),(8,.row .own 1 (ws.map eS)),(9,.int .i64 ws.length),(10,.int .i64 i)]) (fun out=>[(3,.row .own 1 ((out).map eS)),(8,.row .own 1 (ws.map eS)),(9,.int .i64 ws.length),(10,.int .i64 (ws).length),(11,.bool false)]) (fun i b out hi hl hout=>?_) (fun out hout=>?_)
 ·have hw:=aY i (by first | omega | (simp at hl; omega))
  obtain ⟨_,rfl⟩:=List.getElem?_eq_some_iff.1 hi
  have hlo : out.length≤i:=by rw [hout]; exact NS ga Iw ws i
  have hlz : (out.length + 1) * 16≤140737488355328:=by omega
  have hc:=ER ws[i] (by have:=hb _ (List.getElem_mem hl); omega)
  unfold ga
  by_cases ht : dS ws[i] = []
  ·simp -implicitDefEqProofs [qB,xM,hl,hw,hc,eq_true ht]
  simp -implicitDefEqProofs [qB,xM,hl,hw,hc,eq_false ht,gH,hlz]
 ·simp -implicitDefEqProofs [qB,xM]
theorem EP (s : ah) (hb : s.length≤1073741824) : ev LI TT 297 [.str ⟨s.toArray⟩] = some (.row .own 1 ((eY s).map eS),[.dead]):=by
 rw [ay (b:=xN) (rs:=[.t 2]) (n:=1) rfl rfl]
 rw [I7 s,show (fun w=>if dS w≠[] then [dS w] else []) = ga from rfl]
 have u1:=MB  s 44 (by omega)
 try simp at u1
 have u2:=Jn  s (cA 44 s) (fun w hw=>by have:=IA 44 s w hw; omega) (by have:=Iz 44 s; omega)
 try simp at u2
 simp -implicitDefEqProofs [xN,u1,u2]
 all_goals (repeat' split) <;> first | rfl | omega | (simp_all; done) | (simp_all; omega) | skip
theorem Kh (l : List ah) (hl0 : l.length≤1073741824) (hb : ∀ w∈l,w.length≤1073741824) : aJ (aj (ev LI TT) (av TT) vA) [(0,.row .af 1 (l.map eS)),(3,.int .i64 0)] = if aO eX (l) = true then some (.exit 0,[(0,.row .af 1 (l.map eS)),(3,.int .i64 (l).length),(7,.bool false)]) else some (.ret,[(2,.bool false)]):=by
 refine dh (f:=aj (ev LI TT) (av TT) vA) (l) (fun i=>[(0,.row .af 1 (l.map eS)),(3,.int .i64 i)]) eX _ _ (fun i b hi hl=>?_) ?_
 ·have hw:=aY i (by first | omega | (simp at hl; omega))
  obtain ⟨_,rfl⟩:=List.getElem?_eq_some_iff.1 hi
  have u1:=AN  l[i] (by have:=hb _ (List.getElem_mem hl); omega)
  try simp at u1
  simp -implicitDefEqProofs [vA,D0,hl,hw,u1]
  all_goals (repeat' split) <;> first | rfl | omega | (simp_all; done) | (simp_all; omega) | skip
 ·simp -implicitDefEqProofs [vA,D0]
theorem Mq (l : List ah) (hl0 : l.length≤1073741824) (hb : ∀ w∈l,w.length≤1073741824) : ev LI TT 202 [.row .af 1 (l.map eS)] = some (.bool ((aO eX l && decide ((l.length : Int)≤4))),[.dead]):=by
 rw [ay (b:=zP) (rs:=[.t 2]) (n:=1) rfl rfl]
 have u1:=Kh  l hl0 hb
 try simp at u1
 simp -implicitDefEqProofs [zP,u1]
 all_goals (repeat' split) <;> first | rfl | omega | (simp_all; done) | (simp_all; omega) | skip
theorem Js (l : List ah) (hl0 : l.length≤1073741824) (hb : ∀ w∈l,w.length≤1073741824) : aJ (aj (ev LI TT) (av TT) tU) [(0,.row .af 1 (l.map eS)),(5,.row .af 1 (l.map eS)),(6,.int .i64 l.length),(7,.int .i64 0)] = if aO eX (l) = true then some (.exit 0,[(0,.row .af 1 (l.map eS)),(5,.row .af 1 (l.map eS)),(6,.int .i64 l.length),(7,.int .i64 (l).length),(8,.bool false)]) else some (.ret,[(2,.bool false)]):=by
 refine dh (f:=aj (ev LI TT) (av TT) tU) (l) (fun i=>[(0,.row .af 1 (l.map eS)),(5,.row .af 1 (l.map eS)),(6,.int .i64 l.length),(7,.int .i64 i)]) eX _ _ (fun i b hi hl=>?_) ?_
 ·have hw:=aY i (by first | omega | (simp at hl; omega))
  obtain ⟨_,rfl⟩:=List.getElem?_eq_some_iff.1 hi
  have u1:=AE  l[i] (by have:=hb _ (List.getElem_mem hl); omega)
  try simp at u1
  simp -implicitDefEqProofs [tU,Ct,hl,hw,u1]
  all_goals (repeat' split) <;> first | rfl | omega | (simp_all; done) | (simp_all; omega) | skip
 ·simp -implicitDefEqProofs [tU,Ct]
theorem Le (l : List ah) (hl0 : l.length≤1073741824) (hb : ∀ w∈l,w.length≤1073741824) : ev LI TT 271 [.row .af 1 (l.map eS)] = some (.bool ((aO eX l && decide ((l.length : Int)≤4))),[.dead]):=by
 rw [ay (b:=ya) (rs:=[.t 2]) (n:=1) rfl rfl]
 have u1:=Js  l hl0 hb
 try simp at u1
 simp -implicitDefEqProofs [ya,u1]
 all_goals (repeat' split) <;> first | rfl | omega | (simp_all; done) | (simp_all; omega) | skip
end M
namespace M
open Go
variable [Lb]
theorem Kc (fs : List aG) (n : ah) (hb : fs.length≤9223372036854775807) : aJ (aj (ev LI TT) (av TT) vr) [(0,.row .af 2 (fs.map aD)),(1,.str ⟨n.toArray⟩),(5,.int .i64 0)] = (cL (fun f=>decide (f.name = n)) 0 (fs)).elim (some (.exit 0,[(0,.row .af 2 (fs.map aD)),(1,.str ⟨n.toArray⟩),(5,.int .i64 (fs).length),(9,.bool false)])) fun x=>some (.ret,(fun (i : Nat) b=>[(4,.int .i64 i)]) x.1 x.2):=by
 refine qW (f:=aj (ev LI TT) (av TT) vr) (fs) (fun i=>[(0,.row .af 2 (fs.map aD)),(1,.str ⟨n.toArray⟩),(5,.int .i64 i)]) (fun f=>decide (f.name = n)) (fun (i : Nat) b=>[(4,.int .i64 i)]) _ (fun i b hi hl=>?_) ?_
 ·have hw:=aY i (by first | omega | (simp at hl; omega))
  obtain ⟨_,rfl⟩:=List.getElem?_eq_some_iff.1 hi
  simp -implicitDefEqProofs [vr,DX,hl,hw]
 ·simp -implicitDefEqProofs [vr,DX]
theorem E6 (fs : List aG) (n : ah) (hb : fs.length≤9223372036854775807) : ev LI TT 252 [.row .af 2 (fs.map aD),.str ⟨n.toArray⟩] = some (.int .i64 (gL (gj fs n)),[.dead,.dead]):=by
 rw [ay (b:=vt) (rs:=[.t 4]) (n:=2) rfl rfl]
 have h:=Kc  fs n hb
 rw [show cL (fun f=>decide (f.name = n)) 0 fs = gj fs n from rfl] at h
 simp at h
 cases g : gj fs n with
 | none=>rw [g] at h; simp at h; simp -implicitDefEqProofs [vt,h,gL]
 | some x =>
 rw [g] at h
 simp at h
 simp -implicitDefEqProofs [vt,h,gL]
 all_goals (repeat' split) <;> first | rfl | omega | (simp_all; done) | (simp_all; omega) | skip
theorem su (fs : List aG) (n : ah) (hb : fs.length≤9223372036854775807) : ev LI TT 162 [.row .af 2 (fs.map aD),.str ⟨n.toArray⟩] = some (.ak [.str ⟨((ct fs n).getD []).toArray⟩,.bool (ct fs n).isSome],[.dead,.dead]):=by
 rw [ay (b:=vf) (rs:=[.t 4,.t 5]) (n:=2) rfl rfl]
 have h:=E6  fs n hb
 unfold ct
 cases g : gj fs n with
 | none=>rw [g] at h; simp [gL] at h; simp -implicitDefEqProofs [vf,h]
 | some x =>
 obtain ⟨i,b⟩:=x
 rw [g] at h
 obtain ⟨h1,h2,h3⟩:=sP g
 simp at h2
 simp [gL] at h
 have hi : i < fs.length:=(List.getElem?_eq_some_iff.1 h2).1
 obtain ⟨_,rfl⟩:=List.getElem?_eq_some_iff.1 h2
 simp -implicitDefEqProofs [vf,h,hi]
 all_goals (repeat' split) <;> first | rfl | omega | (simp_all; done) | (simp_all; omega) | skip
theorem Lc (f : aG) (n : ah) : ev LI TT 321 [.agg (aD f),.ptr .af [.str ⟨n.toArray⟩]] = some (.bool (decide (f.name = n)),[.dead,.dead]):=by
 rw [ay (b:=xW) (rs:=[.t 3]) (n:=2) rfl rfl]
 simp -implicitDefEqProofs [xW]
 all_goals (repeat' split) <;> first | rfl | omega | (simp_all; done) | (simp_all; omega) | skip
theorem Kj (fs : List aG) (n : ah) (hb : fs.length≤9223372036854775807) : aJ (aj (ev LI TT) (av TT) vO) [(0,.row .af 2 (fs.map aD)),(1,.fn 321 [.ptr .af [.str ⟨n.toArray⟩]]),(7,.int .i64 fs.length),(8,.int .i64 0)] = (cL (fun f=>decide (f.name = n)) 0 (fs)).elim (some (.exit 0,[(0,.row .af 2 (fs.map aD)),(1,.fn 321 [.ptr .af [.str ⟨n.toArray⟩]]),(7,.int .i64 fs.length),(8,.int .i64 (fs).length),(9,.bool false)])) fun x=>some (.ret,(fun (i : Nat) b=>[(4,.int .i64 i)]) x.1 x.2):=by
 refine qW (f:=aj (ev LI TT) (av TT) vO) (fs) (fun i=>[(0,.row .af 2 (fs.map aD)),(1,.fn 321 [.ptr .af [.str ⟨n.toArray⟩]]),(7,.int .i64 fs.length),(8,.int .i64 i)]) (fun f=>decide (f.name = n)) (fun (i : Nat) b=>[(4,.int .i64 i)]) _ (fun i b hi hl=>?_) ?_
 ·have hw:=aY i (by first | omega | (simp at hl; omega))
  obtain ⟨_,rfl⟩:=List.getElem?_eq_some_iff.1 hi
  have ho : av TT 321 = true:=rfl
  have hf:=Lc  fs[i] n
  simp at hf
  simp -implicitDefEqProofs [vO,Em,hl,hw,ho,yd,hf]
 ·simp -implicitDefEqProofs [vO,Em]
theorem Mw (fs : List aG) (n : ah) (hb : fs.length≤9223372036854775807) : ev LI TT 320 [.row .af 2 (fs.map aD),.fn 321 [.ptr .af [.str ⟨n.toArray⟩]]] = some (.int .i64 (gL (gj fs n)),[.dead,.dead]):=by
 rw [ay (b:=vP) (rs:=[.t 4]) (n:=2) rfl rfl]
 have h:=Kj  fs n hb
 rw [show cL (fun f=>decide (f.name = n)) 0 fs = gj fs n from rfl] at h
 simp at h
 cases g : gj fs n with
 | none=>rw [g] at h; simp at h; simp -implicitDefEqProofs [vP,h,gL]
 | some x =>
 rw [g] at h
 simp at h
 simp -implicitDefEqProofs [vP,h,gL]
 all_goals (repeat' split) <;> first | rfl | omega | (simp_all; done) | (simp_all; omega) | skip
theorem ET (fs : List aG) (n : ah) (hb : fs.length≤9223372036854775807) : ev LI TT 296 [.row .af 2 (fs.map aD),.str ⟨n.toArray⟩] = some (.int .i64 (gL (gj fs n)),[.dead,.dead]):=by
 rw [ay (b:=xX) (rs:=[.t 4]) (n:=2) rfl rfl]
 have h:=Mw  fs n hb
 simp -implicitDefEqProofs [xX,h,iN,fu]
 all_goals (repeat' split) <;> first | rfl | omega | (simp_all; done) | (simp_all; omega) | skip
theorem sn (fs : List aG) (n : ah) (hb : fs.length≤9223372036854775807) : ev LI TT 234 [.row .af 2 (fs.map aD),.str ⟨n.toArray⟩] = some (.ak [.str ⟨((ct fs n).getD []).toArray⟩,.bool (ct fs n).isSome],[.dead,.dead]):=by
 rw [ay (b:=tL) (rs:=[.t 4,.t 5]) (n:=2) rfl rfl]
 have h:=ET  fs n hb
 unfold ct
 cases g : gj fs n with
 | none=>rw [g] at h; simp [gL] at h; simp -implicitDefEqProofs [tL,h]
 | some x =>
 obtain ⟨i,b⟩:=x
 rw [g] at h
 obtain ⟨h1,h2,h3⟩:=sP g
 simp at h2
 simp [gL] at h
 have hi : i < fs.length:=(List.getElem?_eq_some_iff.1 h2).1
 obtain ⟨_,rfl⟩:=List.getElem?_eq_some_iff.1 h2
 simp -implicitDefEqProofs [tL,h,hi]
 all_goals (repeat' split) <;> first | rfl | omega | (simp_all; done) | (simp_all; omega) | skip
end M
namespace M
open Go
variable [Lb]
theorem uO : (⟨#[99,111,110,116,101,110,116,45,108,101,110,103,116,104]⟩ : ByteArray) = ⟨zc.toArray⟩:=rfl
theorem JU (fs : List aG) (hb : wL aI fs≤1073741824) : aJ (aj (ev LI TT) (av TT) l5) [(0,.row .af 2 (fs.map aD)),(3,.int .i64 0)] = if aO (gw fs) (fs.zipIdx) = true then some (.exit 0,[(0,.row .af 2 (fs.map aD)),(3,.int .i64 (fs.zipIdx).length),(7,.bool false)]) else some (.ret,[(2,.bool false)]):=by
 refine dh (f:=aj (ev LI TT) (av TT) l5) (fs.zipIdx) (fun i=>[(0,.row .af 2 (fs.map aD)),(3,.int .i64 i)]) (gw fs) _ _ (fun i b hi hl=>?_) ?_
 ·have hw:=aY i (by have:=bw (w:=aI) fs; simp at hl; omega)
  obtain ⟨_,rfl⟩:=List.getElem?_eq_some_iff.1 hi
  simp only [List.length_zipIdx] at hl
  have hz : fs.zipIdx[i]'(by simpa using hl) = (fs[i],i):=by simp
  have hm:=Ej (List.getElem_mem hl)
  have hfl:=bw (w:=aI) fs
  rw [hz]
  have u1:=AN  fs[i].name (by omega)
  try simp at u1
  have u2:=AP  fs[i].value (by omega)
  try simp at u2
  have u3:=E6  fs fs[i].name (by omega)
  try simp at u3
  by_cases g1 : eX fs[i].name = true
  rotate_left
  ·simp -implicitDefEqProofs [l5,oV,hl,hw,u1,u2,u3,gw,g1]
  by_cases g2 : ia fs[i].value = true
  rotate_left
  ·simp -implicitDefEqProofs [l5,oV,hl,hw,u1,u2,u3,gw,g1,g2]
  by_cases g3 : gL (gj fs fs[i].name) = i
  rotate_left
  ·simp -implicitDefEqProofs [l5,oV,hl,hw,u1,u2,u3,gw,g1,g2,eq_false g3]
  by_cases hcl : fs[i].name = zc
  ·simp -implicitDefEqProofs [l5,oV,hl,hw,u1,u2,u3,g1,g2,eq_true g3,gw,uO,eq_true hcl]
  simp -implicitDefEqProofs [l5,oV,hl,hw,u1,u2,u3,gw,g1,g2,eq_true g3,uO,eq_false hcl]
  all_goals (repeat' split) <;> first | rfl | omega | (simp_all; done) | (simp_all; omega) | skip
 ·simp -implicitDefEqProofs [l5,oV]
theorem E0 (fs : List aG) (hb : wL aI fs≤1073741824) : ev LI TT 161 [.row .af 2 (fs.map aD)] = some (.bool ((ld fs)),[.dead]):=by
 rw [ay (b:=zo) (rs:=[.t 2]) (n:=1) rfl rfl]
 unfold ld
 have hfl:=bw (w:=aI) fs
 have u1:=JU  fs hb
 try simp at u1
 simp -implicitDefEqProofs [zo,u1]
 all_goals (repeat' split) <;> first | rfl | omega | (simp_all; done) | (simp_all; omega) | skip
theorem Ji (fs : List aG) (hb : wL aI fs≤1073741824) : aJ (aj (ev LI TT) (av TT) lG) [(0,.row .af 2 (fs.map aD)),(5,.row .af 2 (fs.map aD)),(6,.int .i64 fs.length),(7,.int .i64 0)] = if aO (gw fs) (fs.zipIdx) = true then some (.exit 0,[(0,.row .af 2 (fs.map aD)),(5,.row .af 2 (fs.map aD)),(6,.int .i64 fs.length),(7,.int .i64 (fs.zipIdx).length),(8,.bool false)]) else some (.ret,[(2,.bool false)]):=by
 refine dh (f:=aj (ev LI TT) (av TT) lG) (fs.zipIdx) (fun i=>[(0,.row .af 2 (fs.map aD)),(5,.row .af 2 (fs.map aD)),(6,.int .i64 fs.length),(7,.int .i64 i)]) (gw fs) _ _ (fun i b hi hl=>?_) ?_
 ·have hw:=aY i (by have:=bw (w:=aI) fs; simp at hl; omega)
  obtain ⟨_,rfl⟩:=List.getElem?_eq_some_iff.1 hi
  simp only [List.length_zipIdx] at hl
  have hz : fs.zipIdx[i]'(by simpa using hl) = (fs[i],i):=by simp
  have hm:=Ej (List.getElem_mem hl)
  have hfl:=bw (w:=aI) fs
  rw [hz]
  have u1:=AE  fs[i].name (by omega)
  try simp at u1
  have u2:=AF  fs[i].value (by omega)
  try simp at u2
  have u3:=ET  fs fs[i].name (by omega)
  try simp at u3
  by_cases g1 : eX fs[i].name = true
  rotate_left
  ·simp -implicitDefEqProofs [lG,ot,hl,hw,u1,u2,u3,gw,g1]
  by_cases g2 : ia fs[i].value = true
  rotate_left
  ·simp -implicitDefEqProofs [lG,ot,hl,hw,u1,u2,u3,gw,g1,g2]
  by_cases hcl : fs[i].name = zc
  ·simp -implicitDefEqProofs [lG,ot,hl,hw,u1,u2,u3,g1,g2,gw,uO,eq_true hcl]
  by_cases g3 : gL (gj fs fs[i].name) = i
  rotate_left
  ·simp -implicitDefEqProofs [lG,ot,hl,hw,u1,u2,u3,g1,g2,gw,uO,eq_false hcl,eq_false g3]
  simp -implicitDefEqProofs [lG,ot,hl,hw,u1,u2,u3,gw,g1,g2,uO,eq_false hcl,eq_true g3]
  all_goals (repeat' split) <;> first | rfl | omega | (simp_all; done) | (simp_all; omega) | skip
 ·simp -implicitDefEqProofs [lG,ot]
theorem EL (fs : List aG) (hb : wL aI fs≤1073741824) : ev LI TT 294 [.row .af 2 (fs.map aD)] = some (.bool ((ld fs)),[.dead]):=by
 rw [ay (b:=xE) (rs:=[.t 2]) (n:=1) rfl rfl]
 unfold ld
 have hfl:=bw (w:=aI) fs
 have u1:=Ji  fs hb
 try simp at u1
 simp -implicitDefEqProofs [xE,u1]
 all_goals (repeat' split) <;> first | rfl | omega | (simp_all; done) | (simp_all; omega) | skip
theorem NT (fs : List aG) : en (fs.map aD) = true:=by induction fs <;> simp_all [en,scalar]
theorem Mh (r : cR) (hb : cj r≤1073741824) : ev LI TT 201 [.agg (eO .af r)] = some (.bool ((oS r)),[.dead]):=by
 rw [ay (b:=oZ) (rs:=[.t 2]) (n:=1) rfl rfl]
 have hw : cj r = wL aI r.fields + r.body.length:=rfl
 unfold oS
 have u1:=E0  r.fields (by omega)
 try simp at u1
 by_cases g1 : 100≤r.status
 rotate_left
 ·simp -implicitDefEqProofs [oZ,u1,eq_false g1]
 by_cases g2 : r.status≤599
 rotate_left
 ·simp -implicitDefEqProofs [oZ,u1,eq_true g1,eq_false g2]
 by_cases g3 : ld r.fields = true
 rotate_left
 ·simp -implicitDefEqProofs [oZ,u1,eq_true g1,eq_true g2,g3]
 simp -implicitDefEqProofs [oZ,u1,eq_true g1,eq_true g2,g3]
 all_goals (repeat' split) <;> first | rfl | omega | (simp_all; done) | (simp_all; omega) | skip
theorem KY (r : cR) (hb : cj r≤1073741824) : ev LI TT 251 [.agg (eO .af r)] = some (.bool ((oS r)),[.dead]):=by
 rw [ay (b:=ov) (rs:=[.t 2]) (n:=1) rfl rfl]
 have hw : cj r = wL aI r.fields + r.body.length:=rfl
 unfold oS
 have u1:=EL  r.fields (by omega)
 try simp at u1
 by_cases g1 : 100≤r.status
 rotate_left
 ·simp -implicitDefEqProofs [ov,u1,eq_false g1]
 by_cases g2 : r.status≤599
 rotate_left
 ·simp -implicitDefEqProofs [ov,u1,eq_true g1,eq_false g2]
 by_cases g3 : (r.body.length : Int)≤120
 rotate_left
 ·simp -implicitDefEqProofs [ov,u1,eq_true g1,eq_true g2,eq_false g3]
 simp -implicitDefEqProofs [ov,u1,eq_true g1,eq_true g2,eq_true g3]
 all_goals (repeat' split) <;> first | rfl | omega | (simp_all; done) | (simp_all; omega) | skip
theorem Mp (fs : List aG) (hb : fs.length≤1073741824) : ev LI TT 258 [.row .af 2 (fs.map aD)] = some (.row .own 2 (fs.map aD),[.dead]):=by
 rw [ay (b:=zN) (rs:=[.t 2]) (n:=1) rfl rfl]
 simp -implicitDefEqProofs [zN,NT fs,rowAt,(by omega : fs.length * 32≤140737488355328)]
 all_goals (repeat' split) <;> first | rfl | omega | (simp_all; done) | (simp_all; omega) | skip
theorem Mr (r : cR) (hb : r.fields.length≤1073741824) : ev LI TT 177 [.agg (eO .af r)] = some (.agg (eO .own r),[.dead]):=by
 rw [ay (b:=zQ) (rs:=[.c 2 3 true 59]) (n:=1) rfl rfl]
 have u1:=Mp  r.fields hb
 try simp at u1
 simp -implicitDefEqProofs [zQ,u1]
 all_goals (repeat' split) <;> first | rfl | omega | (simp_all; done) | (simp_all; omega) | skip
theorem K9 (r : cR) (hb : r.fields.length≤1073741824) : ev LI TT 246 [.agg (eO .af r)] = some (.agg (eO .own r),[.dead]):=by
 rw [ay (b:=xV) (rs:=[.c 2 3 true 59]) (n:=1) rfl rfl]
 have u1:=Sw r.fields hb
 try simp at u1
 simp -implicitDefEqProofs [xV,u1]
 all_goals (repeat' split) <;> first | rfl | omega | (simp_all; done) | (simp_all; omega) | skip
end M
namespace M
open Go
variable [Lb]
theorem vK (s : ah) : (eY s).length≤s.length + 1:=by
 unfold eY
 have h1:=List.length_filter_le (fun w : ah=>decide (w≠[])) ((cA 44 s).map dS)
 have h2:=Iz 44 s
 simp only [List.length_map] at h1
 omega
theorem Al (s : ah) : ∀ w∈eY s,w.length≤s.length:=by
 intro w hw
 unfold eY at hw
 obtain ⟨x,hx,rfl⟩:=List.mem_map.1 (List.mem_filter.1 hw).1
 have h1:=IA 44 s x hx
 have h2:=IQ x
 omega
theorem Kb (ws : List ah) (hl0 : ws.length≤1073741825) (hb : ∀ w∈ws,w.length≤1073741824) : aJ (aj (ev LI TT) (av TT) vq) [(5,.row .own 1 ((fZ bF ws 0).map eS)),(6,.int .i64 0)] = some (.exit 0,[(5,.row .own 1 ((fZ bF ws (ws).length).map eS)),(6,.int .i64 (ws).length),(17,.bool false)]):=by
 refine gY (f:=aj (ev LI TT) (av TT) vq) (ws) (fun i=>[(5,.row .own 1 ((fZ bF ws i).map eS)),(6,.int .i64 i)]) _ (fun i b hi hl=>?_) ?_
 ·have hw:=aY i (by first | omega | (simp at hl; omega))
  obtain ⟨_,rfl⟩:=List.getElem?_eq_some_iff.1 hi
  have h1:=SG bF ws i hl
  have h2:=SH bF ws i hl
  have u1:=E1  ws[i] (hb _ (List.getElem_mem hl))
  try simp at u1
  simp -implicitDefEqProofs [vq,DW,hl,hw,u1,h1,h2,rowAt,-List.map_set]
 ·simp -implicitDefEqProofs [vq,DW,rowAt]
theorem Mk (fs : List aG) (hb : wL aI fs≤1073741824) : ev LI TT 203 [.row .af 2 (fs.map aD)] = some (.row .own 1 ((kN fs).map eS),[.dead]):=by
 rw [ay (b:=zH) (rs:=[.t 2]) (n:=1) rfl rfl]
 have hfl:=bw (w:=aI) fs
 have hg:=n8 fs gF
 have u1:=su  fs gF (by omega)
 try simp at u1
 have u2:=E5  ((ct fs gF).getD []) (by omega)
 try simp at u2
 have u3:=Kb  (eY ((ct fs gF).getD [])) (by have:=vK ((ct fs gF).getD []); omega) (fun w hw=>by have:=Al _ w hw; omega)
 try simp at u3
 rw [SI,SE,show (eY ((ct fs gF).getD [])).map bF = kN fs from rfl] at u3
 simp -implicitDefEqProofs [zH,u1,u2,u3]
 all_goals (repeat' split) <;> first | rfl | omega | (simp_all; done) | (simp_all; omega) | skip
theorem Jq (ws : List ah) (hl0 : ws.length≤1073741825) (hb : ∀ w∈ws,w.length≤1073741824) : aJ (aj (ev LI TT) (av TT) tS) [(5,.row .own 1 (([]).map eS)),(14,.row .own 1 (ws.map eS)),(15,.int .i64 ws.length),(16,.int .i64 0)] = some (.exit 0,[(5,.row .own 1 ((((ws).flatMap (fun w=>[bF w]))).map eS)),(14,.row .own 1 (ws.map eS)),(15,.int .i64 ws.length),(16,.int .i64 (ws).length),(17,.bool false)]):=by
 refine uF (f:=aj (ev LI TT) (av TT) tS) (ws) (fun w=>[bF w]) (fun i out=>[(5,.row .own 1 ((out).map eS)),(14,.row .own 1 (ws.map eS)),(15,.int .i64 ws.length),(16,.int .i64 i)]) (fun out=>[(5,.row .own 1 ((out).map eS)),(14,.row .own 1 (ws.map eS)),(15,.int .i64 ws.length),(16,.int .i64 (ws).length),(17,.bool false)]) (fun i b out hi hl hout=>?_) (fun out hout=>?_)
 ·have hw:=aY i (by first | omega | (simp at hl; omega))
  obtain ⟨_,rfl⟩:=List.getElem?_eq_some_iff.1 hi
  have hlo : out.length = i:=by rw [hout]; exact wV _ _ _ (by omega)
  have hlz : (i + 1) * 16≤140737488355328:=by omega
  have u1:=EM  ws[i] (hb _ (List.getElem_mem hl))
  try simp at u1
  simp -implicitDefEqProofs [tS,Cq,hl,hw,u1,hlo,hlz,gH]
 ·simp -implicitDefEqProofs [tS,Cq]
theorem K7 (fs : List aG) (hb : wL aI fs≤1073741824) : ev LI TT 272 [.row .af 2 (fs.map aD)] = some (.row .own 1 ((kN fs).map eS),[.dead]):=by
 rw [ay (b:=xS) (rs:=[.t 2]) (n:=1) rfl rfl]
 have hfl:=bw (w:=aI) fs
 have hg:=n8 fs gF
 have u1:=sn  fs gF (by omega)
 try simp at u1
 have u2:=EP  ((ct fs gF).getD []) (by omega)
 try simp at u2
 have u3:=Jq  (eY ((ct fs gF).getD [])) (by have:=vK ((ct fs gF).getD []); omega) (fun w hw=>by have:=Al _ w hw; omega)
 try simp at u3
 rw [sQ,show (eY ((ct fs gF).getD [])).map bF = kN fs from rfl] at u3
 simp -implicitDefEqProofs [xS,u1,u2,u3]
 all_goals (repeat' split) <;> first | rfl | omega | (simp_all; done) | (simp_all; omega) | skip
theorem I6 (fs : List aG) : (kN fs).length≤wL aI fs + 1:=by
 have h1:=vK ((ct fs gF).getD [])
 have h2:=n8 fs gF
 simp [kN]; omega
end M
namespace M
open Go
variable [Lb]
theorem Ki (ps : List (ah×ah)) (hb : ps.length≤9223372036854775807) : aJ (aj (ev LI TT) (av TT) vN) [(0,.row .af 1 (ps.map fun x=>eS x.1)),(1,.row .af 1 (ps.map fun x=>eS x.2)),(12,.int .i64 ps.length),(13,.int .i64 0)] = if aO cZ (ps) = true then some (.exit 0,[(0,.row .af 1 (ps.map fun x=>eS x.1)),(1,.row .af 1 (ps.map fun x=>eS x.2)),(12,.int .i64 ps.length),(13,.int .i64 ps.length),(14,.bool false)]) else some (.ret,[(4,.bool false)]):=by
 refine dh (f:=aj (ev LI TT) (av TT) vN) (ps) (fun i=>[(0,.row .af 1 (ps.map fun x=>eS x.1)),(1,.row .af 1 (ps.map fun x=>eS x.2)),(12,.int .i64 ps.length),(13,.int .i64 i)]) cZ _ _ (fun i b hi hl=>?_) ?_
 ·have hw:=aY i (by first | omega | (simp at hl; omega))
  obtain ⟨_,rfl⟩:=List.getElem?_eq_some_iff.1 hi
  simp -implicitDefEqProofs [vN,El,hl,hw,cZ]
  first | done | (split <;> simp_all)
 ·simp -implicitDefEqProofs [vN,El]
theorem E8 (a b : List ah) (hb : a.length≤9223372036854775807) : ev LI TT 243 [.row .af 1 (a.map eS),.row .af 1 (b.map eS)] = some (.bool (decide (a = b)),[.dead,.dead]):=by
 rw [ay (b:=Am) (rs:=[.t 4]) (n:=2) rfl rfl]
 simp -implicitDefEqProofs [Am]
 by_cases h : a.length = b.length
 ·obtain ⟨ps,rfl,rfl⟩:=pI h
  have h1:=Ki  ps (by simpa using hb)
  have h2:=nR ps
  simp at h1
  cases h3 : aO cZ ps <;> rw [h3] at h1 h2 <;> simp [h1,Function.comp_def,← h2]
 ·have : ¬ a = b:=fun e=>h (by rw [e])
  simp [this]
  omega
theorem Jf : ∀ {a b : List ah},(∀ x∈a.zip b,¬ (decide (x.1≠x.2)) = true)→a.length = b.length→a = b
 | [],[],_,_=>rfl
 | x :: a,y :: b,h,hl=>by
  have h1:=h (x,y) (by simp)
  simp at h1
  have h2 : a = b:=Jf (fun z hz=>h z (by simp only [List.zip_cons_cons]; exact List.mem_cons_of_mem _ hz)) (by simpa using hl)
  rw [h1,h2]
theorem X8 {a b : List ah} {x : ah×ah} (hx : x∈a.zip b) (h : x.1≠x.2) : a≠b:=by
 rintro rfl
 have : ∀ {l : List ah} {x : ah×ah},x∈l.zip l→x.1 = x.2:=by
  intro l
  induction l with
  | nil=>intro x h; simp at h
  | cons y l ih =>
   intro x h
   simp only [List.zip_cons_cons,List.mem_cons] at h
   rcases h with rfl | h
   ·rfl
   ·exact ih h
 exact h (this hx)
theorem Kg (a b : List ah) (hb : a.length≤9223372036854775807) (fF : b.length≤9223372036854775807) : aJ (aj (ev LI TT) (av TT) rJ) [(0,.row .af 1 (a.map eS)),(1,.row .af 1 (b.map eS)),(5,.int .i64 0)] = (cL (fun x=>decide (x.1≠x.2)) 0 (a.zip b)).elim (some (.exit 0,[(0,.row .af 1 (a.map eS)),(1,.row .af 1 (b.map eS)),(5,.int .i64 (a.zip b).length),(15,.bool false)])) fun x=>some (.ret,(fun (i : Nat) b=>[(4,.bool false)]) x.1 x.2):=by
 refine qW (f:=aj (ev LI TT) (av TT) rJ) (a.zip b) (fun i=>[(0,.row .af 1 (a.map eS)),(1,.row .af 1 (b.map eS)),(5,.int .i64 i)]) (fun x=>decide (x.1≠x.2)) (fun (i : Nat) b=>[(4,.bool false)]) _ (fun i b hi hl=>?_) ?_
 ·have hw:=aY i (by first | omega | (simp at hl; omega))
  obtain ⟨_,rfl⟩:=List.getElem?_eq_some_iff.1 hi
  have ha : i < a.length:=by simp at hl; omega
  have hb' : i < b.length:=by simp at hl; omega
  simp -implicitDefEqProofs [rJ,zM,hl,hw,ha,hb']
 ·have hz : (a.zip b).length = min a.length b.length:=by simp
  rw [hz]
  by_cases hh : a.length≤b.length
  ·rw [Nat.min_eq_left hh]; simp -implicitDefEqProofs [rJ,zM]
  have h1 : b.length≤a.length:=by omega
  have h2 : (b.length : Int) < a.length:=by omega
  have h3 : b.length < a.length:=by omega
  rw [Nat.min_eq_right h1]
  simp -implicitDefEqProofs [rJ,zM,h2,h3]
theorem E7 (a b : List ah) (hb : a.length≤9223372036854775807) (fF : b.length≤9223372036854775807) : ev LI TT 175 [.row .af 1 (a.map eS),.row .af 1 (b.map eS)] = some (.bool (decide (a = b)),[.dead,.dead]):=by
 rw [ay (b:=rK) (rs:=[.t 4]) (n:=2) rfl rfl]
 have h:=Kg  a b hb fF
 cases g : cL (fun x : ah×ah=>decide (x.1≠x.2)) 0 (a.zip b) with
 | some x =>
  obtain ⟨i,x⟩:=x
  obtain ⟨_,h1,h2⟩:=sP g
  have h3 : ¬ a = b:=X8 (List.mem_of_getElem? h1) (by simpa using h2)
  rw [g] at h; simp only [Option.elim] at h; simp -implicitDefEqProofs [rK,h,h3]
 | none =>
 have h1:=F7.1 g
 rw [g] at h
 simp only [Option.elim] at h
 try simp at h
 by_cases hl : a.length = b.length
 ·have h2:=Jf h1 hl
  subst h2
  try simp at h
  simp -implicitDefEqProofs [rK,h]
 have h3 : ¬ a = b:=fun e=>hl (by rw [e])
 have h4 : ¬ (a.length : Int) = b.length:=by omega
 simp -implicitDefEqProofs [rK,h,h3,h4]
 all_goals (repeat' split) <;> first | rfl | omega | (simp_all; done) | (simp_all; omega) | skip
theorem Mf (x : Int) (y : Int) : ev LI TT 256 [.int .i64 x,.int .i64 y] = some (.int .i64 ((plus x y)),[.dead,.dead]):=by
 rw [ay (b:=zy) (rs:=[.t 4]) (n:=2) rfl rfl]
 unfold plus within
 have e1 : ∀ z : Int,(if (if 0 < z then z else 0) < 1000000 then (if 0 < z then z else 0) else 1000000) = max 0 (min z 1000000):=fun z=>by (repeat' split) <;> omega
 have e2 : ∀ z : Int,(if (if z < 0 then 0 else z) < 1000000 then (if z < 0 then 0 else z) else 1000000) = max 0 (min z 1000000):=fun z=>by (repeat' split) <;> omega
 have w:=bl (n:=max 0 (min x 1000000) + max 0 (min y 1000000)) (by omega) (by omega)
 simp -implicitDefEqProofs [zy,e1,e2,w]
 try omega
theorem KW (x : Int) (y : Int) : ev LI TT 301 [.int .i64 x,.int .i64 y] = some (.int .i64 ((plus x y)),[.dead,.dead]):=by
 rw [ay (b:=xJ) (rs:=[.t 4]) (n:=2) rfl rfl]
 unfold plus within
 have w:=bl (n:=max 0 (min x 1000000) + max 0 (min y 1000000)) (by omega) (by omega)
 simp -implicitDefEqProofs [xJ,w]
 try omega
theorem Mn (t : Int) (now : Int) (h1 : bI t) (h2 : bI now) : ev LI TT 257 [.int .i64 t,.int .i64 now] = some (.int .i64 ((since t now)),[.dead,.dead]):=by
 rw [ay (b:=o9) (rs:=[.t 4]) (n:=2) rfl rfl]
 obtain ⟨a1,a2⟩:=h1
 obtain ⟨b1,b2⟩:=h2
 unfold since
 by_cases g1 : now≤t
 ·simp -implicitDefEqProofs [o9,g1]
 by_cases g2 : t < 0
 ·have w:=bl (n:=t + 1000000) (by omega) (by omega)
  by_cases g3 : t + 1000000 < now
  ·simp -implicitDefEqProofs [o9,g1,g2,g3,w]; omega
  have w2:=bl (n:=now - t) (by omega) (by omega)
  simp -implicitDefEqProofs [o9,g1,g2,g3,w,w2]; (repeat' split) <;> omega
 have w2:=bl (n:=now - t) (by omega) (by omega)
 simp -implicitDefEqProofs [o9,g1,g2,w2]
 (repeat' split) <;> omega
theorem Lf (t : Int) (now : Int) (h1 : bI t) (h2 : bI now) : ev LI TT 302 [.int .i64 t,.int .i64 now] = some (.int .i64 ((since t now)),[.dead,.dead]):=by
 rw [ay (b:=qE) (rs:=[.t 4]) (n:=2) rfl rfl]
 obtain ⟨a1,a2⟩:=h1
 obtain ⟨b1,b2⟩:=h2
 unfold since
 by_cases g1 : now≤t
 ·simp -implicitDefEqProofs [qE,g1]
 by_cases g2 : now - t≤9223372036854775807
 ·have w2:=bl (n:=now - t) (by omega) (by omega)
  have w3 : ¬ now - t < 0:=by omega
  simp -implicitDefEqProofs [qE,g1,w2,w3]; (repeat' split) <;> omega
 have w4 : IntKind.i64.wrap (now - t) < 0:=by rw [IntKind.wrap_i64]; omega
 simp -implicitDefEqProofs [qE,g1,w4]
 (repeat' split) <;> omega
theorem L4 (fs : List aG) (t : Int) (now : Int) (hb : wL aI fs≤1073741824) (h1 : bI t) (h2 : bI now) : ev LI TT 164 [.row .af 2 (fs.map aD),.int .i64 t,.int .i64 now] = some (.int .i64 ((nO fs t now)),[.dead,.dead,.dead]):=by
 rw [ay (b:=rE) (rs:=[.t 6]) (n:=3) rfl rfl]
 have hfl:=bw (w:=aI) fs
 have hg:=n8 fs lT
 have u1:=su fs lT (by omega)
 have u2:=E2 ((ct fs lT).getD []) (by omega)
 have u3:=Mn t now h1 h2
 have u4:=Mf (rY fs) (since t now)
 try simp at u3 u4
 unfold nO
 unfold rY at u4 ⊢
 cases e1 : ct fs lT with
 | none =>
  rw [e1] at u1 u2 u4
  have e0 : cz [] = none:=by simp [cz,gZ,A9]
  simp [e0] at u1 u2 u4
  simp -implicitDefEqProofs [rE,u1,u2,u3,u4]
 | some v =>
 rw [e1] at u1 u2 u4
 cases e2 : cz v with
 | none =>
  simp [e2] at u1 u2 u4
  simp -implicitDefEqProofs [rE,u1,u2,u3,u4,e2]
 | some n =>
 simp [e2] at u1 u2 u4
 simp -implicitDefEqProofs [rE,u1,u2,u3,u4,e2]
 all_goals (repeat' split) <;> first | rfl | omega | (simp_all; done) | (simp_all; omega) | skip
theorem KM (fs : List aG) (t : Int) (now : Int) (hb : wL aI fs≤1073741824) (h1 : bI t) (h2 : bI now) : ev LI TT 240 [.row .af 2 (fs.map aD),.int .i64 t,.int .i64 now] = some (.int .i64 ((nO fs t now)),[.dead,.dead,.dead]):=by
 rw [ay (b:=qx) (rs:=[.t 6]) (n:=3) rfl rfl]
 have hfl:=bw (w:=aI) fs
 have hg:=n8 fs lT
 have u1:=sn fs lT (by omega)
 have u2:=EN ((ct fs lT).getD []) (by omega)
 have u3:=Lf t now h1 h2
 have u4:=KW (rY fs) (since t now)
 try simp at u3 u4
 unfold nO
 unfold rY at u4 ⊢
 cases e1 : ct fs lT with
 | none =>
  rw [e1] at u1 u2 u4
  have e0 : cz [] = none:=by simp [cz,gZ,A9]
  simp [e0] at u1 u2 u4
  simp -implicitDefEqProofs [qx,u1,u2,u3,u4]
 | some v =>
 rw [e1] at u1 u2 u4
 cases e2 : cz v with
 | none =>
  simp [e2] at u1 u2 u4
  simp -implicitDefEqProofs [qx,u1,u2,u3,u4,e2]
 | some n =>
 simp [e2] at u1 u2 u4
 simp -implicitDefEqProofs [qx,u1,u2,u3,u4,e2]
 all_goals (repeat' split) <;> first | rfl | omega | (simp_all; done) | (simp_all; omega) | skip
end M
namespace M
open Go
variable [Lb]
theorem J1 (o : Ob) (hb : wL wS o.values≤1073741824) : aJ (aj (ev LI TT) (av TT) vi) [(1,.ptr .own (bu .af o)),(3,.int .i64 0)] = if aO ia (o.values) = true then some (.exit 0,[(1,.ptr .own (bu .af o)),(3,.int .i64 (o.values).length),(49,.bool false)]) else some (.ret,[(2,.bool false)]):=by
 refine dh (f:=aj (ev LI TT) (av TT) vi) (o.values) (fun i=>[(1,.ptr .own (bu .af o)),(3,.int .i64 i)]) ia _ _ (fun i b hi hl=>?_) ?_
 ·have hw:=aY i (by have:=bw (w:=wS) o.values; omega)
  obtain ⟨_,rfl⟩:=List.getElem?_eq_some_iff.1 hi
  have hm:=Ak (List.getElem_mem hl)
  have u1:=AP  o.values[i] (by omega)
  try simp at u1
  simp -implicitDefEqProofs [vi,DN,hl,hw,u1]
  all_goals (repeat' split) <;> first | rfl | omega | (simp_all; done) | (simp_all; omega) | skip
 ·simp -implicitDefEqProofs [vi,DN]
theorem E3 (o : Ob) (hb : bG o≤1073741824) : ev LI TT 108 [.agg (bu .af o)] = some (.bool ((iI o)),[.dead]):=by
 rw [ay (b:=jk) (rs:=[.t 2]) (n:=1) rfl rfl]
 have hw : bG o = o.path.length + wL wS o.names + wL wS o.values + cj o.resp:=rfl
 have lC : cj o.resp = wL aI o.resp.fields + o.resp.body.length:=rfl
 have hn:=bw (w:=wS) o.names
 have hv:=bw (w:=wS) o.values
 have hvl:=I6 o.resp.fields
 unfold iI Dn
 have u1:=Mh  o.resp (by omega)
 try simp at u1
 have u2:=AQ  o.path (by omega)
 try simp at u2
 have u3:=Mq  o.names (by omega) (fun w hw=>by have:=Ak hw; omega)
 try simp at u3
 have u4:=Mk  o.resp.fields (by omega)
 try simp at u4
 have u5:=E7  o.names (kN o.resp.fields) (by omega) (by omega)
 try simp at u5
 have u6:=J1  o (by omega)
 try simp at u6
 by_cases g1 : oS o.resp = true
 rotate_left
 ·simp -implicitDefEqProofs [jk,u1,u2,u3,u4,u5,u6,g1]
 by_cases g2 : gG o.path = true
 rotate_left
 ·simp -implicitDefEqProofs [jk,u1,u2,u3,u4,u5,u6,g1,g2]
 by_cases g3 : 0≤o.t
 rotate_left
 ·simp -implicitDefEqProofs [jk,u1,u2,u3,u4,u5,u6,g1,g2,eq_false g3]
 by_cases g4 : o.t≤1000000
 rotate_left
 ·simp -implicitDefEqProofs [jk,u1,u2,u3,u4,u5,u6,g1,g2,eq_true g3,eq_false g4]
 by_cases g5 : aO eX o.names = true
 rotate_left
 ·simp -implicitDefEqProofs [jk,u1,u2,u3,u4,u5,u6,g1,g2,eq_true g3,eq_true g4,g5]
 by_cases g6 : (o.names.length : Int)≤4
 rotate_left
 ·simp -implicitDefEqProofs [jk,u1,u2,u3,u4,u5,u6,g1,g2,eq_true g3,eq_true g4,g5,eq_false g6]
 by_cases g7 : o.names = kN o.resp.fields
 rotate_left
 ·simp -implicitDefEqProofs [jk,u1,u2,u3,u4,u5,u6,g1,g2,eq_true g3,eq_true g4,g5,eq_true g6,eq_false g7]
 by_cases g8 : o.values.length = o.names.length
 rotate_left
 ·have gy : ¬ (o.values.length : Int) = o.names.length:=by omega
  simp -implicitDefEqProofs [jk,u1,u2,u3,u4,u5,u6,g1,g2,eq_true g3,eq_true g4,g5,eq_true g6,eq_true g7,eq_false g8,eq_false gy]
 have gy : (o.values.length : Int) = o.names.length:=by omega
 simp -implicitDefEqProofs [jk,u1,u2,u3,u4,u5,u6,g1,g2,eq_true g3,eq_true g4,g5,eq_true g6,eq_true g7,eq_true g8,eq_true gy]
 all_goals (repeat' split) <;> first | rfl | omega | (simp_all; done) | (simp_all; omega) | skip
theorem Jl (o : Ob) (hb : wL wS o.values≤1073741824) : aJ (aj (ev LI TT) (av TT) tO) [(1,.ptr .own (bu .af o)),(5,.aA 1 [] 0 2),(6,.row .af 1 (o.values.map eS)),(7,.int .i64 o.values.length),(8,.int .i64 0)] = if aO ia (o.values) = true then some (.exit 0,[(1,.ptr .own (bu .af o)),(5,.aA 1 [] 0 2),(6,.row .af 1 (o.values.map eS)),(7,.int .i64 o.values.length),(8,.int .i64 (o.values).length),(9,.bool false)]) else some (.ret,[(2,.bool false)]):=by
 refine dh (f:=aj (ev LI TT) (av TT) tO) (o.values) (fun i=>[(1,.ptr .own (bu .af o)),(5,.aA 1 [] 0 2),(6,.row .af 1 (o.values.map eS)),(7,.int .i64 o.values.length),(8,.int .i64 i)]) ia _ _ (fun i b hi hl=>?_) ?_
 ·have hw:=aY i (by have:=bw (w:=wS) o.values; omega)
  obtain ⟨_,rfl⟩:=List.getElem?_eq_some_iff.1 hi
  have hm:=Ak (List.getElem_mem hl)
  have u1:=AF  o.values[i] (by omega)
  try simp at u1
  simp -implicitDefEqProofs [tO,Cm,hl,hw,u1]
  all_goals (repeat' split) <;> first | rfl | omega | (simp_all; done) | (simp_all; omega) | skip
 ·simp -implicitDefEqProofs [tO,Cm]
theorem EO (o : Ob) (hb : bG o≤1073741824) : ev LI TT 205 [.agg (bu .af o)] = some (.bool ((iI o)),[.dead]):=by
 rw [ay (b:=jc) (rs:=[.t 2]) (n:=1) rfl rfl]
 have hw : bG o = o.path.length + wL wS o.names + wL wS o.values + cj o.resp:=rfl
 have lC : cj o.resp = wL aI o.resp.fields + o.resp.body.length:=rfl
 have hn:=bw (w:=wS) o.names
 have hv:=bw (w:=wS) o.values
 have hvl:=I6 o.resp.fields
 unfold iI Dn
 have u1:=KY  o.resp (by omega)
 try simp at u1
 have u2:=AG  o.path (by omega)
 try simp at u2
 have u3:=Le  o.names (by omega) (fun w hw=>by have:=Ak hw; omega)
 try simp at u3
 have u4:=K7  o.resp.fields (by omega)
 try simp at u4
 have u5:=E8  o.names (kN o.resp.fields) (by omega)
 try simp at u5
 have u6:=Jl  o (by omega)
 try simp at u6
 by_cases g1 : aO ia o.values = true
 rotate_left
 ·simp -implicitDefEqProofs [jc,u1,u2,u3,u4,u5,u6,g1]
 by_cases g2 : gG o.path = true
 rotate_left
 ·simp -implicitDefEqProofs [jc,u1,u2,u3,u4,u5,u6,g1,g2]
 by_cases g3 : 0≤o.t
 rotate_left
 ·simp -implicitDefEqProofs [jc,u1,u2,u3,u4,u5,u6,g1,g2,eq_false g3]
 by_cases g4 : o.t≤1000000
 rotate_left
 ·simp -implicitDefEqProofs [jc,u1,u2,u3,u4,u5,u6,g1,g2,eq_true g3,eq_false g4]
 by_cases g8 : o.values.length = o.names.length
 rotate_left
 ·have gy : ¬ (o.values.length : Int) = o.names.length:=by omega
  simp -implicitDefEqProofs [jc,u1,u2,u3,u4,u5,u6,g1,g2,eq_true g3,eq_true g4,eq_false g8,eq_false gy]
 have gy : (o.values.length : Int) = o.names.length:=by omega
 by_cases h5 : aO eX o.names = true
 rotate_left
 ·simp -implicitDefEqProofs [jc,u1,u2,u3,u4,u5,u6,g1,g2,eq_true g3,eq_true g4,eq_true g8,eq_true gy,h5]
 by_cases h6 : (o.names.length : Int)≤4
 rotate_left
 ·simp -implicitDefEqProofs [jc,u1,u2,u3,u4,u5,u6,g1,g2,eq_true g3,eq_true g4,eq_true g8,eq_true gy,h5,eq_false h6]
 by_cases h7 : oS o.resp = true
 rotate_left
 ·simp -implicitDefEqProofs [jc,u1,u2,u3,u4,u5,u6,g1,g2,eq_true g3,eq_true g4,eq_true g8,eq_true gy,h5,eq_true h6,h7]
 simp -implicitDefEqProofs [jc,u1,u2,u3,u4,u5,u6,g1,g2,eq_true g3,eq_true g4,eq_true g8,eq_true gy,h5,eq_true h6,h7]
 all_goals (repeat' split) <;> first | rfl | omega | (simp_all; done) | (simp_all; omega) | skip
theorem EZ (b : Bn) (hb : aN b≤1073741824) : ev LI TT 94 [.agg (bg b)] = some (.bool ((ig b)),[.dead]):=by
 rw [ay (b:=lY) (rs:=[.t 2]) (n:=1) rfl rfl]
 have hw : aN b = b.a.length + b.b.length:=rfl
 unfold ig
 have u1:=AQ  b.a (by omega)
 try simp at u1
 have u2:=AN  b.a (by omega)
 try simp at u2
 have u3:=AP  b.b (by omega)
 try simp at u3
 by_cases g1 : 0≤b.t
 rotate_left
 ·simp -implicitDefEqProofs [lY,u1,u2,u3,eq_false g1]
 by_cases g2 : b.t≤1000000
 rotate_left
 ·simp -implicitDefEqProofs [lY,u1,u2,u3,eq_true g1,eq_false g2]
 by_cases h1 : b.kind = 1
 ·by_cases h2 : gG b.a = true <;> simp -implicitDefEqProofs [lY,u1,u2,u3,eq_true g1,eq_true g2,h1,h2]
 by_cases h2 : b.kind = 2
 ·by_cases h3 : gG b.a = true <;> simp -implicitDefEqProofs [lY,u1,u2,u3,eq_true g1,eq_true g2,h2,h3]
 by_cases h3 : b.kind = 3
 ·by_cases h4 : eX b.a = true <;> simp -implicitDefEqProofs [lY,u1,u2,u3,eq_true g1,eq_true g2,h3,h4]
 simp -implicitDefEqProofs [lY,u1,u2,u3,eq_true g1,eq_true g2,h1,h2,h3]
 all_goals (repeat' split) <;> first | rfl | omega | (simp_all; done) | (simp_all; omega) | skip
theorem EK (b : Bn) (hb : aN b≤1073741824) : ev LI TT 178 [.agg (bg b)] = some (.bool ((ig b)),[.dead]):=by
 rw [ay (b:=lE) (rs:=[.t 2]) (n:=1) rfl rfl]
 have hw : aN b = b.a.length + b.b.length:=rfl
 unfold ig
 have u1:=AG  b.a (by omega)
 try simp at u1
 have u2:=AE  b.a (by omega)
 try simp at u2
 have u3:=AF  b.b (by omega)
 try simp at u3
 by_cases g1 : 0≤b.t
 rotate_left
 ·simp -implicitDefEqProofs [lE,u1,u2,u3,eq_false g1]
 by_cases g2 : b.t≤1000000
 rotate_left
 ·simp -implicitDefEqProofs [lE,u1,u2,u3,eq_true g1,eq_false g2]
 by_cases h1 : b.kind = 1
 ·by_cases h2 : gG b.a = true <;> simp -implicitDefEqProofs [lE,u1,u2,u3,eq_true g1,eq_true g2,h1,h2]
 by_cases h2 : b.kind = 2
 ·by_cases h3 : gG b.a = true <;> simp -implicitDefEqProofs [lE,u1,u2,u3,eq_true g1,eq_true g2,h2,h3]
 by_cases h3 : b.kind = 3
 ·by_cases h4 : eX b.a = true <;> simp -implicitDefEqProofs [lE,u1,u2,u3,eq_true g1,eq_true g2,h3,h4]
 simp -implicitDefEqProofs [lE,u1,u2,u3,eq_true g1,eq_true g2,h1,h2,h3]
 all_goals (repeat' split) <;> first | rfl | omega | (simp_all; done) | (simp_all; omega) | skip
@[simp] theorem Yz (t : Int) : ev LI TT 219 [.int .i64 t] = some (.bool ((decide (0≤t∧t≤19))),[.dead]):=by
 rw [ay (b:=x7) (rs:=[.t 2]) (n:=1) rfl rfl]
 simp -implicitDefEqProofs [x7]
 all_goals (repeat' split) <;> first | rfl | omega | (simp_all; done) | (simp_all; omega) | skip
@[simp] theorem YA (t : Int) : ev LI TT 179 [.int .i64 t] = some (.bool ((decide (5≤t∧t≤19))),[.dead]):=by
 rw [ay (b:=x8) (rs:=[.t 2]) (n:=1) rfl rfl]
 simp -implicitDefEqProofs [x8]
 all_goals (repeat' split) <;> first | rfl | omega | (simp_all; done) | (simp_all; omega) | skip
theorem JT (d : ew) (hb : d.pending.length≤9223372036854775807) : aJ (aj (ev LI TT) (av TT) ve) [(1,.ptr .own (fR .af d)),(3,.int .i64 0)] = if aO oO (d.pending) = true then some (.exit 0,[(1,.ptr .own (fR .af d)),(3,.int .i64 (d.pending).length),(8,.bool false)]) else some (.ret,[(2,.bool false)]):=by
 refine dh (f:=aj (ev LI TT) (av TT) ve) (d.pending) (fun i=>[(1,.ptr .own (fR .af d)),(3,.int .i64 i)]) oO _ _ (fun i b hi hl=>?_) ?_
 ·have hw:=aY i (by first | omega | (simp at hl; omega))
  obtain ⟨_,rfl⟩:=List.getElem?_eq_some_iff.1 hi
  simp -implicitDefEqProofs [ve,DK,hl,hw,oO]
  all_goals (repeat' split) <;> first | rfl | omega | (simp_all; done) | (simp_all; omega) | skip
 ·simp -implicitDefEqProofs [ve,DK]
theorem L7 (d : ew) (hb : d.pending.length≤9223372036854775807) : ev LI TT 119 [.agg (fR .af d)] = some (.bool ((oN d)),[.dead]):=by
 rw [ay (b:=zn) (rs:=[.t 2]) (n:=1) rfl rfl]
 unfold oN
 have u1:=JT  d hb
 try simp at u1
 simp -implicitDefEqProofs [zn,u1]
 all_goals (repeat' split) <;> first | rfl | omega | (simp_all; done) | (simp_all; omega) | skip
theorem Jh (d : ew) (hb : d.pending.length≤9223372036854775807) : aJ (aj (ev LI TT) (av TT) tJ) [(1,.ptr .own (fR .af d)),(5,.aA 1 [] 0 1),(6,.row .af 2 (d.pending.map eW)),(7,.int .i64 d.pending.length),(8,.int .i64 0)] = if aO oO (d.pending) = true then some (.exit 0,[(1,.ptr .own (fR .af d)),(5,.aA 1 [] 0 1),(6,.row .af 2 (d.pending.map eW)),(7,.int .i64 d.pending.length),(8,.int .i64 (d.pending).length),(9,.bool false)]) else some (.ret,[(2,.bool false)]):=by
 refine dh (f:=aj (ev LI TT) (av TT) tJ) (d.pending) (fun i=>[(1,.ptr .own (fR .af d)),(5,.aA 1 [] 0 1),(6,.row .af 2 (d.pending.map eW)),(7,.int .i64 d.pending.length),(8,.int .i64 i)]) oO _ _ (fun i b hi hl=>?_) ?_
 ·have hw:=aY i (by first | omega | (simp at hl; omega))
  obtain ⟨_,rfl⟩:=List.getElem?_eq_some_iff.1 hi
  simp -implicitDefEqProofs [tJ,Ck,hl,hw,oO]
  all_goals (repeat' split) <;> first | rfl | omega | (simp_all; done) | (simp_all; omega) | skip
 ·simp -implicitDefEqProofs [tJ,Ck]
theorem KQ (d : ew) (hb : d.pending.length≤9223372036854775807) : ev LI TT 128 [.agg (fR .af d)] = some (.bool ((oN d)),[.dead]):=by
 rw [ay (b:=xD) (rs:=[.t 2]) (n:=1) rfl rfl]
 unfold oN
 have u1:=Jh  d hb
 try simp at u1
 simp -implicitDefEqProofs [xD,u1]
 all_goals (repeat' split) <;> first | rfl | omega | (simp_all; done) | (simp_all; omega) | skip
end M
set_option maxHeartbeats 4000000
namespace M
open Go
variable [Lb]
theorem Gr (fs : List aG) (n v : ah) : (decide (ct fs n = some v)) = ((ct fs n).isSome && decide ((ct fs n).getD [] = v)):=by
 cases ct fs n <;> simp
theorem Ue (p s : ah) : p.isPrefixOf s = (decide (p.length≤s.length) && decide (s.take p.length = p)):=by
 have:=Lib.hasPrefix_of_take s p
 unfold Lib.hasPrefix at this
 rw [← this]
 congr 1
 rw [Bool.eq_iff_iff]
 simp
theorem Ma (b : Bn) (o : Ob) (h1 : aN b≤1073741824) (h2 : bG o≤1073741824) : ev LI TT 139 [.agg (bg b),.agg (bu .af o)] = some (.bool (ja b o),[.dead,.dead]):=by
 rw [ay (b:=jQ) (rs:=[.t 4]) (n:=2) rfl rfl]
 have hw : aN b = b.a.length + b.b.length:=rfl
 have lC : bG o = o.path.length + wL wS o.names + wL wS o.values + cj o.resp:=rfl
 have xu : cj o.resp = wL aI o.resp.fields + o.resp.body.length:=rfl
 have l1:=bw (w:=aI) o.resp.fields
 unfold ja
 rw [Gr,Ue]
 have u1:=EZ  b h1
 try simp at u1
 have u2:=E3  o (by omega)
 try simp at u2
 have u3:=su  o.resp.fields b.a (by omega)
 try simp at u3
 generalize ig b = b1 at u1
 cases b1
 ·simp -implicitDefEqProofs [jQ,u1]
 generalize iI o = b2 at u2
 cases b2
 ·simp -implicitDefEqProofs [jQ,u1,u2]
 by_cases g1 : o.t≤b.t
 rotate_left
 ·have gx : b.t < o.t:=by omega
  simp -implicitDefEqProofs [jQ,u1,u2,g1,gx]
 have gx : ¬ b.t < o.t:=by omega
 by_cases g2 : b.kind = 1
 ·rw [g2] at u1
  simp -implicitDefEqProofs [jQ,u1,u2,g1,gx,g2]
 by_cases g3 : b.kind = 2
 ·rw [g3] at u1
  by_cases g4 : b.a.length≤o.path.length
  ·have wX : (b.a.length : Int)≤o.path.length:=by omega
   by_cases g5 : o.path.take b.a.length = b.a
   ·simp -implicitDefEqProofs [jQ,u1,u2,g1,gx,g2,g3,g4,wX,Lib.extract_mk,eq_true g5]
   ·simp -implicitDefEqProofs [jQ,u1,u2,g1,gx,g2,g3,g4,wX,Lib.extract_mk,eq_false g5]
  ·have wX : ¬ (b.a.length : Int)≤o.path.length:=by omega
   simp -implicitDefEqProofs [jQ,u1,u2,g1,gx,g2,g3,g4,wX]
 generalize (ct o.resp.fields b.a).isSome = b3 at u3
 cases b3
 all_goals
 simp -implicitDefEqProofs [jQ,u1,u2,u3,g1,gx,g2,g3]
 all_goals (repeat' split) <;> first | rfl | omega | (simp_all; done) | (simp_all; omega) | skip
theorem KT (b : Bn) (o : Ob) (h1 : aN b≤1073741824) (h2 : bG o≤1073741824) : ev LI TT 145 [.agg (bg b),.agg (bu .af o)] = some (.bool (ja b o),[.dead,.dead]):=by
 rw [ay (b:=lH) (rs:=[.t 4]) (n:=2) rfl rfl]
 have hw : aN b = b.a.length + b.b.length:=rfl
 have lC : bG o = o.path.length + wL wS o.names + wL wS o.values + cj o.resp:=rfl
 have xu : cj o.resp = wL aI o.resp.fields + o.resp.body.length:=rfl
 have l1:=bw (w:=aI) o.resp.fields
 unfold ja
 rw [Gr,show b.a.isPrefixOf o.path = Lib.hasPrefix o.path b.a from rfl]
 have u1:=EK  b h1
 try simp at u1
 have u2:=EO  o (by omega)
 try simp at u2
 have u3:=sn  o.resp.fields b.a (by omega)
 try simp at u3
 have u4:=MA  o.path b.a
 try simp at u4
 by_cases g1 : o.t≤b.t
 rotate_left
 ·have gx : b.t < o.t:=by omega
  simp -implicitDefEqProofs [lH,u1,u2,g1,gx]
 have gx : ¬ b.t < o.t:=by omega
 generalize ig b = b1 at u1
 cases b1
 ·simp -implicitDefEqProofs [lH,u1,g1,gx]
 generalize iI o = b2 at u2
 cases b2
 ·simp -implicitDefEqProofs [lH,u1,u2,g1,gx]
 by_cases g2 : b.kind = 1
 ·rw [g2] at u1
  simp -implicitDefEqProofs [lH,u1,u2,g1,gx,g2]
 by_cases g3 : b.kind = 2
 ·rw [g3] at u1
  simp -implicitDefEqProofs [lH,u1,u2,u4,g1,gx,g2,g3]
 generalize (ct o.resp.fields b.a).isSome = b3 at u3
 cases b3
 all_goals
 simp -implicitDefEqProofs [lH,u1,u2,u3,u4,g1,gx,g2,g3]
 all_goals (repeat' split) <;> first | rfl | omega | (simp_all; done) | (simp_all; omega) | skip
theorem GL (l : List Bn) (o : Ob) : aO (fun b=>!ja b o) l = !jD l o:=by
 unfold jD aO
 induction l with
 | nil=>rfl
 | cons b l ih=>simp only [List.all_cons,List.any_cons,ih,Bool.not_or]
theorem JW (l : List Bn) (o : Ob) (h1 : wL aN l≤1073741824) (h2 : bG o≤1073741824) : aJ (aj (ev LI TT) (av TT) vg) [(0,.row .af 4 (l.map bg)),(3,.ptr .own (bu .af o)),(5,.int .i64 0)] = if aO (fun b=>!ja b o) (l) = true then some (.exit 0,[(0,.row .af 4 (l.map bg)),(3,.ptr .own (bu .af o)),(5,.int .i64 (l).length),(9,.bool false)]) else some (.ret,[(4,.bool true)]):=by
 refine dh (f:=aj (ev LI TT) (av TT) vg) (l) (fun i=>[(0,.row .af 4 (l.map bg)),(3,.ptr .own (bu .af o)),(5,.int .i64 i)]) (fun b=>!ja b o) _ _ (fun i b hi hl=>?_) ?_
 ·have hw:=aY i (by have:=bw (w:=aN) l; omega)
  obtain ⟨_,rfl⟩:=List.getElem?_eq_some_iff.1 hi
  have hm:=Aj (List.getElem_mem hl)
  have u1:=Ma l[i] o (by omega) h2
  try simp at u1
  cases hh : ja l[i] o <;> rw [hh] at u1
  all_goals
  simp -implicitDefEqProofs [vg,DL,hl,hw,u1,hh]
  all_goals (repeat' split) <;> first | rfl | omega | (simp_all; done) | (simp_all; omega) | skip
 ·simp -implicitDefEqProofs [vg,DL]
theorem Mb (l : List Bn) (o : Ob) (h1 : wL aN l≤1073741824) (h2 : bG o≤1073741824) : ev LI TT 56 [.row .af 4 (l.map bg),.agg (bu .af o)] = some (.bool (jD l o),[.dead,.dead]):=by
 rw [ay (b:=zu) (rs:=[.t 4]) (n:=2) rfl rfl]
 have u1:=JW  l o h1 h2
 try simp at u1
 rw [GL] at u1
 cases hh : jD l o <;> rw [hh] at u1
 all_goals try simp at u1
 all_goals
 simp -implicitDefEqProofs [zu,u1]
 all_goals (repeat' split) <;> first | rfl | omega | (simp_all; done) | (simp_all; omega) | skip
theorem Jj (l : List Bn) (o : Ob) (h1 : wL aN l≤1073741824) (h2 : bG o≤1073741824) : aJ (aj (ev LI TT) (av TT) tM) [(0,.row .af 4 (l.map bg)),(3,.ptr .own (bu .af o)),(7,.row .af 4 (l.map bg)),(8,.int .i64 l.length),(9,.int .i64 0)] = if aO (fun b=>!ja b o) (l) = true then some (.exit 0,[(0,.row .af 4 (l.map bg)),(3,.ptr .own (bu .af o)),(7,.row .af 4 (l.map bg)),(8,.int .i64 l.length),(9,.int .i64 (l).length),(10,.bool false)]) else some (.ret,[(4,.bool true)]):=by
 refine dh (f:=aj (ev LI TT) (av TT) tM) (l) (fun i=>[(0,.row .af 4 (l.map bg)),(3,.ptr .own (bu .af o)),(7,.row .af 4 (l.map bg)),(8,.int .i64 l.length),(9,.int .i64 i)]) (fun b=>!ja b o) _ _ (fun i b hi hl=>?_) ?_
 ·have hw:=aY i (by have:=bw (w:=aN) l; omega)
  obtain ⟨_,rfl⟩:=List.getElem?_eq_some_iff.1 hi
  have hm:=Aj (List.getElem_mem hl)
  have u1:=KT l[i] o (by omega) h2
  try simp at u1
  cases hh : ja l[i] o <;> rw [hh] at u1
  all_goals
  simp -implicitDefEqProofs [tM,Cl,hl,hw,u1,hh]
  all_goals (repeat' split) <;> first | rfl | omega | (simp_all; done) | (simp_all; omega) | skip
 ·simp -implicitDefEqProofs [tM,Cl]
theorem KU (l : List Bn) (o : Ob) (h1 : wL aN l≤1073741824) (h2 : bG o≤1073741824) : ev LI TT 61 [.row .af 4 (l.map bg),.agg (bu .af o)] = some (.bool (jD l o),[.dead,.dead]):=by
 rw [ay (b:=xG) (rs:=[.t 4]) (n:=2) rfl rfl]
 have u1:=Jj  l o h1 h2
 try simp at u1
 rw [GL] at u1
 cases hh : jD l o <;> rw [hh] at u1
 all_goals try simp at u1
 all_goals
 simp -implicitDefEqProofs [xG,u1]
 all_goals (repeat' split) <;> first | rfl | omega | (simp_all; done) | (simp_all; omega) | skip
end M
namespace M
open Go
variable [Lb]
def mb (fs : List aG) (n : ah) : ah:=(ct fs n).getD [45]
def valuesOf (ns : List ah) (fs : List aG) : List ah:=ns.map (mb fs)
theorem I4 (ns : List ah) (fs : List aG) : (valuesOf ns fs).length = ns.length:=by simp [valuesOf]
theorem Ka (ns : List ah) (fs : List aG) (hb : ns.length≤1073741824) (hf : fs.length≤9223372036854775807) : aJ (aj (ev LI TT) (av TT) vp) [(0,.row .af 1 (ns.map eS)),(1,.row .af 2 (fs.map aD)),(5,.row .own 1 (([]).map eS)),(6,.int .i64 0)] = some (.exit 0,[(0,.row .af 1 (ns.map eS)),(1,.row .af 2 (fs.map aD)),(5,.row .own 1 ((((ns).flatMap (fun n=>[mb fs n]))).map eS)),(6,.int .i64 (ns).length),(13,.bool false)]):=by
 refine uF (f:=aj (ev LI TT) (av TT) vp) (ns) (fun n=>[mb fs n]) (fun i out=>[(0,.row .af 1 (ns.map eS)),(1,.row .af 2 (fs.map aD)),(5,.row .own 1 ((out).map eS)),(6,.int .i64 i)]) (fun out=>[(0,.row .af 1 (ns.map eS)),(1,.row .af 2 (fs.map aD)),(5,.row .own 1 ((out).map eS)),(6,.int .i64 (ns).length),(13,.bool false)]) (fun i b out hi hl hout=>?_) (fun out hout=>?_)
 ·have hw:=aY i (by first | omega | (simp at hl; omega))
  obtain ⟨_,rfl⟩:=List.getElem?_eq_some_iff.1 hi
  have h:=su fs ns[i] hf
  have hlo : out.length = i:=by rw [hout]; exact wV _ _ _ (by omega)
  have hlz : (i + 1) * 16≤140737488355328:=by omega
  unfold mb
  cases g : ct fs ns[i] <;> rw [g] at h
  all_goals
  simp -implicitDefEqProofs [vp,DV,hl,hw,h,hlo,hlz,gH]
 ·simp -implicitDefEqProofs [vp,DV]
theorem Mj (ns : List ah) (fs : List aG) (hb : ns.length≤1073741824) (hf : fs.length≤9223372036854775807) : ev LI TT 176 [.row .af 1 (ns.map eS),.row .af 2 (fs.map aD)] = some (.row .own 1 ((valuesOf ns fs).map eS),[.dead,.dead]):=by
 rw [ay (b:=zG) (rs:=[.t 4]) (n:=2) rfl rfl]
 have u1:=Ka  ns fs hb hf
 try simp at u1
 rw [sQ,show ns.map (fun n=>mb fs n) = valuesOf ns fs from rfl] at u1
 simp -implicitDefEqProofs [zG,u1]
 all_goals (repeat' split) <;> first | rfl | omega | (simp_all; done) | (simp_all; omega) | skip
theorem Jp (ns : List ah) (fs : List aG) (hb : ns.length≤1073741824) (hf : fs.length≤9223372036854775807) : aJ (aj (ev LI TT) (av TT) tR) [(0,.row .af 1 (ns.map eS)),(1,.row .af 2 (fs.map aD)),(5,.row .own 1 (([]).map eS)),(10,.row .af 1 (ns.map eS)),(11,.int .i64 ns.length),(12,.int .i64 0)] = some (.exit 0,[(0,.row .af 1 (ns.map eS)),(1,.row .af 2 (fs.map aD)),(5,.row .own 1 ((((ns).flatMap (fun n=>[mb fs n]))).map eS)),(10,.row .af 1 (ns.map eS)),(11,.int .i64 ns.length),(12,.int .i64 (ns).length),(13,.bool false)]):=by
 refine uF (f:=aj (ev LI TT) (av TT) tR) (ns) (fun n=>[mb fs n]) (fun i out=>[(0,.row .af 1 (ns.map eS)),(1,.row .af 2 (fs.map aD)),(5,.row .own 1 ((out).map eS)),(10,.row .af 1 (ns.map eS)),(11,.int .i64 ns.length),(12,.int .i64 i)]) (fun out=>[(0,.row .af 1 (ns.map eS)),(1,.row .af 2 (fs.map aD)),(5,.row .own 1 ((out).map eS)),(10,.row .af 1 (ns.map eS)),(11,.int .i64 ns.length),(12,.int .i64 (ns).length),(13,.bool false)]) (fun i b out hi hl hout=>?_) (fun out hout=>?_)
 ·have hw:=aY i (by first | omega | (simp at hl; omega))
  obtain ⟨_,rfl⟩:=List.getElem?_eq_some_iff.1 hi
  have h:=sn fs ns[i] hf
  have hlo : out.length = i:=by rw [hout]; exact wV _ _ _ (by omega)
  have hlz : (i + 1) * 16≤140737488355328:=by omega
  unfold mb
  cases g : ct fs ns[i] <;> rw [g] at h
  all_goals
  simp -implicitDefEqProofs [tR,Cp,hl,hw,h,hlo,hlz,gH]
 ·simp -implicitDefEqProofs [tR,Cp]
theorem K6 (ns : List ah) (fs : List aG) (hb : ns.length≤1073741824) (hf : fs.length≤9223372036854775807) : ev LI TT 244 [.row .af 1 (ns.map eS),.row .af 2 (fs.map aD)] = some (.row .own 1 ((valuesOf ns fs).map eS),[.dead,.dead]):=by
 rw [ay (b:=xR) (rs:=[.t 4]) (n:=2) rfl rfl]
 have u1:=Jp  ns fs hb hf
 try simp at u1
 rw [sQ,show ns.map (fun n=>mb fs n) = valuesOf ns fs from rfl] at u1
 simp -implicitDefEqProofs [xR,u1]
 all_goals (repeat' split) <;> first | rfl | omega | (simp_all; done) | (simp_all; omega) | skip
def rM (ns : List ah) : Bool:=(cL (fun n=>decide (n = [42])) 0 ns).isSome
theorem Kf (ns : List ah) (hb : ns.length≤9223372036854775807) : aJ (aj (ev LI TT) (av TT) vw) [(0,.row .af 1 (ns.map eS)),(3,.int .i64 0)] = (cL (fun n=>decide (n = [42])) 0 (ns)).elim (some (.exit 0,[(0,.row .af 1 (ns.map eS)),(3,.int .i64 (ns).length),(7,.bool false)])) fun x=>some (.ret,(fun (i : Nat) b=>[(2,.bool true)]) x.1 x.2):=by
 refine qW (f:=aj (ev LI TT) (av TT) vw) (ns) (fun i=>[(0,.row .af 1 (ns.map eS)),(3,.int .i64 i)]) (fun n=>decide (n = [42])) (fun (i : Nat) b=>[(2,.bool true)]) _ (fun i b hi hl=>?_) ?_
 ·have hw:=aY i (by first | omega | (simp at hl; omega))
  obtain ⟨_,rfl⟩:=List.getElem?_eq_some_iff.1 hi
  have QI : (⟨#[42]⟩ : ByteArray) = ⟨([42] : ah).toArray⟩:=rfl
  simp -implicitDefEqProofs [vw,DZ,hl,hw,QI]
 ·simp -implicitDefEqProofs [vw,DZ]
theorem Mo (ns : List ah) (hb : ns.length≤9223372036854775807) : ev LI TT 174 [.row .af 1 (ns.map eS)] = some (.bool (rM ns),[.dead]):=by
 rw [ay (b:=vz) (rs:=[.t 2]) (n:=1) rfl rfl]
 have u1:=Kf  ns hb
 try simp at u1
 unfold rM
 cases g : cL (fun n=>decide (n = ([42] : ah))) 0 ns with
 | none=>rw [g] at u1; simp at u1; simp -implicitDefEqProofs [vz,u1]
 | some x =>
 rw [g] at u1
 simp at u1
 simp -implicitDefEqProofs [vz,u1]
 all_goals (repeat' split) <;> first | rfl | omega | (simp_all; done) | (simp_all; omega) | skip
theorem Kl (ns : List ah) (s : ah) (hb : ns.length≤9223372036854775807) : aJ (aj (ev LI TT) (av TT) vS) [(0,.row .af 1 (ns.map eS)),(1,.str ⟨s.toArray⟩),(7,.int .i64 ns.length),(8,.int .i64 0)] = (cL (fun n=>decide (n = s)) 0 (ns)).elim (some (.exit 0,[(0,.row .af 1 (ns.map eS)),(1,.str ⟨s.toArray⟩),(7,.int .i64 ns.length),(8,.int .i64 (ns).length),(9,.bool false)])) fun x=>some (.ret,(fun (i : Nat) b=>[(4,.int .i64 i)]) x.1 x.2):=by
 refine qW (f:=aj (ev LI TT) (av TT) vS) (ns) (fun i=>[(0,.row .af 1 (ns.map eS)),(1,.str ⟨s.toArray⟩),(7,.int .i64 ns.length),(8,.int .i64 i)]) (fun n=>decide (n = s)) (fun (i : Nat) b=>[(4,.int .i64 i)]) _ (fun i b hi hl=>?_) ?_
 ·have hw:=aY i (by first | omega | (simp at hl; omega))
  obtain ⟨_,rfl⟩:=List.getElem?_eq_some_iff.1 hi
  simp -implicitDefEqProofs [vS,Eo,hl,hw,eq_comm (a:=s)]
 ·simp -implicitDefEqProofs [vS,Eo]
theorem My (ns : List ah) (s : ah) (hb : ns.length≤9223372036854775807) : ev LI TT 303 [.row .af 1 (ns.map eS),.str ⟨s.toArray⟩] = some (.int .i64 (((cL (fun n=>decide (n = s)) 0 ns).elim (-1) fun x=>(x.1 : Int))),[.dead,.dead]):=by
 rw [ay (b:=vT) (rs:=[.t 4]) (n:=2) rfl rfl]
 have u1:=Kl  ns s hb
 try simp at u1
 cases g : cL (fun n=>decide (n = s)) 0 ns with
 | none=>rw [g] at u1; simp at u1; simp -implicitDefEqProofs [vT,u1]
 | some x =>
 rw [g] at u1
 simp at u1
 simp -implicitDefEqProofs [vT,u1]
 all_goals (repeat' split) <;> first | rfl | omega | (simp_all; done) | (simp_all; omega) | skip
theorem Mv (ns : List ah) (s : ah) (hb : ns.length≤9223372036854775807) : ev LI TT 242 [.row .af 1 (ns.map eS),.str ⟨s.toArray⟩] = some (.bool ((cL (fun n=>decide (n = s)) 0 ns).isSome),[.dead,.dead]):=by
 rw [ay (b:=vM) (rs:=[.t 4]) (n:=2) rfl rfl]
 have u1:=My  ns s hb
 try simp at u1
 cases g : cL (fun n=>decide (n = s)) 0 ns with
 | none=>rw [g] at u1; simp at u1; simp -implicitDefEqProofs [vM,u1]
 | some x =>
 rw [g] at u1
 simp at u1
 simp -implicitDefEqProofs [vM,u1]
 all_goals (repeat' split) <;> first | rfl | omega | (simp_all; done) | (simp_all; omega) | skip
def l7 (ns vs : List ah) (fs : List aG) : Bool:=!rM ns && decide (valuesOf ns fs = vs)
theorem Mi (ns : List ah) (vs : List ah) (fs : List aG) (hb : ns.length≤1073741824) (hv : vs.length≤1073741824) (hf : fs.length≤9223372036854775807) : ev LI TT 90 [.row .af 1 (ns.map eS),.row .af 1 (vs.map eS),.row .af 2 (fs.map aD)] = some (.bool (l7 ns vs fs),[.dead,.dead,.dead]):=by
 rw [ay (b:=zA) (rs:=[.t 6]) (n:=3) rfl rfl]
 have u1:=Mo  ns (by omega)
 try simp at u1
 have u2:=Mj  ns fs hb hf
 try simp at u2
 have u3:=E7  (valuesOf ns fs) vs (by rw [I4]; omega) (by omega)
 try simp at u3
 unfold l7
 cases g : rM ns <;> rw [g] at u1
 all_goals
 simp -implicitDefEqProofs [zA,u1,u2,u3]
 all_goals (repeat' split) <;> first | rfl | omega | (simp_all; done) | (simp_all; omega) | skip
theorem K5 (ns : List ah) (vs : List ah) (fs : List aG) (hb : ns.length≤1073741824) (hv : vs.length≤1073741824) (hf : fs.length≤9223372036854775807) : ev LI TT 154 [.row .af 1 (ns.map eS),.row .af 1 (vs.map eS),.row .af 2 (fs.map aD)] = some (.bool (l7 ns vs fs),[.dead,.dead,.dead]):=by
 rw [ay (b:=xO) (rs:=[.t 6]) (n:=3) rfl rfl]
 have u1:=Mv  ns [42] (by omega)
 try simp at u1
 have u2:=K6  ns fs hb hf
 try simp at u2
 have u3:=E8  (valuesOf ns fs) vs (by rw [I4]; omega)
 try simp at u3
 rw [show (cL (fun n : ah=>decide (n = [42])) 0 ns).isSome = rM ns from rfl] at u1
 unfold l7
 cases g : rM ns <;> rw [g] at u1
 all_goals
 simp -implicitDefEqProofs [xO,u1,u2,u3]
 all_goals (repeat' split) <;> first | rfl | omega | (simp_all; done) | (simp_all; omega) | skip
end M
namespace M
open Go
variable [Lb]
theorem J2 (s : Sh) (hb : bP s≤1073741824) : aJ (aj (ev LI TT) (av TT) vj) [(1,.ptr .own (bk .af s)),(3,.int .i64 0)] = if aO ig (s.aP) = true then some (.exit 0,[(1,.ptr .own (bk .af s)),(3,.int .i64 (s.aP).length),(33,.bool false)]) else some (.ret,[(2,.bool false)]):=by
 refine dh (f:=aj (ev LI TT) (av TT) vj) (s.aP) (fun i=>[(1,.ptr .own (bk .af s)),(3,.int .i64 i)]) ig _ _ (fun i b hi hl=>?_) ?_
 ·have hw:=aY i (by have jF : bP s = cH s.bz + wL bt s.au + wL aN s.aP:=rfl; have:=bw (w:=aN) s.aP; omega)
  obtain ⟨_,rfl⟩:=List.getElem?_eq_some_iff.1 hi
  have jF : bP s = cH s.bz + wL bt s.au + wL aN s.aP:=rfl
  have hm:=Aj (List.getElem_mem hl)
  have u1:=EZ  s.aP[i] (by omega)
  try simp at u1
  simp -implicitDefEqProofs [vj,DO,hl,hw,u1]
  all_goals (repeat' split) <;> first | rfl | omega | (simp_all; done) | (simp_all; omega) | skip
 ·simp -implicitDefEqProofs [vj,DO]
theorem J3 (s : Sh) (n : Nat) (k : Kp) (hn : n≤s.au.length) (hb : s.au.length≤1073741824) : aJ (aj (ev LI TT) (av TT) vk) [(1,.ptr .own (bk .af s)),(4,.int .i64 n),(5,.ptr .own (aQ .af k)),(6,.int .i64 0)] = if aO (fun y=>decide ¬ y.at_ = k.at_) (s.au.take n) = true then some (.exit 4,[(1,.ptr .own (bk .af s)),(4,.int .i64 n),(5,.ptr .own (aQ .af k)),(6,.int .i64 (s.au.take n).length),(92,.bool false)]) else some (.ret,[(2,.bool false)]):=by
 refine dh (f:=aj (ev LI TT) (av TT) vk) (s.au.take n) (fun i=>[(1,.ptr .own (bk .af s)),(4,.int .i64 n),(5,.ptr .own (aQ .af k)),(6,.int .i64 i)]) (fun y=>decide ¬ y.at_ = k.at_) _ _ (fun i b hi hl=>?_) ?_
 ·have hw:=aY i (by first | omega | (simp at hl; omega))
  obtain ⟨_,rfl⟩:=List.getElem?_eq_some_iff.1 hi
  have h1 : i < n:=by simp at hl; omega
  have h2 : i < s.au.length:=by omega
  simp -implicitDefEqProofs [vk,DP,hl,hw,h1,h2]
  all_goals (repeat' split) <;> first | rfl | omega | (simp_all; done) | (simp_all; omega) | skip
 ·have hmin : min n s.au.length = n:=by omega
  simp -implicitDefEqProofs [vk,DP,hmin]
theorem J4 (s : Sh) (hb : bP s≤1073741824) (hs : 1≤s.seq∧s.seq≤100000) : aJ (aj (ev LI TT) (av TT) jl) [(1,.ptr .own (bk .af s)),(4,.int .i64 0)] = if aO (iG s.seq s.au) (s.au.zipIdx) = true then some (.exit 2,[(1,.ptr .own (bk .af s)),(4,.int .i64 (s.au.zipIdx).length),(47,.bool false)]) else some (.ret,[(2,.bool false)]):=by
 refine dh (f:=aj (ev LI TT) (av TT) jl) (s.au.zipIdx) (fun i=>[(1,.ptr .own (bk .af s)),(4,.int .i64 i)]) (iG s.seq s.au) _ _ (fun i b hi hl=>?_) ?_
 ·have hw:=aY i (by have jF : bP s = cH s.bz + wL bt s.au + wL aN s.aP:=rfl; have:=bw (w:=bt) s.au; simp at hl; omega)
  obtain ⟨_,rfl⟩:=List.getElem?_eq_some_iff.1 hi
  simp only [List.length_zipIdx] at hl
  have jF : bP s = cH s.bz + wL bt s.au + wL aN s.aP:=rfl
  have hlen:=bw (w:=bt) s.au
  have hz : s.au.zipIdx[i]'(by simpa using hl) = (s.au[i],i):=by simp
  have hm:=vI (List.getElem_mem hl)
  have hS : IntKind.i64.wrap (s.seq - 1) = s.seq - 1:=bl (by omega) (by omega)
  rw [hz]
  have hmin : min i s.au.length = i:=by omega
  have u1:=E3  s.au[i].obj (by omega)
  try simp at u1
  have u2:=J3  s i s.au[i] (by omega) (by omega)
  try simp at u2
  by_cases g1 : iI (s.au[i]).obj = true
  rotate_left
  ·simp -implicitDefEqProofs [jl,kJ,hl,hw,u1,u2,iG,hS,hmin,g1]
  by_cases g2 : 5≤(s.au[i]).at_
  rotate_left
  ·simp -implicitDefEqProofs [jl,kJ,hl,hw,u1,u2,iG,hS,hmin,g1,eq_false g2]
  by_cases g3 : (s.au[i]).at_≤19
  rotate_left
  ·simp -implicitDefEqProofs [jl,kJ,hl,hw,u1,u2,iG,hS,hmin,g1,eq_true g2,eq_false g3]
  by_cases g4 : 1≤(s.au[i]).seq
  rotate_left
  ·simp -implicitDefEqProofs [jl,kJ,hl,hw,u1,u2,iG,hS,hmin,g1,eq_true g2,eq_true g3,eq_false g4]
  by_cases g5 : (s.au[i]).seq≤s.seq - 1
  rotate_left
  ·simp -implicitDefEqProofs [jl,kJ,hl,hw,u1,u2,iG,hS,hmin,g1,eq_true g2,eq_true g3,eq_true g4,eq_false g5]
  by_cases g6 : i = 0
  ·subst g6
   try simp at u2 hw
   simp -implicitDefEqProofs [jl,kJ,hl,hw,u1,u2,iG,hS,hmin,g1,eq_true g2,eq_true g3,eq_true g4,eq_true g5]
  obtain ⟨j,rfl⟩ : ∃ j,i = j + 1:=⟨i - 1,by omega⟩
  have hj : j < s.au.length:=by omega
  have hJ : IntKind.i64.wrap (j : Int) = j:=bl (by omega) (by omega)
  have hp:=Dy s.au j hj
  try simp at u2 hw hS
  have hpos : (0 : Int) < (j : Int) + 1:=by omega
  have hlc : (j : Int) + 1 < s.au.length:=by omega
  have dP : (0 : Int)≤(j : Int) + 1:=by omega
  by_cases g7 : (s.au[j]).seq < (s.au[j + 1]).seq
  rotate_left
  ·have Bv : (s.au[j + 1]).seq≤(s.au[j]).seq:=by omega
   simp -implicitDefEqProofs [jl,kJ,hl,hw,u1,u2,iG,hS,hmin,g1,eq_true g2,eq_true g3,eq_true g4,eq_true g5,hj,hJ,hp,hpos,hlc,dP,eq_false g7,eq_true Bv]
  have Bv : ¬ (s.au[j + 1]).seq≤(s.au[j]).seq:=by omega
  simp -implicitDefEqProofs [jl,kJ,hl,hw,u1,u2,iG,hS,hmin,g1,eq_true g2,eq_true g3,eq_true g4,eq_true g5,hj,hJ,hp,hpos,hlc,dP,eq_true g7,eq_false Bv]
  all_goals (repeat' split) <;> first | rfl | omega | (simp_all; done) | (simp_all; omega) | skip
 ·simp -implicitDefEqProofs [jl,kJ]
theorem E4 (s : Sh) (hb : bP s≤1073741824) : ev LI TT 89 [.agg (bk .af s)] = some (.bool ((jm s)),[.dead]):=by
 rw [ay (b:=kK) (rs:=[.t 2]) (n:=1) rfl rfl]
 have jF : bP s = cH s.bz + wL bt s.au + wL aN s.aP:=rfl
 have R7 : cH s.bz = wL wS s.bz.cells + wL ck s.bz.pending:=rfl
 have hlen:=bw (w:=ck) s.bz.pending
 unfold jm
 have u1:=L7  s.bz (by omega)
 try simp at u1
 have u2:=J2  s hb
 try simp at u2
 by_cases g1 : oN s.bz = true
 rotate_left
 ·simp -implicitDefEqProofs [kK,u1,u2,g1]
 by_cases g2 : (s.aP.length : Int)≤5
 rotate_left
 ·simp -implicitDefEqProofs [kK,u1,u2,g1,eq_false g2]
 by_cases g3 : 5≤s.next
 rotate_left
 ·simp -implicitDefEqProofs [kK,u1,u2,g1,eq_true g2,eq_false g3]
 by_cases g4 : s.next≤19
 rotate_left
 ·simp -implicitDefEqProofs [kK,u1,u2,g1,eq_true g2,eq_true g3,eq_false g4]
 by_cases g5 : 1≤s.seq
 rotate_left
 ·simp -implicitDefEqProofs [kK,u1,u2,g1,eq_true g2,eq_true g3,eq_true g4,eq_false g5]
 by_cases g6 : s.seq≤100000
 rotate_left
 ·simp -implicitDefEqProofs [kK,u1,u2,g1,eq_true g2,eq_true g3,eq_true g4,eq_true g5,eq_false g6]
 have u3:=J4 s hb ⟨by omega,by omega⟩
 rw [SA] at u3
 simp at u3
 have QB : ¬ 5 < (s.aP.length : Int):=by omega
 simp -implicitDefEqProofs [kK,u1,u2,g1,eq_true g2,eq_true g3,eq_true g4,eq_true g5,eq_true g6,u3,QB]
 all_goals (repeat' split) <;> first | rfl | omega | (simp_all; done) | (simp_all; omega) | skip
end M
namespace M
open Go
variable [Lb]
theorem K4 (x k : Kp) : ev LI TT 262 [.agg (aQ .af x),.ptr .af (aQ .af k)] = some (.bool (decide (x.at_ = k.at_)),[.dead,.dead]):=by
 rw [ay (b:=xK) (rs:=[.t 3]) (n:=2) rfl rfl]
 simp -implicitDefEqProofs [xK]
 all_goals (repeat' split) <;> first | rfl | omega | (simp_all; done) | (simp_all; omega) | skip
theorem Kk (l : List Kp) (k : Kp) (gf : Nat) (p : Kp→Bool) (ho : av TT gf = true) (hf : ∀ x∈l,ev LI TT gf [.agg (aQ .af x),.ptr .af (aQ .af k)] = some (.bool (p x),[.dead,.dead])) (hb : l.length≤9223372036854775807) : aJ (aj (ev LI TT) (av TT) vQ) [(0,.row .af 9 (l.map (aQ .af))),(1,.fn gf [.ptr .af (aQ .af k)]),(7,.int .i64 l.length),(8,.int .i64 0)] = (cL p 0 (l)).elim (some (.exit 0,[(0,.row .af 9 (l.map (aQ .af))),(1,.fn gf [.ptr .af (aQ .af k)]),(7,.int .i64 l.length),(8,.int .i64 (l).length),(9,.bool false)])) fun x=>some (.ret,(fun (i : Nat) b=>[(4,.int .i64 i)]) x.1 x.2):=by
 refine qW (f:=aj (ev LI TT) (av TT) vQ) (l) (fun i=>[(0,.row .af 9 (l.map (aQ .af))),(1,.fn gf [.ptr .af (aQ .af k)]),(7,.int .i64 l.length),(8,.int .i64 i)]) p (fun (i : Nat) b=>[(4,.int .i64 i)]) _ (fun i b hi hl=>?_) ?_
 ·have hw:=aY i (by first | omega | (simp at hl; omega))
  obtain ⟨_,rfl⟩:=List.getElem?_eq_some_iff.1 hi
  have u1:=hf l[i] (List.getElem_mem hl)
  try simp at u1
  simp -implicitDefEqProofs [vQ,En,hl,hw,u1,ho,yd]
  all_goals (repeat' split) <;> first | rfl | omega | (simp_all; done) | (simp_all; omega) | skip
 ·simp -implicitDefEqProofs [vQ,En]
theorem Mx (l : List Kp) (k : Kp) (gf : Nat) (p : Kp→Bool) (ho : av TT gf = true) (hf : ∀ x∈l,ev LI TT gf [.agg (aQ .af x),.ptr .af (aQ .af k)] = some (.bool (p x),[.dead,.dead])) (hb : l.length≤9223372036854775807) : ev LI TT 268 [.row .af 9 (l.map (aQ .af)),.fn gf [.ptr .af (aQ .af k)]] = some (.int .i64 ((cL p 0 l).elim (-1) fun x=>(x.1 : Int)),[.dead,.dead]):=by
 rw [ay (b:=vR) (rs:=[.t 4]) (n:=2) rfl rfl]
 have u1:=Kk  l k gf p ho hf hb
 try simp at u1
 cases g : cL p 0 l with
 | none=>rw [g] at u1; simp at u1; simp -implicitDefEqProofs [vR,u1]
 | some x =>
 rw [g] at u1
 simp at u1
 simp -implicitDefEqProofs [vR,u1]
 all_goals (repeat' split) <;> first | rfl | omega | (simp_all; done) | (simp_all; omega) | skip
theorem Mu (l : List Kp) (k : Kp) (gf : Nat) (p : Kp→Bool) (ho : av TT gf = true) (hf : ∀ x∈l,ev LI TT gf [.agg (aQ .af x),.ptr .af (aQ .af k)] = some (.bool (p x),[.dead,.dead])) (hb : l.length≤9223372036854775807) : ev LI TT 223 [.row .af 9 (l.map (aQ .af)),.fn gf [.ptr .af (aQ .af k)]] = some (.bool (!aO (fun x=>!p x) l),[.dead,.dead]):=by
 rw [ay (b:=vL) (rs:=[.t 4]) (n:=2) rfl rfl]
 have u1:=Mx  l k gf p ho hf hb
 try simp at u1
 rw [← F6 p l 0]
 cases g : cL p 0 l with
 | none=>rw [g] at u1; simp at u1; simp -implicitDefEqProofs [vL,u1]
 | some x =>
 rw [g] at u1
 simp at u1
 simp -implicitDefEqProofs [vL,u1]
 all_goals (repeat' split) <;> first | rfl | omega | (simp_all; done) | (simp_all; omega) | skip
theorem Jt (s : Sh) (hb : bP s≤1073741824) : ∃ sl,aJ (aj (ev LI TT) (av TT) jI) [(0,.ptr .af (bk .af s)),(3,.int .i64 0),(7,.ptr .af (bk .af s)),(8,.ptr .af (bk .af s)),(9,.ptr .af ((bk .af s).drop 2)),(10,.row .af 9 (s.au.map (aQ .af))),(11,.int .i64 s.au.length),(12,.int .i64 0)] = if rm s.seq s.au = true then some (.exit 0,sl) else some (.ret,[(2,.bool false)]):=by
 have jF : bP s = cH s.bz + wL bt s.au + wL aN s.aP:=rfl
 have hlen:=bw (w:=bt) s.au
 refine ⟨_,dh (f:=aj (ev LI TT) (av TT) jI) s.au.zipIdx (fun i=>[(0,.ptr .af (bk .af s)),(3,.int .i64 (jO s.au i)),(7,.ptr .af (bk .af s)),(8,.ptr .af (bk .af s)),(9,.ptr .af ((bk .af s).drop 2)),(10,.row .af 9 (s.au.map (aQ .af))),(11,.int .i64 s.au.length),(12,.int .i64 i)]) (ni s.seq s.au) [(2,.bool false)] [(0,.ptr .af (bk .af s)),(3,.int .i64 (jO s.au s.au.length)),(7,.ptr .af (bk .af s)),(8,.ptr .af (bk .af s)),(9,.ptr .af ((bk .af s).drop 2)),(10,.row .af 9 (s.au.map (aQ .af))),(11,.int .i64 s.au.length),(12,.int .i64 s.au.length),(13,.bool false)] (fun i b hi hl=>?_) ?_⟩
 ·simp only [List.length_zipIdx] at hl
  have hw:=aY i (by omega)
  obtain ⟨_,rfl⟩:=List.getElem?_eq_some_iff.1 hi
  have hz : s.au.zipIdx[i]'(by simpa using hl) = (s.au[i],i):=by simp
  have hm:=vI (List.getElem_mem hl)
  have hp:=Dy s.au i hl
  rw [hz]
  have hs : en [] = true:=rfl
  have u1:=EO s.au[i].obj (by omega)
  have u2:=Mu (s.au.take i) s.au[i] 262 (fun x=>decide (x.at_ = (s.au[i]).at_)) rfl (fun x _=>K4 x s.au[i]) (by simp; omega)
  have hle : (i : Int)≤s.au.length:=by omega
  have od : i≤s.au.length:=by omega
  simp at u1 u2
  unfold ni
  by_cases g1 : iI (s.au[i]).obj = true
  rotate_left
  ·simp -implicitDefEqProofs [jI,lI,hl,hw,hle,od,iN,fu,ek,u1,u2,g1]
  by_cases g2 : 5≤(s.au[i]).at_
  rotate_left
  ·simp -implicitDefEqProofs [jI,lI,hl,hw,hle,od,iN,fu,ek,u1,u2,g1,eq_false g2]
  by_cases g3 : (s.au[i]).at_≤19
  rotate_left
  ·simp -implicitDefEqProofs [jI,lI,hl,hw,hle,od,iN,fu,ek,u1,u2,g1,eq_true g2,eq_false g3]
  by_cases g4 : aO (fun y : Kp=>!decide (y.at_ = (s.au[i]).at_)) (s.au.take i) = true
  rotate_left
  ·simp -implicitDefEqProofs [jI,lI,hl,hw,hle,od,iN,fu,ek,u1,u2,g1,eq_true g2,eq_true g3,g4]
  by_cases g5 : jO s.au i < (s.au[i]).seq
  rotate_left
  ·have wY : (s.au[i]).seq≤jO s.au i:=by omega
   simp -implicitDefEqProofs [jI,lI,hl,hw,hle,od,iN,fu,ek,u1,u2,g1,eq_true g2,eq_true g3,g4,eq_false g5,eq_true wY]
  have wY : ¬ (s.au[i]).seq≤jO s.au i:=by omega
  by_cases g6 : (s.au[i]).seq < s.seq
  rotate_left
  ·have Bu : s.seq≤(s.au[i]).seq:=by omega
   simp -implicitDefEqProofs [jI,lI,hl,hw,hle,od,iN,fu,ek,u1,u2,g1,eq_true g2,eq_true g3,g4,eq_true g5,eq_false wY,eq_false g6,eq_true Bu]
  have Bu : ¬ s.seq≤(s.au[i]).seq:=by omega
  simp -implicitDefEqProofs [jI,lI,hl,hw,hle,od,iN,fu,ek,u1,u2,g1,eq_true g2,eq_true g3,g4,eq_true g5,eq_false wY,eq_true g6,eq_false Bu,hp]
 ·simp -implicitDefEqProofs [jI,lI]
theorem K3 (s : Sh) (hb : bP s≤1073741824) : ev LI TT 181 [.ptr .af (bk .af s)] = some (.bool (rm s.seq s.au),[.dead]):=by
 rw [ay (b:=xL) (rs:=[.t 2]) (n:=1) rfl rfl]
 obtain ⟨sl,u1⟩:=Jt s hb
 simp at u1
 simp -implicitDefEqProofs [xL,u1]
 all_goals (repeat' split) <;> first | rfl | omega | (simp_all; done) | (simp_all; omega) | skip
theorem Jm (s : Sh) (hb : bP s≤1073741824) : aJ (aj (ev LI TT) (av TT) tP) [(1,.ptr .own (bk .af s)),(5,.aA 1 [] 0 3),(6,.row .af 4 (s.aP.map bg)),(7,.int .i64 s.aP.length),(8,.int .i64 0)] = if aO ig (s.aP) = true then some (.exit 0,[(1,.ptr .own (bk .af s)),(5,.aA 1 [] 0 3),(6,.row .af 4 (s.aP.map bg)),(7,.int .i64 s.aP.length),(8,.int .i64 (s.aP).length),(9,.bool false)]) else some (.ret,[(2,.bool false)]):=by
 refine dh (f:=aj (ev LI TT) (av TT) tP) (s.aP) (fun i=>[(1,.ptr .own (bk .af s)),(5,.aA 1 [] 0 3),(6,.row .af 4 (s.aP.map bg)),(7,.int .i64 s.aP.length),(8,.int .i64 i)]) ig _ _ (fun i b hi hl=>?_) ?_
 ·have hw:=aY i (by have jF : bP s = cH s.bz + wL bt s.au + wL aN s.aP:=rfl; have:=bw (w:=aN) s.aP; omega)
  obtain ⟨_,rfl⟩:=List.getElem?_eq_some_iff.1 hi
  have jF : bP s = cH s.bz + wL bt s.au + wL aN s.aP:=rfl
  have hm:=Aj (List.getElem_mem hl)
  have u1:=EK  s.aP[i] (by omega)
  try simp at u1
  simp -implicitDefEqProofs [tP,Cn,hl,hw,u1]
  all_goals (repeat' split) <;> first | rfl | omega | (simp_all; done) | (simp_all; omega) | skip
 ·simp -implicitDefEqProofs [tP,Cn]
theorem KZ (s : Sh) (hb : bP s≤1073741824) : ev LI TT 92 [.agg (bk .af s)] = some (.bool ((jm s)),[.dead]):=by
 rw [ay (b:=jH) (rs:=[.t 2]) (n:=1) rfl rfl]
 have jF : bP s = cH s.bz + wL bt s.au + wL aN s.aP:=rfl
 have R7 : cH s.bz = wL wS s.bz.cells + wL ck s.bz.pending:=rfl
 have hlen:=bw (w:=ck) s.bz.pending
 unfold jm
 have u1:=KQ  s.bz (by omega)
 try simp at u1
 have u2:=Jm  s hb
 try simp at u2
 have u3:=K3  s hb
 try simp at u3
 by_cases g1 : aO ig s.aP = true
 rotate_left
 ·simp -implicitDefEqProofs [jH,u1,u2,u3,g1]
 by_cases g2 : (s.aP.length : Int)≤5
 rotate_left
 ·simp -implicitDefEqProofs [jH,u1,u2,u3,g1,eq_false g2]
 by_cases g3 : 5≤s.next
 rotate_left
 ·simp -implicitDefEqProofs [jH,u1,u2,u3,g1,eq_true g2,eq_false g3]
 by_cases g4 : s.next≤19
 rotate_left
 ·simp -implicitDefEqProofs [jH,u1,u2,u3,g1,eq_true g2,eq_true g3,eq_false g4]
 by_cases g5 : 1≤s.seq
 rotate_left
 ·simp -implicitDefEqProofs [jH,u1,u2,u3,g1,eq_true g2,eq_true g3,eq_true g4,eq_false g5]
 by_cases g6 : s.seq≤100000
 rotate_left
 ·simp -implicitDefEqProofs [jH,u1,u2,u3,g1,eq_true g2,eq_true g3,eq_true g4,eq_true g5,eq_false g6]
 by_cases g7 : oN s.bz = true
 rotate_left
 ·simp -implicitDefEqProofs [jH,u1,u2,u3,g1,eq_true g2,eq_true g3,eq_true g4,eq_true g5,eq_true g6,g7]
 simp -implicitDefEqProofs [jH,u1,u2,u3,g1,eq_true g2,eq_true g3,eq_true g4,eq_true g5,eq_true g6,g7]
 all_goals (repeat' split) <;> first | rfl | omega | (simp_all; done) | (simp_all; omega) | skip
end M
set_option maxHeartbeats 4000000
namespace M
open Go
variable [Lb]
theorem Ml (o : Ob) (hb : bG o≤1073741824) : ev LI TT 91 [.agg (bu .af o)] = some (.agg (bu .own o),[.dead]):=by
 rw [ay (b:=zI) (rs:=[.c 2 7 true 61]) (n:=1) rfl rfl]
 have hw : bG o = o.path.length + wL wS o.names + wL wS o.values + cj o.resp:=rfl
 have lC : cj o.resp = wL aI o.resp.fields + o.resp.body.length:=rfl
 have l1:=bw (w:=aI) o.resp.fields
 have l2:=bw (w:=wS) o.names
 have l3:=bw (w:=wS) o.values
 have u1:=Mr  o.resp (by omega)
 try simp at u1
 simp -implicitDefEqProofs [zI,u1,Io,rowAt,(by omega : o.names.length * 16≤140737488355328),(by omega : o.values.length * 16≤140737488355328)]
 all_goals (repeat' split) <;> first | rfl | omega | (simp_all; done) | (simp_all; omega) | skip
theorem K8 (o : Ob) (hb : bG o≤1073741824) : ev LI TT 183 [.agg (bu .af o)] = some (.agg (bu .own o),[.dead]):=by
 rw [ay (b:=xU) (rs:=[.c 2 7 true 61]) (n:=1) rfl rfl]
 have hw : bG o = o.path.length + wL wS o.names + wL wS o.values + cj o.resp:=rfl
 have lC : cj o.resp = wL aI o.resp.fields + o.resp.body.length:=rfl
 have l1:=bw (w:=aI) o.resp.fields
 have l2:=bw (w:=wS) o.names
 have l3:=bw (w:=wS) o.values
 have u1:=K9  o.resp (by omega)
 try simp at u1
 have u2:=Ht o.names (by omega)
 try simp at u2
 have u3:=Ht o.values (by omega)
 try simp at u3
 simp -implicitDefEqProofs [xU,u1,u2,u3]
 all_goals (repeat' split) <;> first | rfl | omega | (simp_all; done) | (simp_all; omega) | skip
def qd (s : Sh) (q : Rq) (k : Kp) : Bool:=decide (k.obj.path = q.path) && l7 k.obj.names k.obj.values q.fields && !jD s.aP k.obj
def qc (s : Sh) (q : Rq) : Option Ob:=(s.au.reverse.find? (qd s q)).map fun k=>k.obj
def cl (s : Sh) (q : Rq) : Option Ob:=if jm s = true then qc s q else none
def bx : Ob:=⟨[],[],[],⟨0,[],[]⟩,0⟩
theorem JV (s : Sh) (q : Rq) (hs : bP s≤100000000) (hq : cx q≤100000000) (hok : jm s = true) :
  aJ (aj (ev LI TT) (av TT) kI) [(2,.ptr .own (bk .af s)),(3,.ptr .own (cw .af q)),(4,.ptr .own (bu .own bx)),(6,.int .i64 (s.au.length - 1))] = (s.au.reverse.find? (qd s q)).elim (some (.exit 0,[(2,.ptr .own (bk .af s)),(3,.ptr .own (cw .af q)),(4,.ptr .own (bu .own bx)),(6,.int .i64 (-1)),(17,.bool false)])) (fun k=>some (.ret,[(4,.ptr .own (bu .own k.obj)),(5,.bool true)])):=by
 have jF : bP s = cH s.bz + wL bt s.au + wL aN s.aP:=rfl
 have Cf : cx q = q.path.length + wL aI q.fields + q.body.length:=rfl
 have mT:=bw (w:=aI) q.fields
 have hlo:=bw (w:=bt) s.au
 refine SC (f:=aj (ev LI TT) (av TT) kI) s.au (fun i=>[(2,.ptr .own (bk .af s)),(3,.ptr .own (cw .af q)),(4,.ptr .own (bu .own bx)),(6,.int .i64 i)]) (qd s q) (fun k=>[(4,.ptr .own (bu .own k.obj)),(5,.bool true)]) _ (fun i b hi hl=>?_) ?_
 ·have hw : IntKind.i64.wrap ((i : Int) - 1) = (i : Int) - 1:=bl (by omega) (by omega)
  obtain ⟨_,rfl⟩:=List.getElem?_eq_some_iff.1 hi
  have hm:=vI (List.getElem_mem hl)
  have ho : bG (s.au[i]).obj = (s.au[i]).obj.path.length + wL wS (s.au[i]).obj.names + wL wS (s.au[i]).obj.values + cj (s.au[i]).obj.resp:=rfl
  have l2:=bw (w:=wS) (s.au[i]).obj.names
  have l3:=bw (w:=wS) (s.au[i]).obj.values
  have u1:=E4 s (by omega)
  have u2:=Mi (s.au[i]).obj.names (s.au[i]).obj.values q.fields (by omega) (by omega) (by omega)
  have u3:=Mb s.aP (s.au[i]).obj (by omega) (by omega)
  have u4:=Ml (s.au[i]).obj (by omega)
  rw [hok] at u1
  unfold qd
  generalize l7 (s.au[i]).obj.names (s.au[i]).obj.values q.fields = b2 at u2
  generalize jD s.aP (s.au[i]).obj = b3 at u3
  have dP : (0 : Int)≤i:=by omega
  try simp at u1
  try simp at u2
  try simp at u3
  try simp at u4
  by_cases g1 : (s.au[i]).obj.path = q.path
  rotate_left
  ·simp -implicitDefEqProofs [kI,oW,hl,hw,dP,u1,eq_false g1]
  cases b2
  ·simp -implicitDefEqProofs [kI,oW,hl,hw,dP,u1,u2,eq_true g1]
  cases b3
  ·simp -implicitDefEqProofs [kI,oW,hl,hw,dP,u1,u2,u3,u4,eq_true g1]
  ·simp -implicitDefEqProofs [kI,oW,hl,hw,dP,u1,u2,u3,u4,eq_true g1]
 ·simp -implicitDefEqProofs [kI,oW]
theorem L8 (s : Sh) (q : Rq) (hs : bP s≤100000000) (hq : cx q≤100000000) : ev LI TT 31 [.agg (bk .af s),.agg (cw .af q)] = some (.ak [.agg (bu .own ((cl s q).getD bx)),.bool ((cl s q).isSome)],[.dead,.dead]):=by
 rw [ay (b:=rF) (rs:=[.c 4 7 true 61,.t 5]) (n:=2) rfl rfl]
 have jF : bP s = cH s.bz + wL bt s.au + wL aN s.aP:=rfl
 have hlo:=bw (w:=bt) s.au
 have hw : IntKind.i64.wrap ((s.au.length : Int) - 1) = (s.au.length : Int) - 1:=bl (by omega) (by omega)
 unfold cl
 by_cases hok : jm s = true
 ·have h:=JV s q hs hq hok
  unfold qc
  cases hf : s.au.reverse.find? (qd s q) with
  | none=>rw [hf] at h; simp [bx] at h; simp -implicitDefEqProofs [rF,h,hw,hok,bx]
  | some k=>rw [hf] at h; simp [bx] at h; simp -implicitDefEqProofs [rF,h,hw,hok,bx]
 have u1:=E4 s (by omega)
 rw [show jm s = false by simpa using hok] at u1
 try simp at u1
 have RC : ∀ (i : Int),aJ (aj (ev LI TT) (av TT) kI) [(2,.ptr .own (bk .af s)),(3,.ptr .own (cw .af q)),(4,.ptr .own (bu .own bx)),(6,.int .i64 i)] = some (.exit 0,[(2,.ptr .own (bk .af s)),(3,.ptr .own (cw .af q)),(4,.ptr .own (bu .own bx)),(6,.int .i64 i),(17,.bool false)]):=by
  intro i
  rw [gE]
  by_cases hi : 0≤i <;> simp -implicitDefEqProofs [kI,oW,u1,hi]
 have h:=RC (s.au.length - 1)
 simp [bx] at h
 simp -implicitDefEqProofs [rF,h,hw,hok,bx]
 all_goals (repeat' split) <;> first | rfl | omega | (simp_all; done) | (simp_all; omega) | skip
end M
set_option maxHeartbeats 4000000
namespace M
open Go
variable [Lb]
structure Cc where
 ns : Bool
 nc : Bool
 pr : Bool
 mu : Bool
 ha : Bool
 mj : Int
@[simp] def dO (c : Cc) : List X:=[.bool c.ns,.bool c.nc,.bool c.pr,.bool c.mu,.bool c.ha,.int .i64 c.mj]
def dz : Cc:=⟨false,false,false,false,false,0⟩
def uR : ah:=[110,111,45,115,116,111,114,101]
def uQ : ah:=[110,111,45,99,97,99,104,101]
def uS : ah:=[112,114,105,118,97,116,101]
def uP : ah:=[109,117,115,116,45,114,101,118,97,108,105,100,97,116,101]
def iH : ah:=[109,97,120,45,97,103,101,61]
def pU (w : ah) : Option Nat:=if Lib.hasPrefix w iH = true then some ((cz (w.drop 8)).getD 0) else none
def j6 (c : Cc) (w : ah) : Cc:=if w = uR then { c with ns:=true } else if w = uQ then { c with nc:=true } else if w = uS then { c with pr:=true } else if w = uP then { c with mu:=true } else
 match pU w with
 | some n=>{ c with ha:=true,mj:=if c.ha = true then min (n : Int) c.mj else n }
 | none=>c
def nV (v : ah) : Cc:=(eY v).foldl (fun c w=>j6 c (bF w)) dz
def gN (fs : List aG) : Cc:=nV ((ct fs jM).getD [])
theorem Dp : (⟨#[110,111,45,115,116,111,114,101]⟩ : ByteArray) = ⟨uR.toArray⟩∧(⟨#[110,111,45,99,97,99,104,101]⟩ : ByteArray) = ⟨uQ.toArray⟩∧(⟨#[112,114,105,118,97,116,101]⟩ : ByteArray) = ⟨uS.toArray⟩∧(⟨#[109,117,115,116,45,114,101,118,97,108,105,100,97,116,101]⟩ : ByteArray) = ⟨uP.toArray⟩∧(⟨#[109,97,120,45,97,103,101,61]⟩ : ByteArray) = ⟨iH.toArray⟩:=⟨rfl,rfl,rfl,rfl,rfl⟩
theorem Mm (w : ah) (hb : w.length≤1073741824) : ev LI TT 255 [.str ⟨w.toArray⟩] = some (.ak [.int .i64 ((((pU w).getD 0 : Nat) : Int)),.bool ((pU w).isSome)],[.dead]):=by
 rw [ay (b:=rI) (rs:=[.t 2,.t 3]) (n:=1) rfl rfl]
 have hp:=Lib.hasPrefix_of_take w iH
 have l8 : iH.length = 8:=rfl
 have z : iH.toArray.size = 8:=rfl
 obtain ⟨t1,t2,t3,t4,t5⟩:=Dp
 rw [l8] at hp
 unfold pU
 by_cases g8 : w.length < 8
 ·have : Lib.hasPrefix w iH = false:=by rw [← hp]; simp; omega
  have gy : (w.length : Int) < 8:=by omega
  simp -implicitDefEqProofs [rI,t5,this,g8,gy,ByteArray.size,z,l8]
 have gy : ¬ (w.length : Int) < 8:=by omega
 have g9 : (8 : Int)≤w.length:=by omega
 have g10 : 8≤w.length:=by omega
 have g11 : decide (8≤w.length) = true:=by simp; omega
 rw [g11,Bool.true_and] at hp
 by_cases g : w.take 8 = iH
 rotate_left
 ·have : Lib.hasPrefix w iH = false:=by rw [← hp]; simpa using g
  simp -implicitDefEqProofs [rI,t5,this,g8,gy,g9,g10,ByteArray.size,z,l8,Lib.extract_mk,eq_false g]
 have : Lib.hasPrefix w iH = true:=by rw [← hp]; simpa using g
 have u1:=E2 (w.drop 8) (by simp; omega)
 have hz : (w.drop 8).take (w.length - 8) = w.drop 8:=List.take_of_length_le (by simp)
 simp -implicitDefEqProofs [rI,t5,this,g8,gy,g9,g10,ByteArray.size,z,l8,Lib.extract_mk,eq_true g,u1,hz]
 all_goals (repeat' split) <;> first | rfl | omega | (simp_all; done) | (simp_all; omega) | skip
theorem JS (ws : List ah) (hl0 : ws.length≤1073741825) (hb : ∀ w∈ws,w.length≤1073741824) (g : Cc) : aJ (aj (ev LI TT) (av TT) kH) [(2,.ptr .own (dO dz)),(3,.ptr .own (dO g)),(4,.row .own 1 (ws.map eS)),(5,.int .i64 0)] = some (.exit 0,[(2,.ptr .own (dO dz)),(3,.ptr .own (dO ((ws).foldl (fun c w=>j6 c (bF w)) g))),(4,.row .own 1 (ws.map eS)),(5,.int .i64 (ws).length),(15,.bool false)]):=by
 refine Dd (f:=aj (ev LI TT) (av TT) kH) (ws) (fun i (g : Cc)=>[(2,.ptr .own (dO dz)),(3,.ptr .own (dO g)),(4,.row .own 1 (ws.map eS)),(5,.int .i64 i)]) (fun c w=>j6 c (bF w)) (fun g=>[(2,.ptr .own (dO dz)),(3,.ptr .own (dO g)),(4,.row .own 1 (ws.map eS)),(5,.int .i64 (ws).length),(15,.bool false)]) (fun _ _=>True) g trivial (fun i b g hi hl _=>?_) (fun _ _ _ _ _=>trivial) (fun g _=>?_)
 ·have hw:=aY i (by first | omega | (simp at hl; omega))
  obtain ⟨_,rfl⟩:=List.getElem?_eq_some_iff.1 hi
  obtain ⟨t1,t2,t3,t4,t5⟩:=Dp
  have hx:=hb _ (List.getElem_mem hl)
  have v1:=E1 ws[i] hx
  have v2 : (bF ws[i]).length≤1073741824:=by simp [bF]; exact hx
  generalize bF ws[i] = w at v1 v2
  have v3:=Mm w v2
  try simp at v1
  try simp at v3
  unfold j6
  by_cases g1 : w = uR
  ·simp -implicitDefEqProofs [kH,nD,hl,hw,v1,v3,t1,eq_true g1,dz]
  by_cases g2 : w = uQ
  ·simp -implicitDefEqProofs [kH,nD,hl,hw,v1,v3,t1,t2,eq_false g1,eq_true g2,dz]
  by_cases g3 : w = uS
  ·simp -implicitDefEqProofs [kH,nD,hl,hw,v1,v3,t1,t2,t3,eq_false g1,eq_false g2,eq_true g3,dz]
  by_cases g4 : w = uP
  ·simp -implicitDefEqProofs [kH,nD,hl,hw,v1,v3,t1,t2,t3,t4,eq_false g1,eq_false g2,eq_false g3,eq_true g4,dz]
  cases ha : pU w with
  | none =>
   rw [ha] at v3
   simp at v3
   simp -implicitDefEqProofs [kH,nD,hl,hw,v1,v3,t1,t2,t3,t4,eq_false g1,eq_false g2,eq_false g3,eq_false g4,dz]
  | some n =>
  rw [ha] at v3
  simp at v3
  cases gh : g.ha
  all_goals
  simp -implicitDefEqProofs [kH,nD,hl,hw,v1,v3,t1,t2,t3,t4,eq_false g1,eq_false g2,eq_false g3,eq_false g4,gh,dz]
  all_goals (repeat' split) <;> first | rfl | omega | (simp_all; done) | (simp_all; omega) | skip
 ·simp -implicitDefEqProofs [kH,nD]
theorem L5 (v : ah) (hb : v.length≤1073741824) : ev LI TT 163 [.str ⟨v.toArray⟩] = some (.agg (dO (nV v)),[.dead]):=by
 rw [ay (b:=zm) (rs:=[.c 2 6 true 122]) (n:=1) rfl rfl]
 have hm:=Al v
 have hn:=vK v
 have u1:=E5  v hb
 try simp at u1
 have u2:=JS  (eY v) (by omega) (fun w hw=>by have:=hm w hw; omega) dz
 try simp at u2
 rw [show (eY v).foldl (fun c w=>j6 c (bF w)) dz = nV v from rfl] at u2
 simp [dz] at u2
 simp -implicitDefEqProofs [zm,u1,u2,dz]
 all_goals (repeat' split) <;> first | rfl | omega | (simp_all; done) | (simp_all; omega) | skip
theorem AM (fs : List aG) (hb : wL aI fs≤1073741824) : ev LI TT 71 [.row .af 2 (fs.map aD)] = some (.agg (dO (gN fs)),[.dead]):=by
 rw [ay (b:=zk) (rs:=[.c 2 6 true 122]) (n:=1) rfl rfl]
 have hfl:=bw (w:=aI) fs
 have hg:=n8 fs jM
 have t3 : (⟨#[99,97,99,104,101,45,99,111,110,116,114,111,108]⟩ : ByteArray) = ⟨jM.toArray⟩:=rfl
 have u1:=su  fs jM (by omega)
 try simp at u1
 have u2:=L5  ((ct fs jM).getD []) (by omega)
 try simp at u2
 rw [show nV ((ct fs jM).getD []) = gN fs from rfl] at u2
 simp -implicitDefEqProofs [zk,u1,u2,t3]
 all_goals (repeat' split) <;> first | rfl | omega | (simp_all; done) | (simp_all; omega) | skip
theorem MF {w : ah} (h : w = uR∨w = uQ∨w = uS∨w = uP) : Lib.hasPrefix w iH = false:=by
 rcases h with rfl | rfl | rfl | rfl <;> decide
theorem KO (c : Cc) (w : ah) (hb : w.length≤1073741824) : ev LI TT 298 [.ptr .own (dO c),.str ⟨w.toArray⟩] = some (.ak [],[.ptr .own (dO (j6 c w)),.dead]):=by
 rw [ay (b:=lF) (rs:=[]) (n:=2) rfl rfl]
 obtain ⟨t1,t2,t3,t4,t5⟩:=Dp
 have v3:=Mz w iH (by omega)
 have hword:=MF (w:=w)
 unfold j6
 by_cases g1 : w = uR
 ·rw [hword (Or.inl g1)] at v3
  simp -implicitDefEqProofs [lF,v3,t1,t5,eq_true g1]
 by_cases g2 : w = uQ
 ·rw [hword (by simp [g2])] at v3
  simp -implicitDefEqProofs [lF,v3,t1,t2,t5,eq_false g1,eq_true g2]
 by_cases g3 : w = uS
 ·rw [hword (by simp [g3])] at v3
  simp -implicitDefEqProofs [lF,v3,t1,t2,t3,t5,eq_false g1,eq_false g2,eq_true g3]
 by_cases g4 : w = uP
 ·rw [hword (by simp [g4])] at v3
  simp -implicitDefEqProofs [lF,v3,t1,t2,t3,t4,t5,eq_false g1,eq_false g2,eq_false g3,eq_true g4]
 unfold pU
 cases hp : Lib.hasPrefix w iH
 ·rw [hp] at v3
  simp -implicitDefEqProofs [lF,v3,t1,t2,t3,t4,t5,eq_false g1,eq_false g2,eq_false g3,eq_false g4]
 rw [hp,show Lib.trimPrefix w iH = w.drop 8 by unfold Lib.trimPrefix; rw [hp]; rfl] at v3
 have v4:=EN (w.drop 8) (by simp; omega)
 try simp at v3
 try simp at v4
 generalize (cz (w.drop 8)).getD 0 = n at v4
 cases gh : c.ha
 all_goals
 simp -implicitDefEqProofs [lF,v3,v4,t1,t2,t3,t4,t5,eq_false g1,eq_false g2,eq_false g3,eq_false g4,gh]
 all_goals (repeat' split) <;> first | rfl | omega | (simp_all; done) | (simp_all; omega) | skip
theorem Jg (ws : List ah) (hl0 : ws.length≤1073741825) (hb : ∀ w∈ws,w.length≤1073741824) (g : Cc) : aJ (aj (ev LI TT) (av TT) tI) [(2,.ptr .own (dO dz)),(3,.ptr .own (dO g)),(7,.row .own 1 (ws.map eS)),(8,.int .i64 ws.length),(9,.int .i64 0)] = some (.exit 0,[(2,.ptr .own (dO dz)),(3,.ptr .own (dO ((ws).foldl (fun c w=>j6 c (bF w)) g))),(7,.row .own 1 (ws.map eS)),(8,.int .i64 ws.length),(9,.int .i64 (ws).length),(10,.bool false)]):=by
 refine Dd (f:=aj (ev LI TT) (av TT) tI) (ws) (fun i (g : Cc)=>[(2,.ptr .own (dO dz)),(3,.ptr .own (dO g)),(7,.row .own 1 (ws.map eS)),(8,.int .i64 ws.length),(9,.int .i64 i)]) (fun c w=>j6 c (bF w)) (fun g=>[(2,.ptr .own (dO dz)),(3,.ptr .own (dO g)),(7,.row .own 1 (ws.map eS)),(8,.int .i64 ws.length),(9,.int .i64 (ws).length),(10,.bool false)]) (fun _ _=>True) g trivial (fun i b g hi hl _=>?_) (fun _ _ _ _ _=>trivial) (fun g _=>?_)
 ·have hw:=aY i (by first | omega | (simp at hl; omega))
  obtain ⟨_,rfl⟩:=List.getElem?_eq_some_iff.1 hi
  have hx:=hb _ (List.getElem_mem hl)
  have v1:=EM ws[i] hx
  have v2 : (bF ws[i]).length≤1073741824:=by simp [bF]; exact hx
  have v3:=KO g (bF ws[i]) v2
  try simp at v1
  try simp at v3
  simp -implicitDefEqProofs [tI,Cj,hl,hw,v1,v3,dz]
  all_goals (repeat' split) <;> first | rfl | omega | (simp_all; done) | (simp_all; omega) | skip
 ·simp -implicitDefEqProofs [tI,Cj]
theorem KN (v : ah) (hb : v.length≤1073741824) : ev LI TT 239 [.str ⟨v.toArray⟩] = some (.agg (dO (nV v)),[.dead]):=by
 rw [ay (b:=xC) (rs:=[.c 2 6 true 122]) (n:=1) rfl rfl]
 have hm:=Al v
 have hn:=vK v
 have u1:=EP  v hb
 try simp at u1
 have u2:=Jg  (eY v) (by omega) (fun w hw=>by have:=hm w hw; omega) dz
 try simp at u2
 rw [show (eY v).foldl (fun c w=>j6 c (bF w)) dz = nV v from rfl] at u2
 simp [dz] at u2
 simp -implicitDefEqProofs [xC,u1,u2,dz]
 all_goals (repeat' split) <;> first | rfl | omega | (simp_all; done) | (simp_all; omega) | skip
theorem wu (fs : List aG) (hb : wL aI fs≤1073741824) : ev LI TT 152 [.row .af 2 (fs.map aD)] = some (.agg (dO (gN fs)),[.dead]):=by
 rw [ay (b:=xB) (rs:=[.c 2 6 true 122]) (n:=1) rfl rfl]
 have hfl:=bw (w:=aI) fs
 have hg:=n8 fs jM
 have t3 : (⟨#[99,97,99,104,101,45,99,111,110,116,114,111,108]⟩ : ByteArray) = ⟨jM.toArray⟩:=rfl
 have u1:=sn  fs jM (by omega)
 try simp at u1
 have u2:=KN  ((ct fs jM).getD []) (by omega)
 try simp at u2
 rw [show nV ((ct fs jM).getD []) = gN fs from rfl] at u2
 simp -implicitDefEqProofs [xB,u1,u2,t3]
 all_goals (repeat' split) <;> first | rfl | omega | (simp_all; done) | (simp_all; omega) | skip
end M
set_option maxHeartbeats 4000000
namespace M
open Go
variable [Lb]
theorem Mg (q : Rq) (hb : cx q≤1073741824) : ev LI TT 70 [.agg (cw .af q)] = some (.bool (oR q),[.dead]):=by
 rw [ay (b:=rH) (rs:=[.t 2]) (n:=1) rfl rfl]
 have xu : cx q = q.path.length + wL aI q.fields + q.body.length:=rfl
 unfold oR
 have u1:=AQ  q.path (by omega)
 try simp at u1
 have u2:=E0  q.fields (by omega)
 try simp at u2
 by_cases g1 : 1≤q.method
 rotate_left
 ·simp -implicitDefEqProofs [rH,u1,u2,eq_false g1]
 by_cases g2 : q.method≤4
 rotate_left
 ·simp -implicitDefEqProofs [rH,u1,u2,eq_true g1,eq_false g2]
 cases g3 : gG q.path <;> cases g4 : ld q.fields <;> rw [g3] at u1 <;> rw [g4] at u2
 all_goals
 simp -implicitDefEqProofs [rH,u1,u2,eq_true g1,eq_true g2]
 all_goals (repeat' split) <;> first | rfl | omega | (simp_all; done) | (simp_all; omega) | skip
theorem KX (q : Rq) (hb : cx q≤1073741824) : ev LI TT 231 [.agg (cw .af q)] = some (.bool (oR q),[.dead]):=by
 rw [ay (b:=qA) (rs:=[.t 2]) (n:=1) rfl rfl]
 have xu : cx q = q.path.length + wL aI q.fields + q.body.length:=rfl
 unfold oR
 have u1:=AG  q.path (by omega)
 try simp at u1
 have u2:=EL  q.fields (by omega)
 try simp at u2
 by_cases g1 : 1≤q.method
 rotate_left
 ·simp -implicitDefEqProofs [qA,u1,u2,eq_false g1]
 by_cases g2 : q.method≤4
 rotate_left
 ·simp -implicitDefEqProofs [qA,u1,u2,eq_true g1,eq_false g2]
 cases g3 : gG q.path <;> cases g4 : ld q.fields <;> rw [g3] at u1 <;> rw [g4] at u2
 all_goals
 simp -implicitDefEqProofs [qA,u1,u2,eq_true g1,eq_true g2]
 all_goals (repeat' split) <;> first | rfl | omega | (simp_all; done) | (simp_all; omega) | skip
def jY (q : Rq) : Bool:=oR q && decide (q.method = 1) && !(gN q.fields).ns
theorem Ld (q : Rq) (hb : cx q≤1073741824) : ev LI TT 168 [.agg (cw .af q)] = some (.bool (jY q),[.dead]):=by
 rw [ay (b:=xZ) (rs:=[.t 2]) (n:=1) rfl rfl]
 have xu : cx q = q.path.length + wL aI q.fields + q.body.length:=rfl
 unfold jY
 have u1:=KX  q hb
 try simp at u1
 have u2:=wu  q.fields (by omega)
 try simp at u2
 cases g3 : oR q <;> rw [g3] at u1
 all_goals by_cases g4 : q.method = 1
 all_goals
 simp -implicitDefEqProofs [xZ,u1,u2,g4]
 all_goals (repeat' split) <;> first | rfl | omega | (simp_all; done) | (simp_all; omega) | skip
end M
set_option maxHeartbeats 4000000
namespace M
open Go
variable [Lb]
end M
set_option maxHeartbeats 4000000
namespace M
open Go
variable [Lb]
end M
namespace M
open Go
variable [Lb]
end M
set_option maxHeartbeats 4000000
namespace M
open Go
variable [Lb]
end M
set_option maxHeartbeats 4000000
namespace M
open Go
variable [Lb]
def n7 (fs : List aG) (t now : Int) : Bool:=decide (nO fs t now < (gN fs).mj) && !(gN fs).nc
theorem Mc (fs : List aG) (hb : wL aI fs≤1073741824) : ev LI TT 165 [.row .af 2 (fs.map aD)] = some (.int .i64 ((gN fs).mj),[.dead]):=by
 rw [ay (b:=zv) (rs:=[.t 2]) (n:=1) rfl rfl]
 have u1:=AM  fs hb
 try simp at u1
 simp -implicitDefEqProofs [zv,u1]
 all_goals (repeat' split) <;> first | rfl | omega | (simp_all; done) | (simp_all; omega) | skip
theorem KV (fs : List aG) (hb : wL aI fs≤1073741824) : ev LI TT 241 [.row .af 2 (fs.map aD)] = some (.int .i64 ((gN fs).mj),[.dead]):=by
 rw [ay (b:=xH) (rs:=[.t 2]) (n:=1) rfl rfl]
 have u1:=wu  fs hb
 try simp at u1
 simp -implicitDefEqProofs [xH,u1]
 all_goals (repeat' split) <;> first | rfl | omega | (simp_all; done) | (simp_all; omega) | skip
theorem L9 (fs : List aG) (t : Int) (now : Int) (hb : wL aI fs≤100000000) (h3 : bI t) (h4 : bI now) : ev LI TT 72 [.row .af 2 (fs.map aD),.int .i64 t,.int .i64 now] = some (.bool (n7 fs t now),[.dead,.dead,.dead]):=by
 rw [ay (b:=zq) (rs:=[.t 6]) (n:=3) rfl rfl]
 have hfl:=bw (w:=aI) fs
 unfold n7
 have u1:=L4  fs t now (by omega) h3 h4
 try simp at u1
 have u2:=Mc  fs (by omega)
 try simp at u2
 have u3:=AM  fs (by omega)
 try simp at u3
 by_cases g : nO fs t now < (gN fs).mj
 all_goals
 simp -implicitDefEqProofs [zq,u1,u2,u3,g]
 all_goals (repeat' split) <;> first | rfl | omega | (simp_all; done) | (simp_all; omega) | skip
theorem KS (fs : List aG) (t : Int) (now : Int) (hb : wL aI fs≤100000000) (h3 : bI t) (h4 : bI now) : ev LI TT 153 [.row .af 2 (fs.map aD),.int .i64 t,.int .i64 now] = some (.bool (n7 fs t now),[.dead,.dead,.dead]):=by
 rw [ay (b:=xF) (rs:=[.t 6]) (n:=3) rfl rfl]
 have hfl:=bw (w:=aI) fs
 unfold n7
 have u1:=KM  fs t now (by omega) h3 h4
 try simp at u1
 have u2:=KV  fs (by omega)
 try simp at u2
 have u3:=wu  fs (by omega)
 try simp at u3
 by_cases g : nO fs t now < (gN fs).mj
 all_goals
 simp -implicitDefEqProofs [xF,u1,u2,u3,g]
 all_goals (repeat' split) <;> first | rfl | omega | (simp_all; done) | (simp_all; omega) | skip
end M
set_option maxHeartbeats 4000000
namespace M
open Go
variable [Lb]
class Fd extends Lb where
 f : ∀ (s : Sh) (q : Rq),bP s≤1073741824→cx q≤1073741824→L 93 [.ptr .af (bk .af s),.agg (cw .af q)] = some (qg l7 jD s q,[.dead,.dead])
theorem NO {s : Sh} {q : Rq} {o : Ob} (h : cl s q = some o) : jm s = true∧∃ k∈s.au,k.obj = o∧qd s q k = true:=by
 unfold cl at h
 split at h
 ·rename_i hok
  unfold qc at h
  obtain ⟨k,hk,rfl⟩:=Option.map_eq_some_iff.1 h
  exact ⟨hok,k,by have:=List.mem_of_find?_eq_some hk; simpa using this,rfl,List.find?_some hk⟩
 ·cases h
theorem UJ {s : Sh} (h : jm s = true) {k : Kp} (hk : k∈s.au) : iI k.obj = true:=by
 unfold jm at h
 simp only [Bool.and_eq_true] at h
 have:=h.2
 unfold rm at this
 obtain ⟨i,hi,rfl⟩:=List.getElem_of_mem hk
 have h2:=kS.1 this (s.au[i],i) (List.mem_of_getElem? (i:=i) (by simp [hi]))
 unfold ni at h2
 simp only [Bool.and_eq_true] at h2
 exact h2.1.1.1.1
theorem Bm {s : Sh} {q : Rq} : bI ((cl s q).getD bx).t∧bG ((cl s q).getD bx)≤bP s:=by
 cases h : cl s q with
 | none=>exact ⟨by unfold bI; simp [bx],by simp [bx,bG,cj,wL]⟩
 | some o =>
  obtain ⟨h1,k,h2,rfl,_⟩:=NO h
  have h3:=UJ h1 h2
  have h4:=vI h2
  unfold iI at h3
  simp only [Bool.and_eq_true,decide_eq_true_eq] at h3
  have h5 : bP s = cH s.bz + wL bt s.au + wL aN s.aP:=rfl
  refine ⟨?_,?_⟩
  ·unfold bI
   simp only [Option.getD_some]
   have:=h3.1.1.1.1.2
   omega
  ·simp only [Option.getD_some]
   omega
end M
set_option maxHeartbeats 4000000
namespace M
open Go
variable [Fd]
theorem K0 (s : Sh) (q : Rq) (hs : bP s≤1073741824) (hq : cx q≤1073741824) : ev LI TT 93 [.ptr .af (bk .af s),.agg (cw .af q)] = some (.ak [.agg (bu .own ((qc s q).getD bx)),.bool (qc s q).isSome],[.dead,.dead]):=by
 rw [mL rfl]
 exact Fd.f s q hs hq
theorem KR (s : Sh) (q : Rq) (hs : bP s≤100000000) (hq : cx q≤100000000) : ev LI TT 32 [.agg (bk .af s),.agg (cw .af q)] = some (.ak [.agg (bu .own ((cl s q).getD bx)),.bool ((cl s q).isSome)],[.dead,.dead]):=by
 rw [ay (b:=tK) (rs:=[.c 4 7 true 61,.t 5]) (n:=2) rfl rfl]
 have u1:=KZ  s (by omega)
 try simp at u1
 have u2:=K0  s q (by omega) (by omega)
 try simp at u2
 unfold cl
 cases hok : jm s
 ·rw [hok] at u1
  try simp at u1
  simp -implicitDefEqProofs [tK,u1,bx]
 rw [hok] at u1
 try simp at u1
 cases hf : qc s q <;> rw [hf] at u2 <;> simp [bx] at u2
 all_goals
 simp -implicitDefEqProofs [tK,u1,u2,bx]
 all_goals (repeat' split) <;> first | rfl | omega | (simp_all; done) | (simp_all; omega) | skip
end M
set_option maxHeartbeats 4000000
namespace M
open Go
variable [Fd]
def j8 (q : Rq) (o : Ob) (found : Bool) (now : Int) : Int:=if jY q = true then (if found = true then (if (n7 o.resp.fields o.t now && !(gN q.fields).nc) = true then 2 else 3) else 4) else 1
def wE (s : Sh) (q : Rq) (now : Int) : Int:=j8 q ((cl s q).getD bx) (cl s q).isSome now
def iu (s : Sh) (q : Rq) (now : Int) : Ob:=if jY q = true then (cl s q).getD bx else bx
theorem M5 (q : Rq) (o : Ob) (f : Bool) (now : Int) : (j8 q o f now = 1∧jY q = false)∨(j8 q o f now = 4∧jY q = true∧f = false)∨((j8 q o f now = 2∨j8 q o f now = 3)∧jY q = true∧f = true):=by
 unfold j8
 cases jY q <;> cases f <;> simp
theorem La (q : Rq) (o : Ob) (f : Bool) (now : Int) (hq : cx q≤100000000) (ho : bG o≤100000000) (h3 : bI o.t) (h4 : bI now) : ev LI TT 76 [.agg (cw .af q),.agg (bu .af o),.bool f,.int .i64 now] = some (.int .i64 (j8 q o f now),[.dead,.dead,.dead,.dead]):=by
 rw [ay (b:=ox) (rs:=[.t 8]) (n:=4) rfl rfl]
 have hw : bG o = o.path.length + wL wS o.names + wL wS o.values + cj o.resp:=rfl
 have lC : cj o.resp = wL aI o.resp.fields + o.resp.body.length:=rfl
 have Cf : cx q = q.path.length + wL aI q.fields + q.body.length:=rfl
 unfold j8
 have u1:=Ld  q (by omega)
 try simp at u1
 have u2:=KS  o.resp.fields o.t now (by omega) h3 h4
 try simp at u2
 have u3:=wu  q.fields (by omega)
 try simp at u3
 generalize jY q = b1 at u1
 generalize n7 o.resp.fields o.t now = b2 at u2
 generalize gN q.fields = cc at u3
 obtain ⟨c1,c2,c3,c4,c5,c6⟩:=cc
 try simp only at u3
 cases b1
 ·simp -implicitDefEqProofs [ox,u1]
 cases f
 ·simp -implicitDefEqProofs [ox,u1]
 cases b2
 ·simp -implicitDefEqProofs [ox,u1,u2,u3]
 cases c2
 all_goals
 simp -implicitDefEqProofs [ox,u1,u2,u3]
 all_goals (repeat' split) <;> first | rfl | omega | (simp_all; done) | (simp_all; omega) | skip
theorem L6 (s : Sh) (q : Rq) (now : Int) (hs : bP s≤100000000) (hq : cx q≤100000000) (h4 : bI now) : ev LI TT 20 [.agg (bk .af s),.agg (cw .af q),.int .i64 now] = some (.ak [.int .i64 (wE s q now),.agg (bu .own (iu s q now))],[.dead,.dead,.dead]):=by
 rw [ay (b:=lZ) (rs:=[.t 6,.c 7 7 true 61]) (n:=3) rfl rfl]
 have Cf : cx q = q.path.length + wL aI q.fields + q.body.length:=rfl
 obtain ⟨B2,how⟩:=Bm (s:=s) (q:=q)
 have hw : bG ((cl s q).getD bx) = ((cl s q).getD bx).path.length + wL wS ((cl s q).getD bx).names + wL wS ((cl s q).getD bx).values + cj ((cl s q).getD bx).resp:=rfl
 have lC : cj ((cl s q).getD bx).resp = wL aI ((cl s q).getD bx).resp.fields + ((cl s q).getD bx).resp.body.length:=rfl
 unfold wE iu j8 jY
 have u1:=Mg  q (by omega)
 try simp at u1
 have u2:=AM  q.fields (by omega)
 try simp at u2
 have u3:=L8  s q hs hq
 try simp at u3
 have u4:=L9  ((cl s q).getD bx).resp.fields ((cl s q).getD bx).t now (by omega) B2 h4
 try simp at u4
 generalize oR q = b1 at u1
 have hnone : (cl s q).isSome = false→(cl s q).getD bx = bx:=fun h=>by cases hq : cl s q with | none=>rfl | some o=>rw [hq] at h; cases h
 generalize (cl s q).isSome = bf at u3 hnone
 generalize (cl s q).getD bx = o at u3 u4 hnone
 generalize n7 o.resp.fields o.t now = b2 at u4
 generalize gN q.fields = cc at u2
 obtain ⟨c1,c2,c3,c4,c5,c6⟩:=cc
 try simp only at u2
 cases b1
 ·simp -implicitDefEqProofs [lZ,u1,bx]
 by_cases g1 : q.method = 1
 rotate_left
 ·simp -implicitDefEqProofs [lZ,u1,g1,bx]
 rw [g1] at u1 u3
 cases c1
 rotate_left
 ·simp -implicitDefEqProofs [lZ,u1,u2,g1,bx]
 cases bf
 ·rw [hnone rfl] at u3 ⊢
  try simp [bx] at u3
  simp -implicitDefEqProofs [lZ,u1,u2,u3,g1,bx]
 cases b2
 ·simp -implicitDefEqProofs [lZ,u1,u2,u3,u4,g1,bx]
 cases c2
 all_goals
 simp -implicitDefEqProofs [lZ,u1,u2,u3,u4,g1,bx]
 all_goals (repeat' split) <;> first | rfl | omega | (simp_all; done) | (simp_all; omega) | skip
theorem KP (s : Sh) (q : Rq) (now : Int) (hs : bP s≤100000000) (hq : cx q≤100000000) (h4 : bI now) : ev LI TT 23 [.agg (bk .af s),.agg (cw .af q),.int .i64 now] = some (.ak [.int .i64 (wE s q now),.agg (bu .own (iu s q now))],[.dead,.dead,.dead]):=by
 rw [ay (b:=qy) (rs:=[.t 6,.c 7 7 true 61]) (n:=3) rfl rfl]
 obtain ⟨B2,how⟩:=Bm (s:=s) (q:=q)
 have hcs:=M5 q ((cl s q).getD bx) (cl s q).isSome now
 unfold wE iu
 have u1:=KR  s q hs hq
 try simp at u1
 have u2:=La  q ((cl s q).getD bx) (cl s q).isSome now hq (by omega) B2 h4
 try simp at u2
 generalize j8 q ((cl s q).getD bx) (cl s q).isSome now = dc at u2 hcs
 have hnone : (cl s q).isSome = false→(cl s q).getD bx = bx:=fun h=>by cases hq : cl s q with | none=>rfl | some o=>rw [hq] at h; cases h
 generalize (cl s q).isSome = bf at u1 u2 hcs hnone
 generalize (cl s q).getD bx = o at u1 u2 hnone
 rcases hcs with ⟨rfl,ha⟩ | ⟨rfl,ha,rfl⟩ | ⟨rfl | rfl,ha,rfl⟩
 ·simp -implicitDefEqProofs [qy,u1,u2,ha,bx]
 ·rw [hnone rfl] at u1 u2 ⊢
  try simp [bx] at u1
  try simp [bx] at u2
  simp -implicitDefEqProofs [qy,u1,u2,ha,bx]
 all_goals
 simp -implicitDefEqProofs [qy,u1,u2,ha,bx]
 all_goals (repeat' split) <;> first | rfl | omega | (simp_all; done) | (simp_all; omega) | skip
end M
set_option maxHeartbeats 4000000
namespace M
open Go
variable [Fd]
theorem Ng (s : Sh) (q : Rq) (now : Int) : bG (iu s q now)≤bP s:=by
 unfold iu
 split
 ·exact (Bm (s:=s) (q:=q)).2
 ·simp [bx,bG,cj,wL]
theorem aay (a0 : Sh) (k0 : sj a0) (a1 : Rq) (k1 : mz a1) (a2 : Int) (k2 : bI a2) : ∃ ps,ev LI TT 5 [.agg (bk .sl a0),.agg (cw .sl a1),.int .i64 a2] = some (.bool true,ps):=by
 rw [ay (b:=qI) (rs:=[.t 6]) (n:=3) rfl rfl]
 have s0:=LO a0 1048576 k0 (by omega) (by omega)
 have w0:=cu 1048576 (bP a0)
 obtain ⟨m0,e0⟩ : ∃ m,m = aF 1048576 (bP a0):=⟨_,rfl⟩
 rw [← e0] at s0 w0
 try simp at s0
 by_cases z0 : m0 < 0
 ·simp -implicitDefEqProofs [qI,s0,z0]
 have s1:=LM a1 m0 k1 (by omega) (by omega)
 have w1:=cu m0 (cx a1)
 obtain ⟨m1,e1⟩ : ∃ m,m = aF m0 (cx a1):=⟨_,rfl⟩
 rw [← e1] at s1 w1
 try simp at s1
 by_cases z1 : m1 < 0
 ·simp -implicitDefEqProofs [qI,s0,z0,s1,z1]
 have t0:=L1 a0 (by omega)
 try simp at t0
 have q0:=Lp a0 a0 (by omega)
 try simp at q0
 have t1:=LZ a1 (by omega)
 try simp at t1
 have q1:=Ln a1 a1 (by omega)
 try simp at q1
 have hS:=L6 a0 a1 a2 (by omega) (by omega) k2
 have hI:=KP a0 a1 a2 (by omega) (by omega) k2
 try simp at hS
 try simp at hI
 have b1 : bG (iu a0 a1 a2)≤1073741824:=(by have:=Ng a0 a1 a2; omega)
 have r1:=EV (iu a0 a1 a2) (iu a0 a1 a2) (by omega)
 try simp at r1
 have YJ:=Ve a0
 have Dh:=LB a0 1 (by omega) (by omega)
 obtain ⟨K1,hK1⟩ : ∃ x : Int,1 + ((kM a0 : Nat) : Int) = x:=⟨_,rfl⟩
 rw [hK1] at Dh
 try simp at Dh
 have YK:=Vc a1
 have Di:=Lz a1 K1 (by omega) (by omega)
 obtain ⟨K2,Q0⟩ : ∃ x : Int,K1 + ((kL a1 : Nat) : Int) = x:=⟨_,rfl⟩
 rw [Q0] at Di
 try simp at Di
 have hKn : ¬ K2 < 0:=by omega
 have Zk:=Vb (iu a0 a1 a2)
 have Dk:=Ly (iu a0 a1 a2) 1 (by omega) (by omega)
 have B7:=Lt (iu a0 a1 a2) 1 (by omega) (by omega)
 obtain ⟨R1,Q1⟩ : ∃ x : Int,1 + ((jV (iu a0 a1 a2) : Nat) : Int) = x:=⟨_,rfl⟩
 rw [Q1] at Dk B7
 try simp at Dk
 try simp at B7
 have Q2 : ¬ R1 < 0:=by omega
 simp -implicitDefEqProofs [qI,CG,CH,CI,CJ,CK,CL,s0,z0,s1,z1,t0,q0,t1,q1,hS,hI,r1,Dh,Di,hKn,Dk,B7,Q2,ny,fD,kf,iJ]
end M
