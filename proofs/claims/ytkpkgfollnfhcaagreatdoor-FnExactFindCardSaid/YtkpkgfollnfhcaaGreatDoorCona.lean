/- What the functions come to in the machine; no conditions. -/
import Derived.Test.YtkpkgfollnfhcaaGreatDoorTab
import Derived.Test.YtkpkgfollnfhcaaGreatDoorMc
set_option linter.unusedSectionVars false
set_option linter.unusedVariables false
set_option linter.unusedSimpArgs false
namespace M
open Go
variable [Lb]
theorem HF (l : List ah) (hlen : l.length≤9223372036854775807) (hb : bL bS l) (n : Int) (hn : 0≤n) (hm : n≤9223372036854775807) : aK (aq (ev LI TT) (av TT) pT) [(0,.row .af 1 (l.map (eS))),(1,.int .i64 n),(5,.int .i64 0)] = if dX (fun b n=>aF n (wS b)) (l) n < 0 then some (.ret,[(4,.int .i64 (-1))]) else some (.exit 0,[(0,.row .af 1 (l.map (eS))),(1,.int .i64 (dX (fun b n=>aF n (wS b)) (l) n)),(5,.int .i64 (l).length),(15,.bool false)]):=by
 refine tj (f:=aq (ev LI TT) (av TT) pT) (l) (fun i n=>[(0,.row .af 1 (l.map (eS))),(1,.int .i64 n),(5,.int .i64 i)]) (fun b n=>aF n (wS b)) _ (fun n=>[(0,.row .af 1 (l.map (eS))),(1,.int .i64 n),(5,.int .i64 (l).length),(15,.bool false)]) n hn hm (fun b n=>um _ n) (fun i b n hi hl hn hm=>?_) (fun n=>?_)
 ·have hw:=bl i (by first | omega | (simp at hl; omega))
  obtain ⟨_,rfl⟩:=List.getElem?_eq_some_iff.1 hi
  have h1 : (l[i]).length≤9223372036854775807:=hb.2 _ (List.getElem_mem hl)
  have h3:=cl n (wS l[i])
  have h4 : wS l[i] = (l[i]).length:=rfl
  obtain ⟨m,e1⟩ : ∃ m,m = n - ((l[i]).length : Int):=⟨_,rfl⟩
  have h2 : IntKind.i64.wrap (n - ((l[i]).length : Int)) = m:=by rw [e1]; exact bU (by omega) (by omega)
  by_cases h5 : m < 0
  ·have ef : aF n (wS l[i]) = -1:=by omega
   simp -implicitDefEqProofs [pT,w8,hl,hw,h2,h5,ef]
  have ef : aF n (wS l[i]) = m:=by omega
  simp -implicitDefEqProofs [pT,w8,hl,hw,h2,h5,ef]
 ·simp -implicitDefEqProofs [pT,w8]
theorem yP (l : List ah) (n : Int) (hb : bL bS l) (hn : 0≤n) (hm : n≤9223372036854775807) : ev LI TT 105 [.row .af 1 (l.map (eS)),.int .i64 n] = some (.int .i64 (aF n (wL wS l)),[.dead,.dead]):=by
 rw [aA (b:=pU) (rs:=[.t 4]) (n:=2) rfl rfl]
 have hl:=hb.1
 have hw : wL wS l = l.length + (l.map wS).sum:=rfl
 have ht:=cl n (wL wS l)
 obtain ⟨m,e1⟩ : ∃ m,m = n - (l.length : Int):=⟨_,rfl⟩
 have h2 : IntKind.i64.wrap (n - (l.length : Int)) = m:=by rw [e1]; exact bU (by omega) (by omega)
 by_cases h : m < 0
 ·have ef : aF n (wL wS l) = -1:=by omega
  simp -implicitDefEqProofs [pU,h2,h,ef]
 have h3:=HF  l hb.1 hb m (by omega) (by omega)
 rw [qt _ _ _ (by omega)] at h3
 have hs:=cl m (l.map wS).sum
 obtain ⟨q,e2⟩ : ∃ q,q = aF m (l.map wS).sum:=⟨_,rfl⟩
 rw [← e2] at h3 hs
 try simp at h3
 by_cases h4 : q < 0
 ·have ef : aF n (wL wS l) = -1:=by omega
  simp only [h4,if_true] at h3
  simp -implicitDefEqProofs [pU,h2,h,h3,ef]
 have ef : aF n (wL wS l) = q:=by omega
 simp only [h4,if_false] at h3
 simp -implicitDefEqProofs [pU,h2,h,h3,ef]
 all_goals (repeat' split) <;> first | rfl | omega | (simp_all; done) | (simp_all; omega) | skip
theorem HK (l : List ah) (hlen : l.length≤1048576) (hb : wL wS l≤1048576) : aK (aq (ev LI TT) (av TT) s9) [(0,.row .af 1 (l.map eS)),(3,.row .own 1 (dx (l.map eS) 0 [.str ⟨#[]⟩])),(4,.int .i64 0),(6,.int .i64 l.length)] = some (.exit 0,[(0,.row .af 1 (l.map eS)),(3,.row .own 1 (l.map eS)),(4,.int .i64 (l).length),(6,.int .i64 l.length),(11,.bool false)]):=by
 refine gH (f:=aq (ev LI TT) (av TT) s9) (l) (fun i=>[(0,.row .af 1 (l.map eS)),(3,.row .own 1 (dx (l.map eS) i [.str ⟨#[]⟩])),(4,.int .i64 i),(6,.int .i64 l.length)]) _ (fun i b hi hl=>?_) ?_
 ·have hw:=bl i (by first | omega | (simp at hl; omega))
  obtain ⟨_,rfl⟩:=List.getElem?_eq_some_iff.1 hi
  skip
  simp -implicitDefEqProofs [s9,Bu,hl,hw]
  first | done | (rw [jF _ _ _ _ (by simpa using hl) (by simp)]; done) | (simp only [jT]; rw [jF _ _ _ _ (by simpa using hl) (by simp)])
 ·simp -implicitDefEqProofs [s9,Bu]
theorem yQ (l : List ah) (hb : wL wS l≤1048576) : ev LI TT 111 [.row .af 1 (l.map eS)] = some (.row .own 1 (l.map eS),[.dead]):=by
 rw [aA (b:=xp) (rs:=[.t 2]) (n:=1) rfl rfl]
 have hlen:=bC (w:=wS) l
 have h:=HK  l (by omega) hb
 try simp at h
 simp -implicitDefEqProofs [xp,h,(by omega : (l.length : Int) * 16≤140737488355328)]
 all_goals (repeat' split) <;> first | rfl | omega | (simp_all; done) | (simp_all; omega) | skip
theorem Hs (ps : List (ah×ah)) (hb : ps.length≤9223372036854775807) (dy : ∀ x∈ps,wS x.1≤1073741824) : aK (aq (ev LI TT) (av TT) sK) [(0,.row .af 1 (ps.map (fun x : ah×ah=>eS x.1))),(1,.row .af 1 (ps.map (fun x : ah×ah=>eS x.2))),(5,.int .i64 0)] = if aW cT (ps) = true then some (.exit 0,[(0,.row .af 1 (ps.map (fun x : ah×ah=>eS x.1))),(1,.row .af 1 (ps.map (fun x : ah×ah=>eS x.2))),(5,.int .i64 ps.length),(14,.bool false)]) else some (.ret,[(4,.bool false)]):=by
 refine cV (f:=aq (ev LI TT) (av TT) sK) (ps) (fun i=>[(0,.row .af 1 (ps.map (fun x : ah×ah=>eS x.1))),(1,.row .af 1 (ps.map (fun x : ah×ah=>eS x.2))),(5,.int .i64 i)]) cT _ _ (fun i b hi hl=>?_) ?_
 ·have hw:=bl i (by first | omega | (simp at hl; omega))
  obtain ⟨_,rfl⟩:=List.getElem?_eq_some_iff.1 hi
  simp -implicitDefEqProofs [sK,Bb,hl,hw,cT]
  first | done | (split <;> simp_all)
 ·simp -implicitDefEqProofs [sK,Bb]
theorem yN (a b : List ah) (hb : wL wS a≤1073741824) : ev LI TT 77 [.row .af 1 (a.map eS),.row .af 1 (b.map eS)] = some (.bool (decide (a = b)),[.dead,.dead]):=by
 rw [aA (b:=wM) (rs:=[.t 4]) (n:=2) rfl rfl]
 simp -implicitDefEqProofs [wM]
 have hlen:=bC (w:=wS) a
 by_cases h : a.length = b.length
 ·obtain ⟨ps,rfl,rfl⟩:=ou h
  have h1:=Hs  ps (by simp at hlen; omega) (fun x hx=>Nat.le_trans (gK (List.mem_map_of_mem hx)) hb)
  have h2:=mS ps
  simp at h1
  rw [← h2]
  cases h3 : aW cT ps <;> rw [h3] at h1 <;> simp [h1,Function.comp_def]
 ·have : ¬ a = b:=fun e=>h (by rw [e])
  simp [this]
  omega
theorem JG (a : Wr) (n : Int) (hb : oB a) (hn : 0≤n) (hm : n≤9223372036854775807) : ev LI TT 211 [.agg (eW a),.int .i64 n] = some (.int .i64 (aF n (bZ a)),[.dead,.dead]):=by
 rw [aA (b:=s5) (rs:=[.t 4]) (n:=2) rfl rfl]
 have hw : bZ a = a.text.length:=rfl
 have ht:=cl n (bZ a)
 have l6 : a.text.length≤9223372036854775807:=hb.Pw
 obtain ⟨m1,e1⟩ : ∃ m,m = n - (a.text.length : Int):=⟨_,rfl⟩
 have c1 : IntKind.i64.wrap (n - (a.text.length : Int)) = m1:=by rw [e1]; exact bU (by omega) (by omega)
 by_cases h1 : m1 < 0
 ·have ef : aF n (bZ a) = -1:=by omega
  simp -implicitDefEqProofs [s5,c1,h1,ef]
 have ef : aF n (bZ a) = m1:=by omega
 simp -implicitDefEqProofs [s5,c1,h1,ef]
 all_goals (repeat' split) <;> first | rfl | omega | (simp_all; done) | (simp_all; omega) | skip
theorem JS (a : Wr) (hb : bZ a≤1048576) : ev LI TT 218 [.agg (eW a)] = some (.agg (eW a),[.dead]):=by
 rw [aA (b:=xu) (rs:=[.c 2 2 true 246]) (n:=1) rfl rfl]
 have hw : bZ a = a.text.length:=rfl
 simp -implicitDefEqProofs [xu,hw]
 all_goals (repeat' split) <;> first | rfl | omega | (simp_all; done) | (simp_all; omega) | skip
theorem Ji (a b : Wr) (hb : bZ a≤1073741824) : ev LI TT 227 [.agg (eW a),.agg (eW b)] = some (.bool (decide (a = b)),[.dead,.dead]):=by
 rw [aA (b:=pK) (rs:=[.t 4]) (n:=2) rfl rfl]
 have hw : bZ a = a.text.length:=rfl
 rw [KS]
 by_cases g1 : a.at_ = b.at_
 rotate_left
 ·simp -implicitDefEqProofs [pK,eq_false g1]
 by_cases g2 : a.text = b.text
 rotate_left
 ·simp -implicitDefEqProofs [pK,eq_true g1,eq_false g2]
 simp -implicitDefEqProofs [pK,eq_true g1,eq_true g2]
 all_goals (repeat' split) <;> first | rfl | omega | (simp_all; done) | (simp_all; omega) | skip
theorem HG (l : List Wr) (hlen : l.length≤9223372036854775807) (hb : bL oB l) (n : Int) (hn : 0≤n) (hm : n≤9223372036854775807) : aK (aq (ev LI TT) (av TT) sZ) [(0,.row .af 2 (l.map (eW))),(1,.int .i64 n),(5,.int .i64 0)] = if dX (fun b n=>aF n (bZ b)) (l) n < 0 then some (.ret,[(4,.int .i64 (-1))]) else some (.exit 0,[(0,.row .af 2 (l.map (eW))),(1,.int .i64 (dX (fun b n=>aF n (bZ b)) (l) n)),(5,.int .i64 (l).length),(15,.bool false)]):=by
 refine tj (f:=aq (ev LI TT) (av TT) sZ) (l) (fun i n=>[(0,.row .af 2 (l.map (eW))),(1,.int .i64 n),(5,.int .i64 i)]) (fun b n=>aF n (bZ b)) _ (fun n=>[(0,.row .af 2 (l.map (eW))),(1,.int .i64 n),(5,.int .i64 (l).length),(15,.bool false)]) n hn hm (fun b n=>um _ n) (fun i b n hi hl hn hm=>?_) (fun n=>?_)
 ·have hw:=bl i (by first | omega | (simp at hl; omega))
  obtain ⟨_,rfl⟩:=List.getElem?_eq_some_iff.1 hi
  have h2:=JG  l[i] n (hb.2 _ (List.getElem_mem hl)) hn hm
  obtain ⟨m,e1⟩ : ∃ m,m = aF n (bZ l[i]):=⟨_,rfl⟩
  rw [← e1] at h2 ⊢
  try simp at h2
  simp -implicitDefEqProofs [sZ,Bp,hl,hw,h2]
 ·simp -implicitDefEqProofs [sZ,Bp]
theorem JH (l : List Wr) (n : Int) (hb : bL oB l) (hn : 0≤n) (hm : n≤9223372036854775807) : ev LI TT 118 [.row .af 2 (l.map (eW)),.int .i64 n] = some (.int .i64 (aF n (wL bZ l)),[.dead,.dead]):=by
 rw [aA (b:=pV) (rs:=[.t 4]) (n:=2) rfl rfl]
 have hl:=hb.1
 have hw : wL bZ l = l.length + (l.map bZ).sum:=rfl
 have ht:=cl n (wL bZ l)
 obtain ⟨m,e1⟩ : ∃ m,m = n - (l.length : Int):=⟨_,rfl⟩
 have h2 : IntKind.i64.wrap (n - (l.length : Int)) = m:=by rw [e1]; exact bU (by omega) (by omega)
 by_cases h : m < 0
 ·have ef : aF n (wL bZ l) = -1:=by omega
  simp -implicitDefEqProofs [pV,h2,h,ef]
 have h3:=HG  l hb.1 hb m (by omega) (by omega)
 rw [qt _ _ _ (by omega)] at h3
 have hs:=cl m (l.map bZ).sum
 obtain ⟨q,e2⟩ : ∃ q,q = aF m (l.map bZ).sum:=⟨_,rfl⟩
 rw [← e2] at h3 hs
 try simp at h3
 by_cases h4 : q < 0
 ·have ef : aF n (wL bZ l) = -1:=by omega
  simp only [h4,if_true] at h3
  simp -implicitDefEqProofs [pV,h2,h,h3,ef]
 have ef : aF n (wL bZ l) = q:=by omega
 simp only [h4,if_false] at h3
 simp -implicitDefEqProofs [pV,h2,h,h3,ef]
 all_goals (repeat' split) <;> first | rfl | omega | (simp_all; done) | (simp_all; omega) | skip
theorem HL (l : List Wr) (hlen : l.length≤1048576) (hb : wL bZ l≤1048576) : aK (aq (ev LI TT) (av TT) tc) [(0,.row .af 2 (l.map eW)),(3,.row .own 2 (dx (l.map eW) 0 [.int .i64 0,.str ⟨#[]⟩])),(4,.int .i64 0),(6,.int .i64 l.length)] = some (.exit 0,[(0,.row .af 2 (l.map eW)),(3,.row .own 2 (l.map eW)),(4,.int .i64 (l).length),(6,.int .i64 l.length),(11,.bool false)]):=by
 refine gH (f:=aq (ev LI TT) (av TT) tc) (l) (fun i=>[(0,.row .af 2 (l.map eW)),(3,.row .own 2 (dx (l.map eW) i [.int .i64 0,.str ⟨#[]⟩])),(4,.int .i64 i),(6,.int .i64 l.length)]) _ (fun i b hi hl=>?_) ?_
 ·have hw:=bl i (by first | omega | (simp at hl; omega))
  obtain ⟨_,rfl⟩:=List.getElem?_eq_some_iff.1 hi
  have h:=JS  l[i] (Nat.le_trans (gK (List.getElem_mem hl)) hb)
  try simp at h
  simp -implicitDefEqProofs [tc,Bv,hl,hw,h]
  first | done | (rw [jF _ _ _ _ (by simpa using hl) (by simp)]; done) | (simp only [jT]; rw [jF _ _ _ _ (by simpa using hl) (by simp)])
 ·simp -implicitDefEqProofs [tc,Bv]
theorem JT (l : List Wr) (hb : wL bZ l≤1048576) : ev LI TT 127 [.row .af 2 (l.map eW)] = some (.row .own 2 (l.map eW),[.dead]):=by
 rw [aA (b:=xq) (rs:=[.t 2]) (n:=1) rfl rfl]
 have hlen:=bC (w:=bZ) l
 have h:=HL  l (by omega) hb
 try simp at h
 simp -implicitDefEqProofs [xq,h,(by omega : (l.length : Int) * 24≤140737488355328)]
 all_goals (repeat' split) <;> first | rfl | omega | (simp_all; done) | (simp_all; omega) | skip
theorem Ht (ps : List (Wr×Wr)) (hb : ps.length≤9223372036854775807) (dy : ∀ x∈ps,bZ x.1≤1073741824) : aK (aq (ev LI TT) (av TT) sL) [(0,.row .af 2 (ps.map (fun x : Wr×Wr=>eW x.1))),(1,.row .af 2 (ps.map (fun x : Wr×Wr=>eW x.2))),(5,.int .i64 0)] = if aW cT (ps) = true then some (.exit 0,[(0,.row .af 2 (ps.map (fun x : Wr×Wr=>eW x.1))),(1,.row .af 2 (ps.map (fun x : Wr×Wr=>eW x.2))),(5,.int .i64 ps.length),(14,.bool false)]) else some (.ret,[(4,.bool false)]):=by
 refine cV (f:=aq (ev LI TT) (av TT) sL) (ps) (fun i=>[(0,.row .af 2 (ps.map (fun x : Wr×Wr=>eW x.1))),(1,.row .af 2 (ps.map (fun x : Wr×Wr=>eW x.2))),(5,.int .i64 i)]) cT _ _ (fun i b hi hl=>?_) ?_
 ·have hw:=bl i (by first | omega | (simp at hl; omega))
  obtain ⟨_,rfl⟩:=List.getElem?_eq_some_iff.1 hi
  have h:=Ji  (ps[i]).1 (ps[i]).2 (dy _ (List.getElem_mem hl)); try simp at h
  simp -implicitDefEqProofs [sL,Bc,hl,hw,cT,h]
 ·simp -implicitDefEqProofs [sL,Bc]
theorem Jj (a b : List Wr) (hb : wL bZ a≤1073741824) : ev LI TT 132 [.row .af 2 (a.map eW),.row .af 2 (b.map eW)] = some (.bool (decide (a = b)),[.dead,.dead]):=by
 rw [aA (b:=wN) (rs:=[.t 4]) (n:=2) rfl rfl]
 simp -implicitDefEqProofs [wN]
 have hlen:=bC (w:=bZ) a
 by_cases h : a.length = b.length
 ·obtain ⟨ps,rfl,rfl⟩:=ou h
  have h1:=Ht  ps (by simp at hlen; omega) (fun x hx=>Nat.le_trans (gK (List.mem_map_of_mem hx)) hb)
  have h2:=mS ps
  simp at h1
  rw [← h2]
  cases h3 : aW cT ps <;> rw [h3] at h1 <;> simp [h1,Function.comp_def]
 ·have : ¬ a = b:=fun e=>h (by rw [e])
  simp [this]
  omega
theorem Jy (a : dY) (n : Int) (hb : yC a) (hn : 0≤n) (hm : n≤9223372036854775807) : ev LI TT 44 [.agg ((fH .af) a),.int .i64 n] = some (.int .i64 (aF n (cB a)),[.dead,.dead]):=by
 rw [aA (b:=pN) (rs:=[.t 4]) (n:=2) rfl rfl]
 have hw : cB a = wL wS a.cells + wL bZ a.pending:=rfl
 have ht:=cl n (cB a)
 have c1:=yP  a.cells n hb.Pn (by omega) (by omega)
 have s1:=cl n (wL wS a.cells)
 obtain ⟨m1,e1⟩ : ∃ m,m = aF n (wL wS a.cells):=⟨_,rfl⟩
 rw [← e1] at c1 s1
 try simp at c1
 by_cases h1 : m1 < 0
 ·have ef : aF n (cB a) = -1:=by omega
  simp -implicitDefEqProofs [pN,c1,h1,ef]
 have c2:=JH  a.pending m1 hb.Pu (by omega) (by omega)
 have s2:=cl m1 (wL bZ a.pending)
 obtain ⟨m2,e2⟩ : ∃ m,m = aF m1 (wL bZ a.pending):=⟨_,rfl⟩
 rw [← e2] at c2 s2
 try simp at c2
 by_cases h2 : m2 < 0
 ·have ef : aF n (cB a) = -1:=by omega
  simp -implicitDefEqProofs [pN,c1,h1,c2,h2,ef]
 have ef : aF n (cB a) = m2:=by omega
 simp -implicitDefEqProofs [pN,c1,h1,c2,h2,ef]
 all_goals (repeat' split) <;> first | rfl | omega | (simp_all; done) | (simp_all; omega) | skip
theorem JK (a : dY) (hb : cB a≤1048576) : ev LI TT 46 [.agg ((fH .af) a)] = some (.agg ((fH .own) a),[.dead]):=by
 rw [aA (b:=xd) (rs:=[.c 2 2 true 39]) (n:=1) rfl rfl]
 have hw : cB a = wL wS a.cells + wL bZ a.pending:=rfl
 have h1:=yQ  a.cells (by omega)
 try simp at h1
 have h2:=JT  a.pending (by omega)
 try simp at h2
 simp -implicitDefEqProofs [xd,h1,h2,hw]
 all_goals (repeat' split) <;> first | rfl | omega | (simp_all; done) | (simp_all; omega) | skip
theorem Jb (a b : dY) (hb : cB a≤1073741824) : ev LI TT 48 [.agg ((fH .af) a),.agg ((fH .af) b)] = some (.bool (decide (a = b)),[.dead,.dead]):=by
 rw [aA (b:=pI) (rs:=[.t 4]) (n:=2) rfl rfl]
 have hw : cB a = wL wS a.cells + wL bZ a.pending:=rfl
 rw [KL]
 have c1:=yN  a.cells b.cells (by omega)
 cases g1 : decide (a.cells = b.cells)
 ·rw [g1] at c1
  try simp at c1
  simp -implicitDefEqProofs [pI,c1]
 rw [g1] at c1
 try simp at c1
 have c2:=Jj  a.pending b.pending (by omega)
 cases g2 : decide (a.pending = b.pending)
 ·rw [g2] at c2
  try simp at c2
  simp -implicitDefEqProofs [pI,c1,c2]
 rw [g2] at c2
 try simp at c2
 simp -implicitDefEqProofs [pI,c1,c2]
 all_goals (repeat' split) <;> first | rfl | omega | (simp_all; done) | (simp_all; omega) | skip
theorem Jz (a : aH) (n : Int) (hb : lI a) (hn : 0≤n) (hm : n≤9223372036854775807) : ev LI TT 159 [.agg (aE a),.int .i64 n] = some (.int .i64 (aF n (aL a)),[.dead,.dead]):=by
 rw [aA (b:=pP) (rs:=[.t 4]) (n:=2) rfl rfl]
 have hw : aL a = a.name.length + a.value.length:=rfl
 have ht:=cl n (aL a)
 have l6 : a.name.length≤9223372036854775807:=hb.Pq
 obtain ⟨m1,e1⟩ : ∃ m,m = n - (a.name.length : Int):=⟨_,rfl⟩
 have c1 : IntKind.i64.wrap (n - (a.name.length : Int)) = m1:=by rw [e1]; exact bU (by omega) (by omega)
 by_cases h1 : m1 < 0
 ·have ef : aF n (aL a) = -1:=by omega
  simp -implicitDefEqProofs [pP,c1,h1,ef]
 have oY : a.value.length≤9223372036854775807:=hb.Px
 obtain ⟨m2,e2⟩ : ∃ m,m = m1 - (a.value.length : Int):=⟨_,rfl⟩
 have c2 : IntKind.i64.wrap (m1 - (a.value.length : Int)) = m2:=by rw [e2]; exact bU (by omega) (by omega)
 by_cases h2 : m2 < 0
 ·have ef : aF n (aL a) = -1:=by omega
  simp -implicitDefEqProofs [pP,c1,h1,c2,h2,ef]
 have ef : aF n (aL a) = m2:=by omega
 simp -implicitDefEqProofs [pP,c1,h1,c2,h2,ef]
 all_goals (repeat' split) <;> first | rfl | omega | (simp_all; done) | (simp_all; omega) | skip
theorem JL (a : aH) (hb : aL a≤1048576) : ev LI TT 167 [.agg (aE a)] = some (.agg (aE a),[.dead]):=by
 rw [aA (b:=xg) (rs:=[.c 2 2 true 214]) (n:=1) rfl rfl]
 have hw : aL a = a.name.length + a.value.length:=rfl
 simp -implicitDefEqProofs [xg,hw]
 all_goals (repeat' split) <;> first | rfl | omega | (simp_all; done) | (simp_all; omega) | skip
theorem Jc (a b : aH) (hb : aL a≤1073741824) : ev LI TT 171 [.agg (aE a),.agg (aE b)] = some (.bool (decide (a = b)),[.dead,.dead]):=by
 rw [aA (b:=pJ) (rs:=[.t 4]) (n:=2) rfl rfl]
 have hw : aL a = a.name.length + a.value.length:=rfl
 rw [KM]
 by_cases g1 : a.name = b.name
 rotate_left
 ·simp -implicitDefEqProofs [pJ,eq_false g1]
 by_cases g2 : a.value = b.value
 rotate_left
 ·simp -implicitDefEqProofs [pJ,eq_true g1,eq_false g2]
 simp -implicitDefEqProofs [pJ,eq_true g1,eq_true g2]
 all_goals (repeat' split) <;> first | rfl | omega | (simp_all; done) | (simp_all; omega) | skip
theorem HD (l : List aH) (hlen : l.length≤9223372036854775807) (hb : bL lI l) (n : Int) (hn : 0≤n) (hm : n≤9223372036854775807) : aK (aq (ev LI TT) (av TT) sW) [(0,.row .af 2 (l.map (aE))),(1,.int .i64 n),(5,.int .i64 0)] = if dX (fun b n=>aF n (aL b)) (l) n < 0 then some (.ret,[(4,.int .i64 (-1))]) else some (.exit 0,[(0,.row .af 2 (l.map (aE))),(1,.int .i64 (dX (fun b n=>aF n (aL b)) (l) n)),(5,.int .i64 (l).length),(15,.bool false)]):=by
 refine tj (f:=aq (ev LI TT) (av TT) sW) (l) (fun i n=>[(0,.row .af 2 (l.map (aE))),(1,.int .i64 n),(5,.int .i64 i)]) (fun b n=>aF n (aL b)) _ (fun n=>[(0,.row .af 2 (l.map (aE))),(1,.int .i64 n),(5,.int .i64 (l).length),(15,.bool false)]) n hn hm (fun b n=>um _ n) (fun i b n hi hl hn hm=>?_) (fun n=>?_)
 ·have hw:=bl i (by first | omega | (simp at hl; omega))
  obtain ⟨_,rfl⟩:=List.getElem?_eq_some_iff.1 hi
  have h2:=Jz  l[i] n (hb.2 _ (List.getElem_mem hl)) hn hm
  obtain ⟨m,e1⟩ : ∃ m,m = aF n (aL l[i]):=⟨_,rfl⟩
  rw [← e1] at h2 ⊢
  try simp at h2
  simp -implicitDefEqProofs [sW,Bm,hl,hw,h2]
 ·simp -implicitDefEqProofs [sW,Bm]
theorem Da (l : List aH) (n : Int) (hb : bL lI l) (hn : 0≤n) (hm : n≤9223372036854775807) : ev LI TT 69 [.row .af 2 (l.map (aE)),.int .i64 n] = some (.int .i64 (aF n (wL aL l)),[.dead,.dead]):=by
 rw [aA (b:=pO) (rs:=[.t 4]) (n:=2) rfl rfl]
 have hl:=hb.1
 have hw : wL aL l = l.length + (l.map aL).sum:=rfl
 have ht:=cl n (wL aL l)
 obtain ⟨m,e1⟩ : ∃ m,m = n - (l.length : Int):=⟨_,rfl⟩
 have h2 : IntKind.i64.wrap (n - (l.length : Int)) = m:=by rw [e1]; exact bU (by omega) (by omega)
 by_cases h : m < 0
 ·have ef : aF n (wL aL l) = -1:=by omega
  simp -implicitDefEqProofs [pO,h2,h,ef]
 have h3:=HD  l hb.1 hb m (by omega) (by omega)
 rw [qt _ _ _ (by omega)] at h3
 have hs:=cl m (l.map aL).sum
 obtain ⟨q,e2⟩ : ∃ q,q = aF m (l.map aL).sum:=⟨_,rfl⟩
 rw [← e2] at h3 hs
 try simp at h3
 by_cases h4 : q < 0
 ·have ef : aF n (wL aL l) = -1:=by omega
  simp only [h4,if_true] at h3
  simp -implicitDefEqProofs [pO,h2,h,h3,ef]
 have ef : aF n (wL aL l) = q:=by omega
 simp only [h4,if_false] at h3
 simp -implicitDefEqProofs [pO,h2,h,h3,ef]
 all_goals (repeat' split) <;> first | rfl | omega | (simp_all; done) | (simp_all; omega) | skip
theorem HI (l : List aH) (hlen : l.length≤1048576) (hb : wL aL l≤1048576) : aK (aq (ev LI TT) (av TT) s7) [(0,.row .af 2 (l.map aE)),(3,.row .own 2 (dx (l.map aE) 0 [.str ⟨#[]⟩,.str ⟨#[]⟩])),(4,.int .i64 0),(6,.int .i64 l.length)] = some (.exit 0,[(0,.row .af 2 (l.map aE)),(3,.row .own 2 (l.map aE)),(4,.int .i64 (l).length),(6,.int .i64 l.length),(11,.bool false)]):=by
 refine gH (f:=aq (ev LI TT) (av TT) s7) (l) (fun i=>[(0,.row .af 2 (l.map aE)),(3,.row .own 2 (dx (l.map aE) i [.str ⟨#[]⟩,.str ⟨#[]⟩])),(4,.int .i64 i),(6,.int .i64 l.length)]) _ (fun i b hi hl=>?_) ?_
 ·have hw:=bl i (by first | omega | (simp at hl; omega))
  obtain ⟨_,rfl⟩:=List.getElem?_eq_some_iff.1 hi
  have h:=JL  l[i] (Nat.le_trans (gK (List.getElem_mem hl)) hb)
  try simp at h
  simp -implicitDefEqProofs [s7,Br,hl,hw,h]
  first | done | (rw [jF _ _ _ _ (by simpa using hl) (by simp)]; done) | (simp only [jT]; rw [jF _ _ _ _ (by simpa using hl) (by simp)])
 ·simp -implicitDefEqProofs [s7,Br]
theorem Db (l : List aH) (hb : wL aL l≤1048576) : ev LI TT 75 [.row .af 2 (l.map aE)] = some (.row .own 2 (l.map aE),[.dead]):=by
 rw [aA (b:=xe) (rs:=[.t 2]) (n:=1) rfl rfl]
 have hlen:=bC (w:=aL) l
 have h:=HI  l (by omega) hb
 try simp at h
 simp -implicitDefEqProofs [xe,h,(by omega : (l.length : Int) * 32≤140737488355328)]
 all_goals (repeat' split) <;> first | rfl | omega | (simp_all; done) | (simp_all; omega) | skip
theorem Hq (ps : List (aH×aH)) (hb : ps.length≤9223372036854775807) (dy : ∀ x∈ps,aL x.1≤1073741824) : aK (aq (ev LI TT) (av TT) sI) [(0,.row .af 2 (ps.map (fun x : aH×aH=>aE x.1))),(1,.row .af 2 (ps.map (fun x : aH×aH=>aE x.2))),(5,.int .i64 0)] = if aW cT (ps) = true then some (.exit 0,[(0,.row .af 2 (ps.map (fun x : aH×aH=>aE x.1))),(1,.row .af 2 (ps.map (fun x : aH×aH=>aE x.2))),(5,.int .i64 ps.length),(14,.bool false)]) else some (.ret,[(4,.bool false)]):=by
 refine cV (f:=aq (ev LI TT) (av TT) sI) (ps) (fun i=>[(0,.row .af 2 (ps.map (fun x : aH×aH=>aE x.1))),(1,.row .af 2 (ps.map (fun x : aH×aH=>aE x.2))),(5,.int .i64 i)]) cT _ _ (fun i b hi hl=>?_) ?_
 ·have hw:=bl i (by first | omega | (simp at hl; omega))
  obtain ⟨_,rfl⟩:=List.getElem?_eq_some_iff.1 hi
  have h:=Jc  (ps[i]).1 (ps[i]).2 (dy _ (List.getElem_mem hl)); try simp at h
  simp -implicitDefEqProofs [sI,A9,hl,hw,cT,h]
 ·simp -implicitDefEqProofs [sI,A9]
theorem C7 (a b : List aH) (hb : wL aL a≤1073741824) : ev LI TT 81 [.row .af 2 (a.map aE),.row .af 2 (b.map aE)] = some (.bool (decide (a = b)),[.dead,.dead]):=by
 rw [aA (b:=wJ) (rs:=[.t 4]) (n:=2) rfl rfl]
 simp -implicitDefEqProofs [wJ]
 have hlen:=bC (w:=aL) a
 by_cases h : a.length = b.length
 ·obtain ⟨ps,rfl,rfl⟩:=ou h
  have h1:=Hq  ps (by simp at hlen; omega) (fun x hx=>Nat.le_trans (gK (List.mem_map_of_mem hx)) hb)
  have h2:=mS ps
  simp at h1
  rw [← h2]
  cases h3 : aW cT ps <;> rw [h3] at h1 <;> simp [h1,Function.comp_def]
 ·have : ¬ a = b:=fun e=>h (by rw [e])
  simp [this]
  omega
theorem JE (a : cM) (n : Int) (hb : oA a) (hn : 0≤n) (hm : n≤9223372036854775807) : ev LI TT 106 [.agg ((eC .af) a),.int .i64 n] = some (.int .i64 (aF n (cr a)),[.dead,.dead]):=by
 rw [aA (b:=pR) (rs:=[.t 4]) (n:=2) rfl rfl]
 have hw : cr a = wL aL a.fields + a.body.length:=rfl
 have ht:=cl n (cr a)
 have c1:=Da  a.fields n hb.AK (by omega) (by omega)
 have s1:=cl n (wL aL a.fields)
 obtain ⟨m1,e1⟩ : ∃ m,m = aF n (wL aL a.fields):=⟨_,rfl⟩
 rw [← e1] at c1 s1
 try simp at c1
 by_cases h1 : m1 < 0
 ·have ef : aF n (cr a) = -1:=by omega
  simp -implicitDefEqProofs [pR,c1,h1,ef]
 have oY : a.body.length≤9223372036854775807:=hb.AJ
 obtain ⟨m2,e2⟩ : ∃ m,m = m1 - (a.body.length : Int):=⟨_,rfl⟩
 have c2 : IntKind.i64.wrap (m1 - (a.body.length : Int)) = m2:=by rw [e2]; exact bU (by omega) (by omega)
 by_cases h2 : m2 < 0
 ·have ef : aF n (cr a) = -1:=by omega
  simp -implicitDefEqProofs [pR,c1,h1,c2,h2,ef]
 have ef : aF n (cr a) = m2:=by omega
 simp -implicitDefEqProofs [pR,c1,h1,c2,h2,ef]
 all_goals (repeat' split) <;> first | rfl | omega | (simp_all; done) | (simp_all; omega) | skip
theorem JQ (a : cM) (hb : cr a≤1048576) : ev LI TT 112 [.agg ((eC .af) a)] = some (.agg ((eC .own) a),[.dead]):=by
 rw [aA (b:=xm) (rs:=[.c 2 3 true 59]) (n:=1) rfl rfl]
 have hw : cr a = wL aL a.fields + a.body.length:=rfl
 have h1:=Db  a.fields (by omega)
 try simp at h1
 simp -implicitDefEqProofs [xm,h1,hw]
 all_goals (repeat' split) <;> first | rfl | omega | (simp_all; done) | (simp_all; omega) | skip
theorem Jg (a b : cM) (hb : cr a≤1073741824) : ev LI TT 78 [.agg ((eC .af) a),.agg ((eC .af) b)] = some (.bool (decide (a = b)),[.dead,.dead]):=by
 rw [aA (b:=nG) (rs:=[.t 4]) (n:=2) rfl rfl]
 have hw : cr a = wL aL a.fields + a.body.length:=rfl
 rw [KQ]
 by_cases g1 : a.status = b.status
 rotate_left
 ·simp -implicitDefEqProofs [nG,eq_false g1]
 have c2:=C7  a.fields b.fields (by omega)
 cases g2 : decide (a.fields = b.fields)
 ·rw [g2] at c2
  try simp at c2
  simp -implicitDefEqProofs [nG,eq_true g1,c2]
 rw [g2] at c2
 try simp at c2
 by_cases g3 : a.body = b.body
 rotate_left
 ·simp -implicitDefEqProofs [nG,eq_true g1,c2,eq_false g3]
 simp -implicitDefEqProofs [nG,eq_true g1,c2,eq_true g3]
 all_goals (repeat' split) <;> first | rfl | omega | (simp_all; done) | (simp_all; omega) | skip
theorem JC (a : Ob) (n : Int) (hb : qO a) (hn : 0≤n) (hm : n≤9223372036854775807) : ev LI TT 38 [.agg ((bw .af) a),.int .i64 n] = some (.int .i64 (aF n (bH a)),[.dead,.dead]):=by
 rw [aA (b:=mz) (rs:=[.t 4]) (n:=2) rfl rfl]
 have hw : bH a = a.path.length + wL wS a.names + wL wS a.values + cr a.resp:=rfl
 have ht:=cl n (bH a)
 have l6 : a.path.length≤9223372036854775807:=hb.AL
 obtain ⟨m1,e1⟩ : ∃ m,m = n - (a.path.length : Int):=⟨_,rfl⟩
 have c1 : IntKind.i64.wrap (n - (a.path.length : Int)) = m1:=by rw [e1]; exact bU (by omega) (by omega)
 by_cases h1 : m1 < 0
 ·have ef : aF n (bH a) = -1:=by omega
  simp -implicitDefEqProofs [mz,c1,h1,ef]
 have c2:=yP  a.names m1 hb.Pr (by omega) (by omega)
 have s2:=cl m1 (wL wS a.names)
 obtain ⟨m2,e2⟩ : ∃ m,m = aF m1 (wL wS a.names):=⟨_,rfl⟩
 rw [← e2] at c2 s2
 try simp at c2
 by_cases h2 : m2 < 0
 ·have ef : aF n (bH a) = -1:=by omega
  simp -implicitDefEqProofs [mz,c1,h1,c2,h2,ef]
 have c3:=yP  a.values m2 hb.Py (by omega) (by omega)
 have s3:=cl m2 (wL wS a.values)
 obtain ⟨m3,e3⟩ : ∃ m,m = aF m2 (wL wS a.values):=⟨_,rfl⟩
 rw [← e3] at c3 s3
 try simp at c3
 by_cases h3 : m3 < 0
 ·have ef : aF n (bH a) = -1:=by omega
  simp -implicitDefEqProofs [mz,c1,h1,c2,h2,c3,h3,ef]
 have c4:=JE  a.resp m3 hb.wH (by omega) (by omega)
 have s4:=cl m3 (cr a.resp)
 obtain ⟨m4,e4⟩ : ∃ m,m = aF m3 (cr a.resp):=⟨_,rfl⟩
 rw [← e4] at c4 s4
 try simp at c4
 by_cases h4 : m4 < 0
 ·have ef : aF n (bH a) = -1:=by omega
  simp -implicitDefEqProofs [mz,c1,h1,c2,h2,c3,h3,c4,h4,ef]
 have ef : aF n (bH a) = m4:=by omega
 simp -implicitDefEqProofs [mz,c1,h1,c2,h2,c3,h3,c4,h4,ef]
 all_goals (repeat' split) <;> first | rfl | omega | (simp_all; done) | (simp_all; omega) | skip
theorem JO (a : Ob) (hb : bH a≤1048576) : ev LI TT 40 [.agg ((bw .af) a)] = some (.agg ((bw .own) a),[.dead]):=by
 rw [aA (b:=xk) (rs:=[.c 2 7 true 61]) (n:=1) rfl rfl]
 have hw : bH a = a.path.length + wL wS a.names + wL wS a.values + cr a.resp:=rfl
 have h1:=yQ  a.names (by omega)
 try simp at h1
 have h2:=yQ  a.values (by omega)
 try simp at h2
 have h3:=JQ  a.resp (by omega)
 try simp at h3
 simp -implicitDefEqProofs [xk,h1,h2,h3,hw]
 all_goals (repeat' split) <;> first | rfl | omega | (simp_all; done) | (simp_all; omega) | skip
theorem C8 (a b : Ob) (hb : bH a≤1073741824) : ev LI TT 24 [.agg ((bw .af) a),.agg ((bw .af) b)] = some (.bool (decide (a = b)),[.dead,.dead]):=by
 rw [aA (b:=kS) (rs:=[.t 4]) (n:=2) rfl rfl]
 have hw : bH a = a.path.length + wL wS a.names + wL wS a.values + cr a.resp:=rfl
 rw [KO]
 by_cases g1 : a.path = b.path
 rotate_left
 ·simp -implicitDefEqProofs [kS,eq_false g1]
 have c2:=yN  a.names b.names (by omega)
 cases g2 : decide (a.names = b.names)
 ·rw [g2] at c2
  try simp at c2
  simp -implicitDefEqProofs [kS,eq_true g1,c2]
 rw [g2] at c2
 try simp at c2
 have c3:=yN  a.values b.values (by omega)
 cases g3 : decide (a.values = b.values)
 ·rw [g3] at c3
  try simp at c3
  simp -implicitDefEqProofs [kS,eq_true g1,c2,c3]
 rw [g3] at c3
 try simp at c3
 have c4:=Jg  a.resp b.resp (by omega)
 cases g4 : decide (a.resp = b.resp)
 ·rw [g4] at c4
  try simp at c4
  simp -implicitDefEqProofs [kS,eq_true g1,c2,c3,c4]
 rw [g4] at c4
 try simp at c4
 by_cases g5 : a.t = b.t
 rotate_left
 ·simp -implicitDefEqProofs [kS,eq_true g1,c2,c3,c4,eq_false g5]
 simp -implicitDefEqProofs [kS,eq_true g1,c2,c3,c4,eq_true g5]
 all_goals (repeat' split) <;> first | rfl | omega | (simp_all; done) | (simp_all; omega) | skip
theorem JA (a : Kp) (n : Int) (hb : oz a) (hn : 0≤n) (hm : n≤9223372036854775807) : ev LI TT 158 [.agg ((aP .af) a),.int .i64 n] = some (.int .i64 (aF n (br a)),[.dead,.dead]):=by
 rw [aA (b:=sY) (rs:=[.t 4]) (n:=2) rfl rfl]
 have hw : br a = bH a.obj:=rfl
 have ht:=cl n (br a)
 have c1:=JC  a.obj n hb.Ft (by omega) (by omega)
 have s1:=cl n (bH a.obj)
 obtain ⟨m1,e1⟩ : ∃ m,m = aF n (bH a.obj):=⟨_,rfl⟩
 rw [← e1] at c1 s1
 try simp at c1
 by_cases h1 : m1 < 0
 ·have ef : aF n (br a) = -1:=by omega
  simp -implicitDefEqProofs [sY,c1,h1,ef]
 have ef : aF n (br a) = m1:=by omega
 simp -implicitDefEqProofs [sY,c1,h1,ef]
 all_goals (repeat' split) <;> first | rfl | omega | (simp_all; done) | (simp_all; omega) | skip
theorem JM (a : Kp) (hb : br a≤1048576) : ev LI TT 166 [.agg ((aP .af) a)] = some (.agg ((aP .own) a),[.dead]):=by
 rw [aA (b:=xj) (rs:=[.c 2 9 true 108]) (n:=1) rfl rfl]
 have hw : br a = bH a.obj:=rfl
 have h1:=JO  a.obj (by omega)
 try simp at h1
 simp -implicitDefEqProofs [xj,h1,hw]
 all_goals (repeat' split) <;> first | rfl | omega | (simp_all; done) | (simp_all; omega) | skip
theorem Jd (a b : Kp) (hb : br a≤1073741824) : ev LI TT 169 [.agg ((aP .af) a),.agg ((aP .af) b)] = some (.bool (decide (a = b)),[.dead,.dead]):=by
 rw [aA (b:=nF) (rs:=[.t 4]) (n:=2) rfl rfl]
 have hw : br a = bH a.obj:=rfl
 rw [KN]
 have c1:=C8  a.obj b.obj (by omega)
 cases g1 : decide (a.obj = b.obj)
 ·rw [g1] at c1
  try simp at c1
  simp -implicitDefEqProofs [nF,c1]
 rw [g1] at c1
 try simp at c1
 by_cases g2 : a.at_ = b.at_
 rotate_left
 ·simp -implicitDefEqProofs [nF,c1,eq_false g2]
 by_cases g3 : a.seq = b.seq
 rotate_left
 ·simp -implicitDefEqProofs [nF,c1,eq_true g2,eq_false g3]
 simp -implicitDefEqProofs [nF,c1,eq_true g2,eq_true g3]
 all_goals (repeat' split) <;> first | rfl | omega | (simp_all; done) | (simp_all; omega) | skip
theorem HE (l : List Kp) (hlen : l.length≤9223372036854775807) (hb : bL oz l) (n : Int) (hn : 0≤n) (hm : n≤9223372036854775807) : aK (aq (ev LI TT) (av TT) sX) [(0,.row .af 9 (l.map (aP .af))),(1,.int .i64 n),(5,.int .i64 0)] = if dX (fun b n=>aF n (br b)) (l) n < 0 then some (.ret,[(4,.int .i64 (-1))]) else some (.exit 0,[(0,.row .af 9 (l.map (aP .af))),(1,.int .i64 (dX (fun b n=>aF n (br b)) (l) n)),(5,.int .i64 (l).length),(15,.bool false)]):=by
 refine tj (f:=aq (ev LI TT) (av TT) sX) (l) (fun i n=>[(0,.row .af 9 (l.map (aP .af))),(1,.int .i64 n),(5,.int .i64 i)]) (fun b n=>aF n (br b)) _ (fun n=>[(0,.row .af 9 (l.map (aP .af))),(1,.int .i64 n),(5,.int .i64 (l).length),(15,.bool false)]) n hn hm (fun b n=>um _ n) (fun i b n hi hl hn hm=>?_) (fun n=>?_)
 ·have hw:=bl i (by first | omega | (simp at hl; omega))
  obtain ⟨_,rfl⟩:=List.getElem?_eq_some_iff.1 hi
  have h2:=JA  l[i] n (hb.2 _ (List.getElem_mem hl)) hn hm
  obtain ⟨m,e1⟩ : ∃ m,m = aF n (br l[i]):=⟨_,rfl⟩
  rw [← e1] at h2 ⊢
  try simp at h2
  simp -implicitDefEqProofs [sX,Bo,hl,hw,h2]
 ·simp -implicitDefEqProofs [sX,Bo]
theorem JB (l : List Kp) (n : Int) (hb : bL oz l) (hn : 0≤n) (hm : n≤9223372036854775807) : ev LI TT 67 [.row .af 9 (l.map (aP .af)),.int .i64 n] = some (.int .i64 (aF n (wL br l)),[.dead,.dead]):=by
 rw [aA (b:=pQ) (rs:=[.t 4]) (n:=2) rfl rfl]
 have hl:=hb.1
 have hw : wL br l = l.length + (l.map br).sum:=rfl
 have ht:=cl n (wL br l)
 obtain ⟨m,e1⟩ : ∃ m,m = n - (l.length : Int):=⟨_,rfl⟩
 have h2 : IntKind.i64.wrap (n - (l.length : Int)) = m:=by rw [e1]; exact bU (by omega) (by omega)
 by_cases h : m < 0
 ·have ef : aF n (wL br l) = -1:=by omega
  simp -implicitDefEqProofs [pQ,h2,h,ef]
 have h3:=HE  l hb.1 hb m (by omega) (by omega)
 rw [qt _ _ _ (by omega)] at h3
 have hs:=cl m (l.map br).sum
 obtain ⟨q,e2⟩ : ∃ q,q = aF m (l.map br).sum:=⟨_,rfl⟩
 rw [← e2] at h3 hs
 try simp at h3
 by_cases h4 : q < 0
 ·have ef : aF n (wL br l) = -1:=by omega
  simp only [h4,if_true] at h3
  simp -implicitDefEqProofs [pQ,h2,h,h3,ef]
 have ef : aF n (wL br l) = q:=by omega
 simp only [h4,if_false] at h3
 simp -implicitDefEqProofs [pQ,h2,h,h3,ef]
 all_goals (repeat' split) <;> first | rfl | omega | (simp_all; done) | (simp_all; omega) | skip
theorem HJ (l : List Kp) (hlen : l.length≤1048576) (hb : wL br l≤1048576) : aK (aq (ev LI TT) (av TT) s8) [(0,.row .af 9 (l.map (aP .af))),(3,.row .own 9 (dx (l.map (aP .own)) 0 [.str ⟨#[]⟩,.row .own 1 [],.row .own 1 [],.int .i64 0,.row .own 2 [],.str ⟨#[]⟩,.int .i64 0,.int .i64 0,.int .i64 0])),(4,.int .i64 0),(6,.int .i64 l.length)] = some (.exit 0,[(0,.row .af 9 (l.map (aP .af))),(3,.row .own 9 (l.map (aP .own))),(4,.int .i64 (l).length),(6,.int .i64 l.length),(11,.bool false)]):=by
 refine gH (f:=aq (ev LI TT) (av TT) s8) (l) (fun i=>[(0,.row .af 9 (l.map (aP .af))),(3,.row .own 9 (dx (l.map (aP .own)) i [.str ⟨#[]⟩,.row .own 1 [],.row .own 1 [],.int .i64 0,.row .own 2 [],.str ⟨#[]⟩,.int .i64 0,.int .i64 0,.int .i64 0])),(4,.int .i64 i),(6,.int .i64 l.length)]) _ (fun i b hi hl=>?_) ?_
 ·have hw:=bl i (by first | omega | (simp at hl; omega))
  obtain ⟨_,rfl⟩:=List.getElem?_eq_some_iff.1 hi
  have h:=JM  l[i] (Nat.le_trans (gK (List.getElem_mem hl)) hb)
  try simp at h
  simp -implicitDefEqProofs [s8,Bt,hl,hw,h]
  first | done | (rw [jF _ _ _ _ (by simpa using hl) (by simp)]; done) | (simp only [jT]; rw [jF _ _ _ _ (by simpa using hl) (by simp)])
 ·simp -implicitDefEqProofs [s8,Bt]
theorem JN (l : List Kp) (hb : wL br l≤1048576) : ev LI TT 73 [.row .af 9 (l.map (aP .af))] = some (.row .own 9 (l.map (aP .own)),[.dead]):=by
 rw [aA (b:=xh) (rs:=[.t 2]) (n:=1) rfl rfl]
 have hlen:=bC (w:=br) l
 have h:=HJ  l (by omega) hb
 try simp at h
 simp -implicitDefEqProofs [xh,h,(by omega : (l.length : Int) * 136≤140737488355328)]
 all_goals (repeat' split) <;> first | rfl | omega | (simp_all; done) | (simp_all; omega) | skip
theorem Hr (ps : List (Kp×Kp)) (hb : ps.length≤9223372036854775807) (dy : ∀ x∈ps,br x.1≤1073741824) : aK (aq (ev LI TT) (av TT) sJ) [(0,.row .af 9 (ps.map (fun x : Kp×Kp=>(aP .af) x.1))),(1,.row .af 9 (ps.map (fun x : Kp×Kp=>(aP .af) x.2))),(5,.int .i64 0)] = if aW cT (ps) = true then some (.exit 0,[(0,.row .af 9 (ps.map (fun x : Kp×Kp=>(aP .af) x.1))),(1,.row .af 9 (ps.map (fun x : Kp×Kp=>(aP .af) x.2))),(5,.int .i64 ps.length),(14,.bool false)]) else some (.ret,[(4,.bool false)]):=by
 refine cV (f:=aq (ev LI TT) (av TT) sJ) (ps) (fun i=>[(0,.row .af 9 (ps.map (fun x : Kp×Kp=>(aP .af) x.1))),(1,.row .af 9 (ps.map (fun x : Kp×Kp=>(aP .af) x.2))),(5,.int .i64 i)]) cT _ _ (fun i b hi hl=>?_) ?_
 ·have hw:=bl i (by first | omega | (simp at hl; omega))
  obtain ⟨_,rfl⟩:=List.getElem?_eq_some_iff.1 hi
  have h:=Jd  (ps[i]).1 (ps[i]).2 (dy _ (List.getElem_mem hl)); try simp at h
  simp -implicitDefEqProofs [sJ,Ba,hl,hw,cT,h]
 ·simp -implicitDefEqProofs [sJ,Ba]
theorem Je (a b : List Kp) (hb : wL br a≤1073741824) : ev LI TT 79 [.row .af 9 (a.map (aP .af)),.row .af 9 (b.map (aP .af))] = some (.bool (decide (a = b)),[.dead,.dead]):=by
 rw [aA (b:=wK) (rs:=[.t 4]) (n:=2) rfl rfl]
 simp -implicitDefEqProofs [wK]
 have hlen:=bC (w:=br) a
 by_cases h : a.length = b.length
 ·obtain ⟨ps,rfl,rfl⟩:=ou h
  have h1:=Hr  ps (by simp at hlen; omega) (fun x hx=>Nat.le_trans (gK (List.mem_map_of_mem hx)) hb)
  have h2:=mS ps
  simp at h1
  rw [← h2]
  cases h3 : aW cT ps <;> rw [h3] at h1 <;> simp [h1,Function.comp_def]
 ·have : ¬ a = b:=fun e=>h (by rw [e])
  simp [this]
  omega
theorem Jv (a : Bn) (n : Int) (hb : mU a) (hn : 0≤n) (hm : n≤9223372036854775807) : ev LI TT 33 [.agg (aZ a),.int .i64 n] = some (.int .i64 (aF n (aN a)),[.dead,.dead]):=by
 rw [aA (b:=pM) (rs:=[.t 4]) (n:=2) rfl rfl]
 have hw : aN a = a.a.length + a.b.length:=rfl
 have ht:=cl n (aN a)
 have l6 : a.a.length≤9223372036854775807:=hb.Fp
 obtain ⟨m1,e1⟩ : ∃ m,m = n - (a.a.length : Int):=⟨_,rfl⟩
 have c1 : IntKind.i64.wrap (n - (a.a.length : Int)) = m1:=by rw [e1]; exact bU (by omega) (by omega)
 by_cases h1 : m1 < 0
 ·have ef : aF n (aN a) = -1:=by omega
  simp -implicitDefEqProofs [pM,c1,h1,ef]
 have oY : a.b.length≤9223372036854775807:=hb.Pm
 obtain ⟨m2,e2⟩ : ∃ m,m = m1 - (a.b.length : Int):=⟨_,rfl⟩
 have c2 : IntKind.i64.wrap (m1 - (a.b.length : Int)) = m2:=by rw [e2]; exact bU (by omega) (by omega)
 by_cases h2 : m2 < 0
 ·have ef : aF n (aN a) = -1:=by omega
  simp -implicitDefEqProofs [pM,c1,h1,c2,h2,ef]
 have ef : aF n (aN a) = m2:=by omega
 simp -implicitDefEqProofs [pM,c1,h1,c2,h2,ef]
 all_goals (repeat' split) <;> first | rfl | omega | (simp_all; done) | (simp_all; omega) | skip
theorem JI (a : Bn) (hb : aN a≤1048576) : ev LI TT 35 [.agg (aZ a)] = some (.agg (aZ a),[.dead]):=by
 rw [aA (b:=xb) (rs:=[.c 2 4 true 83]) (n:=1) rfl rfl]
 have hw : aN a = a.a.length + a.b.length:=rfl
 simp -implicitDefEqProofs [xb,hw]
 all_goals (repeat' split) <;> first | rfl | omega | (simp_all; done) | (simp_all; omega) | skip
theorem I9 (a b : Bn) (hb : aN a≤1073741824) : ev LI TT 170 [.agg (aZ a),.agg (aZ b)] = some (.bool (decide (a = b)),[.dead,.dead]):=by
 rw [aA (b:=mu) (rs:=[.t 4]) (n:=2) rfl rfl]
 have hw : aN a = a.a.length + a.b.length:=rfl
 rw [KK]
 by_cases g1 : a.kind = b.kind
 rotate_left
 ·simp -implicitDefEqProofs [mu,eq_false g1]
 by_cases g2 : a.a = b.a
 rotate_left
 ·simp -implicitDefEqProofs [mu,eq_true g1,eq_false g2]
 by_cases g3 : a.b = b.b
 rotate_left
 ·simp -implicitDefEqProofs [mu,eq_true g1,eq_true g2,eq_false g3]
 by_cases g4 : a.t = b.t
 rotate_left
 ·simp -implicitDefEqProofs [mu,eq_true g1,eq_true g2,eq_true g3,eq_false g4]
 simp -implicitDefEqProofs [mu,eq_true g1,eq_true g2,eq_true g3,eq_true g4]
 all_goals (repeat' split) <;> first | rfl | omega | (simp_all; done) | (simp_all; omega) | skip
theorem HC (l : List Bn) (hlen : l.length≤9223372036854775807) (hb : bL mU l) (n : Int) (hn : 0≤n) (hm : n≤9223372036854775807) : aK (aq (ev LI TT) (av TT) sV) [(0,.row .af 4 (l.map (aZ))),(1,.int .i64 n),(5,.int .i64 0)] = if dX (fun b n=>aF n (aN b)) (l) n < 0 then some (.ret,[(4,.int .i64 (-1))]) else some (.exit 0,[(0,.row .af 4 (l.map (aZ))),(1,.int .i64 (dX (fun b n=>aF n (aN b)) (l) n)),(5,.int .i64 (l).length),(15,.bool false)]):=by
 refine tj (f:=aq (ev LI TT) (av TT) sV) (l) (fun i n=>[(0,.row .af 4 (l.map (aZ))),(1,.int .i64 n),(5,.int .i64 i)]) (fun b n=>aF n (aN b)) _ (fun n=>[(0,.row .af 4 (l.map (aZ))),(1,.int .i64 n),(5,.int .i64 (l).length),(15,.bool false)]) n hn hm (fun b n=>um _ n) (fun i b n hi hl hn hm=>?_) (fun n=>?_)
 ·have hw:=bl i (by first | omega | (simp at hl; omega))
  obtain ⟨_,rfl⟩:=List.getElem?_eq_some_iff.1 hi
  have h2:=Jv  l[i] n (hb.2 _ (List.getElem_mem hl)) hn hm
  obtain ⟨m,e1⟩ : ∃ m,m = aF n (aN l[i]):=⟨_,rfl⟩
  rw [← e1] at h2 ⊢
  try simp at h2
  simp -implicitDefEqProofs [sV,Bl,hl,hw,h2]
 ·simp -implicitDefEqProofs [sV,Bl]
theorem Jw (l : List Bn) (n : Int) (hb : bL mU l) (hn : 0≤n) (hm : n≤9223372036854775807) : ev LI TT 68 [.row .af 4 (l.map (aZ)),.int .i64 n] = some (.int .i64 (aF n (wL aN l)),[.dead,.dead]):=by
 rw [aA (b:=pL) (rs:=[.t 4]) (n:=2) rfl rfl]
 have hl:=hb.1
 have hw : wL aN l = l.length + (l.map aN).sum:=rfl
 have ht:=cl n (wL aN l)
 obtain ⟨m,e1⟩ : ∃ m,m = n - (l.length : Int):=⟨_,rfl⟩
 have h2 : IntKind.i64.wrap (n - (l.length : Int)) = m:=by rw [e1]; exact bU (by omega) (by omega)
 by_cases h : m < 0
 ·have ef : aF n (wL aN l) = -1:=by omega
  simp -implicitDefEqProofs [pL,h2,h,ef]
 have h3:=HC  l hb.1 hb m (by omega) (by omega)
 rw [qt _ _ _ (by omega)] at h3
 have hs:=cl m (l.map aN).sum
 obtain ⟨q,e2⟩ : ∃ q,q = aF m (l.map aN).sum:=⟨_,rfl⟩
 rw [← e2] at h3 hs
 try simp at h3
 by_cases h4 : q < 0
 ·have ef : aF n (wL aN l) = -1:=by omega
  simp only [h4,if_true] at h3
  simp -implicitDefEqProofs [pL,h2,h,h3,ef]
 have ef : aF n (wL aN l) = q:=by omega
 simp only [h4,if_false] at h3
 simp -implicitDefEqProofs [pL,h2,h,h3,ef]
 all_goals (repeat' split) <;> first | rfl | omega | (simp_all; done) | (simp_all; omega) | skip
theorem HH (l : List Bn) (hlen : l.length≤1048576) (hb : wL aN l≤1048576) : aK (aq (ev LI TT) (av TT) s6) [(0,.row .af 4 (l.map aZ)),(3,.row .own 4 (dx (l.map aZ) 0 [.int .i64 0,.str ⟨#[]⟩,.str ⟨#[]⟩,.int .i64 0])),(4,.int .i64 0),(6,.int .i64 l.length)] = some (.exit 0,[(0,.row .af 4 (l.map aZ)),(3,.row .own 4 (l.map aZ)),(4,.int .i64 (l).length),(6,.int .i64 l.length),(11,.bool false)]):=by
 refine gH (f:=aq (ev LI TT) (av TT) s6) (l) (fun i=>[(0,.row .af 4 (l.map aZ)),(3,.row .own 4 (dx (l.map aZ) i [.int .i64 0,.str ⟨#[]⟩,.str ⟨#[]⟩,.int .i64 0])),(4,.int .i64 i),(6,.int .i64 l.length)]) _ (fun i b hi hl=>?_) ?_
 ·have hw:=bl i (by first | omega | (simp at hl; omega))
  obtain ⟨_,rfl⟩:=List.getElem?_eq_some_iff.1 hi
  have h:=JI  l[i] (Nat.le_trans (gK (List.getElem_mem hl)) hb)
  try simp at h
  simp -implicitDefEqProofs [s6,Bq,hl,hw,h]
  first | done | (rw [jF _ _ _ _ (by simpa using hl) (by simp)]; done) | (simp only [jT]; rw [jF _ _ _ _ (by simpa using hl) (by simp)])
 ·simp -implicitDefEqProofs [s6,Bq]
theorem JJ (l : List Bn) (hb : wL aN l≤1048576) : ev LI TT 74 [.row .af 4 (l.map aZ)] = some (.row .own 4 (l.map aZ),[.dead]):=by
 rw [aA (b:=w9) (rs:=[.t 2]) (n:=1) rfl rfl]
 have hlen:=bC (w:=aN) l
 have h:=HH  l (by omega) hb
 try simp at h
 simp -implicitDefEqProofs [w9,h,(by omega : (l.length : Int) * 48≤140737488355328)]
 all_goals (repeat' split) <;> first | rfl | omega | (simp_all; done) | (simp_all; omega) | skip
theorem Hp (ps : List (Bn×Bn)) (hb : ps.length≤9223372036854775807) (dy : ∀ x∈ps,aN x.1≤1073741824) : aK (aq (ev LI TT) (av TT) sH) [(0,.row .af 4 (ps.map (fun x : Bn×Bn=>aZ x.1))),(1,.row .af 4 (ps.map (fun x : Bn×Bn=>aZ x.2))),(5,.int .i64 0)] = if aW cT (ps) = true then some (.exit 0,[(0,.row .af 4 (ps.map (fun x : Bn×Bn=>aZ x.1))),(1,.row .af 4 (ps.map (fun x : Bn×Bn=>aZ x.2))),(5,.int .i64 ps.length),(14,.bool false)]) else some (.ret,[(4,.bool false)]):=by
 refine cV (f:=aq (ev LI TT) (av TT) sH) (ps) (fun i=>[(0,.row .af 4 (ps.map (fun x : Bn×Bn=>aZ x.1))),(1,.row .af 4 (ps.map (fun x : Bn×Bn=>aZ x.2))),(5,.int .i64 i)]) cT _ _ (fun i b hi hl=>?_) ?_
 ·have hw:=bl i (by first | omega | (simp at hl; omega))
  obtain ⟨_,rfl⟩:=List.getElem?_eq_some_iff.1 hi
  have h:=I9  (ps[i]).1 (ps[i]).2 (dy _ (List.getElem_mem hl)); try simp at h
  simp -implicitDefEqProofs [sH,A8,hl,hw,cT,h]
 ·simp -implicitDefEqProofs [sH,A8]
theorem Ja (a b : List Bn) (hb : wL aN a≤1073741824) : ev LI TT 80 [.row .af 4 (a.map aZ),.row .af 4 (b.map aZ)] = some (.bool (decide (a = b)),[.dead,.dead]):=by
 rw [aA (b:=wI) (rs:=[.t 4]) (n:=2) rfl rfl]
 simp -implicitDefEqProofs [wI]
 have hlen:=bC (w:=aN) a
 by_cases h : a.length = b.length
 ·obtain ⟨ps,rfl,rfl⟩:=ou h
  have h1:=Hp  ps (by simp at hlen; omega) (fun x hx=>Nat.le_trans (gK (List.mem_map_of_mem hx)) hb)
  have h2:=mS ps
  simp at h1
  rw [← h2]
  cases h3 : aW cT ps <;> rw [h3] at h1 <;> simp [h1,Function.comp_def]
 ·have : ¬ a = b:=fun e=>h (by rw [e])
  simp [this]
  omega
theorem JF (a : Sh) (n : Int) (hb : qP a) (hn : 0≤n) (hm : n≤9223372036854775807) : ev LI TT 18 [.agg ((bn .af) a),.int .i64 n] = some (.int .i64 (aF n (bT a)),[.dead,.dead]):=by
 rw [aA (b:=nI) (rs:=[.t 4]) (n:=2) rfl rfl]
 have hw : bT a = cB a.bt + wL br a.ak + wL aN a.aO:=rfl
 have ht:=cl n (bT a)
 have c1:=Jy  a.bt n hb.Pp (by omega) (by omega)
 have s1:=cl n (cB a.bt)
 obtain ⟨m1,e1⟩ : ∃ m,m = aF n (cB a.bt):=⟨_,rfl⟩
 rw [← e1] at c1 s1
 try simp at c1
 by_cases h1 : m1 < 0
 ·have ef : aF n (bT a) = -1:=by omega
  simp -implicitDefEqProofs [nI,c1,h1,ef]
 have c2:=JB  a.ak m1 hb.Pt (by omega) (by omega)
 have s2:=cl m1 (wL br a.ak)
 obtain ⟨m2,e2⟩ : ∃ m,m = aF m1 (wL br a.ak):=⟨_,rfl⟩
 rw [← e2] at c2 s2
 try simp at c2
 by_cases h2 : m2 < 0
 ·have ef : aF n (bT a) = -1:=by omega
  simp -implicitDefEqProofs [nI,c1,h1,c2,h2,ef]
 have c3:=Jw  a.aO m2 hb.Fq (by omega) (by omega)
 have s3:=cl m2 (wL aN a.aO)
 obtain ⟨m3,e3⟩ : ∃ m,m = aF m2 (wL aN a.aO):=⟨_,rfl⟩
 rw [← e3] at c3 s3
 try simp at c3
 by_cases h3 : m3 < 0
 ·have ef : aF n (bT a) = -1:=by omega
  simp -implicitDefEqProofs [nI,c1,h1,c2,h2,c3,h3,ef]
 have ef : aF n (bT a) = m3:=by omega
 simp -implicitDefEqProofs [nI,c1,h1,c2,h2,c3,h3,ef]
 all_goals (repeat' split) <;> first | rfl | omega | (simp_all; done) | (simp_all; omega) | skip
theorem JR (a : Sh) (hb : bT a≤1048576) : ev LI TT 21 [.agg ((bn .af) a)] = some (.agg ((bn .own) a),[.dead]):=by
 rw [aA (b:=xo) (rs:=[.c 2 6 true 43]) (n:=1) rfl rfl]
 have hw : bT a = cB a.bt + wL br a.ak + wL aN a.aO:=rfl
 have h1:=JK  a.bt (by omega)
 try simp at h1
 have h2:=JN  a.ak (by omega)
 try simp at h2
 have h3:=JJ  a.aO (by omega)
 try simp at h3
 simp -implicitDefEqProofs [xo,h1,h2,h3,hw]
 all_goals (repeat' split) <;> first | rfl | omega | (simp_all; done) | (simp_all; omega) | skip
theorem Jh (a b : Sh) (hb : bT a≤1073741824) : ev LI TT 25 [.agg ((bn .af) a),.agg ((bn .af) b)] = some (.bool (decide (a = b)),[.dead,.dead]):=by
 rw [aA (b:=kT) (rs:=[.t 4]) (n:=2) rfl rfl]
 have hw : bT a = cB a.bt + wL br a.ak + wL aN a.aO:=rfl
 rw [KR]
 have c1:=Jb  a.bt b.bt (by omega)
 cases g1 : decide (a.bt = b.bt)
 ·rw [g1] at c1
  try simp at c1
  simp -implicitDefEqProofs [kT,c1]
 rw [g1] at c1
 try simp at c1
 have c2:=Je  a.ak b.ak (by omega)
 cases g2 : decide (a.ak = b.ak)
 ·rw [g2] at c2
  try simp at c2
  simp -implicitDefEqProofs [kT,c1,c2]
 rw [g2] at c2
 try simp at c2
 have c3:=Ja  a.aO b.aO (by omega)
 cases g3 : decide (a.aO = b.aO)
 ·rw [g3] at c3
  try simp at c3
  simp -implicitDefEqProofs [kT,c1,c2,c3]
 rw [g3] at c3
 try simp at c3
 by_cases g4 : a.next = b.next
 rotate_left
 ·simp -implicitDefEqProofs [kT,c1,c2,c3,eq_false g4]
 by_cases g5 : a.seq = b.seq
 rotate_left
 ·simp -implicitDefEqProofs [kT,c1,c2,c3,eq_true g4,eq_false g5]
 simp -implicitDefEqProofs [kT,c1,c2,c3,eq_true g4,eq_true g5]
 all_goals (repeat' split) <;> first | rfl | omega | (simp_all; done) | (simp_all; omega) | skip
theorem JD (a : Rq) (n : Int) (hb : lJ a) (hn : 0≤n) (hm : n≤9223372036854775807) : ev LI TT 19 [.agg ((cF .af) a),.int .i64 n] = some (.int .i64 (aF n (dh a)),[.dead,.dead]):=by
 rw [aA (b:=nH) (rs:=[.t 4]) (n:=2) rfl rfl]
 have hw : dh a = a.path.length + wL aL a.fields + a.body.length:=rfl
 have ht:=cl n (dh a)
 have l6 : a.path.length≤9223372036854775807:=hb.AL
 obtain ⟨m1,e1⟩ : ∃ m,m = n - (a.path.length : Int):=⟨_,rfl⟩
 have c1 : IntKind.i64.wrap (n - (a.path.length : Int)) = m1:=by rw [e1]; exact bU (by omega) (by omega)
 by_cases h1 : m1 < 0
 ·have ef : aF n (dh a) = -1:=by omega
  simp -implicitDefEqProofs [nH,c1,h1,ef]
 have c2:=Da  a.fields m1 hb.AK (by omega) (by omega)
 have s2:=cl m1 (wL aL a.fields)
 obtain ⟨m2,e2⟩ : ∃ m,m = aF m1 (wL aL a.fields):=⟨_,rfl⟩
 rw [← e2] at c2 s2
 try simp at c2
 by_cases h2 : m2 < 0
 ·have ef : aF n (dh a) = -1:=by omega
  simp -implicitDefEqProofs [nH,c1,h1,c2,h2,ef]
 have WN : a.body.length≤9223372036854775807:=hb.AJ
 obtain ⟨m3,e3⟩ : ∃ m,m = m2 - (a.body.length : Int):=⟨_,rfl⟩
 have c3 : IntKind.i64.wrap (m2 - (a.body.length : Int)) = m3:=by rw [e3]; exact bU (by omega) (by omega)
 by_cases h3 : m3 < 0
 ·have ef : aF n (dh a) = -1:=by omega
  simp -implicitDefEqProofs [nH,c1,h1,c2,h2,c3,h3,ef]
 have ef : aF n (dh a) = m3:=by omega
 simp -implicitDefEqProofs [nH,c1,h1,c2,h2,c3,h3,ef]
 all_goals (repeat' split) <;> first | rfl | omega | (simp_all; done) | (simp_all; omega) | skip
theorem JP (a : Rq) (hb : dh a≤1048576) : ev LI TT 22 [.agg ((cF .af) a)] = some (.agg ((cF .own) a),[.dead]):=by
 rw [aA (b:=xl) (rs:=[.c 2 4 true 66]) (n:=1) rfl rfl]
 have hw : dh a = a.path.length + wL aL a.fields + a.body.length:=rfl
 have h1:=Db  a.fields (by omega)
 try simp at h1
 simp -implicitDefEqProofs [xl,h1,hw]
 all_goals (repeat' split) <;> first | rfl | omega | (simp_all; done) | (simp_all; omega) | skip
theorem Jf (a b : Rq) (hb : dh a≤1073741824) : ev LI TT 26 [.agg ((cF .af) a),.agg ((cF .af) b)] = some (.bool (decide (a = b)),[.dead,.dead]):=by
 rw [aA (b:=mw) (rs:=[.t 4]) (n:=2) rfl rfl]
 have hw : dh a = a.path.length + wL aL a.fields + a.body.length:=rfl
 rw [KP]
 by_cases g1 : a.method = b.method
 rotate_left
 ·simp -implicitDefEqProofs [mw,eq_false g1]
 by_cases g2 : a.path = b.path
 rotate_left
 ·simp -implicitDefEqProofs [mw,eq_true g1,eq_false g2]
 have c3:=C7  a.fields b.fields (by omega)
 cases g3 : decide (a.fields = b.fields)
 ·rw [g3] at c3
  try simp at c3
  simp -implicitDefEqProofs [mw,eq_true g1,eq_true g2,c3]
 rw [g3] at c3
 try simp at c3
 by_cases g4 : a.body = b.body
 rotate_left
 ·simp -implicitDefEqProofs [mw,eq_true g1,eq_true g2,c3,eq_false g4]
 simp -implicitDefEqProofs [mw,eq_true g1,eq_true g2,c3,eq_true g4]
 all_goals (repeat' split) <;> first | rfl | omega | (simp_all; done) | (simp_all; omega) | skip
end M
set_option maxHeartbeats 4000000
namespace M
open Go
variable [Lb]
theorem HA (n : Nat) (out : ah) (hn : out.length + n≤9223372036854775807) : aK (aq (ev LI TT) (av TT) Bj) [(0,.int .i64 n),(3,.str ⟨out.toArray⟩)] = some (.exit 0,[(0,.int .i64 0),(3,.str ⟨(nK n out).toArray⟩),(7,.bool false)]):=by
 have hs : ∀ s,aq (ev LI TT) (av TT) Bj s = aq (ev LI TT) (av TT) w6 s:=fun _=>rfl
 induction n using Nat.strongRecOn generalizing out with
 | ind n ih =>
  rw [gG,hs]
  unfold nK
  by_cases h : n = 0
  ·subst h
   simp -implicitDefEqProofs [w6]
  ·have hp : 0 < n:=by omega
   have:=ih (n / 10) (by omega) (UInt8.ofNat (48 + n % 10) :: out) (by rw [List.length_cons]; omega)
   have e1 : ((n : Int)).tmod 10 = ((n % 10 : Nat) : Int):=by rw [Int.tmod_eq_emod_of_nonneg (by omega)]; omega
   have e4 : ((n : Int)).tdiv 10 = ((n / 10 : Nat) : Int):=by rw [Int.tdiv_eq_ediv_of_nonneg (by omega)]; omega
   have e2 : IntKind.i64.wrap (48 + ((n % 10 : Nat) : Int)) = ((48 + n % 10 : Nat) : Int):=by rw [bU (by omega) (by omega)]; omega
   have e3 : IntKind.u8.wrap ((48 + n % 10 : Nat) : Int) = ((48 + n % 10 : Nat) : Int):=GW (by omega) (by omega)
   have e5:=Uq (48 + n % 10) (by omega)
   have e6 : IntKind.i64.wrap ((n / 10 : Nat) : Int) = ((n / 10 : Nat) : Int):=bU (by omega) (by omega)
   simp only [h,dite_false]
   rw [← this]
   simp -implicitDefEqProofs [w6,hp,BA,e1,e2,e3,e4,e5,e6,-Int.natCast_emod,-Int.natCast_ediv,-Int.natCast_add,-UInt8.ofNat_add,Gx,(by omega : 1 + out.length≤9223372036854775807)]
theorem PO : ∀ (n : Nat) (out : ah),(nK n out).length≤out.length + n:=by
 intro n
 induction n using Nat.strongRecOn with
 | ind n ih =>
  intro out
  unfold nK
  by_cases h : n = 0
  ·simp [h]
  ·simp only [h,dite_false]
   have:=ih (n / 10) (by omega) (UInt8.ofNat (48 + n % 10) :: out)
   rw [List.length_cons] at this
   omega
theorem iW (k : Int) (hk : k≤9223372036854775800) : ev LI TT 172 [.int .i64 k] = some (.str ⟨(nM k).toArray⟩,[.dead]):=by
 rw [aA (b:=sS) (rs:=[.t 2]) (n:=1) rfl rfl]
 unfold nM
 by_cases h : k≤0
 ·simp -implicitDefEqProofs [sS,h]
 obtain ⟨n,rfl⟩ : ∃ n : Nat,k = n:=⟨k.toNat,by omega⟩
 have h1:=HA  n [] (by simp; omega)
 have h2:=PO n []
 simp at h2
 simp -implicitDefEqProofs [sS,h,h1,Gx,(by omega : 1 + (nK n []).length≤9223372036854775807)]
 have h3 : ¬ n = 0:=by omega
 simp [h3]
theorem Hx (l : List aH) (k : Int) (hk : 0≤k) (hn : k + (nL aC l : Nat)≤1000000000000000) : aK (aq (ev LI TT) (av TT) sP) [(0,.ref 100000 []),(1,.int .i64 (k + ((nL aC (l.take 0) : Nat) : Int))),(5,.int .i64 0),(100000,.row .own 2 (dw ((aY dI aC l k).map aE) (l.map aE) 0))] = some (.exit 0,[(0,.ref 100000 []),(1,.int .i64 (k + ((nL aC l : Nat) : Int))),(5,.int .i64 l.length),(9,.bool false),(100000,.row .own 2 ((aY dI aC l k).map aE))]):=by
 refine gH (f:=aq (ev LI TT) (av TT) sP) (l) (fun i=>[(0,.ref 100000 []),(1,.int .i64 (k + ((nL aC (l.take i) : Nat) : Int))),(5,.int .i64 i),(100000,.row .own 2 (dw ((aY dI aC l k).map aE) (l.map aE) i))]) _ (fun i b hi hl=>?_) ?_
 ·have hw:=bl i (by have:=nR aC Dz l; omega)
  obtain ⟨_,rfl⟩:=List.getElem?_eq_some_iff.1 hi
  have hnt:=nS aC l i hl
  have hns:=mD aC l i hl
  have hg:=mC dI aC l k i hl (by simpa using hl)
  obtain ⟨k0,hk0⟩ : ∃ k0,k + ((nL aC (l.take i) : Nat) : Int) = k0:=⟨_,rfl⟩
  rw [hk0] at hg
  have hce : aC l[i] = 2:=rfl
  have m0:=iW k0 (by omega)
  obtain ⟨k1,hk1⟩ : ∃ x,k0 + 1 = x:=⟨_,rfl⟩
  have e0 : IntKind.i64.wrap (k0 + 1) = k1:=by rw [← hk1]; exact bU (by omega) (by omega)
  have m1:=iW k1 (by omega)
  obtain ⟨k2,hk2⟩ : ∃ x,k1 + 1 = x:=⟨_,rfl⟩
  have e1 : IntKind.i64.wrap (k1 + 1) = k2:=by rw [← hk2]; exact bU (by omega) (by omega)
  simp -implicitDefEqProofs [sP,Bg,hl,hw,hk0,m0,e0,m1,e1]
  refine ⟨?_,?_⟩
  ·omega
  ·(try simp only [jT])
   refine rq _ _ _ _ (by simp) (by simpa using hl) ?_
   simp [hg,dI,cK,bM,kW,hk1,hk2]
 ·rw [List.take_length]
  simp -implicitDefEqProofs [sP,Bg]
theorem yO (l : List aH) (k : Int) (hk : 0≤k) (hn : k + (nL aC l : Nat)≤1000000000000000) : ev LI TT 84 [.row .own 2 (l.map aE),.int .i64 k] = some (.int .i64 (k + ((nL aC l : Nat) : Int)),[.row .own 2 ((aY dI aC l k).map aE),.dead]):=by
 rw [aA (b:=wV) (rs:=[.t 4]) (n:=2) rfl rfl]
 have u1:=Hx l k hk hn
 simp [nL] at u1
 simp -implicitDefEqProofs [wV,u1,nL]
 all_goals (repeat' split) <;> first | rfl | omega | (simp_all; done) | (simp_all; omega) | skip
theorem Hu (l : List aH) (k : Int) (hk : 0≤k) (hn : k + (nL aC l : Nat)≤1000000000000000) : aK (aq (ev LI TT) (av TT) sM) [(0,.row .af 2 ((aY dI aC l k).map aE)),(1,.int .i64 (k + ((nL aC (l.take 0) : Nat) : Int))),(5,.int .i64 0)] = some (.exit 0,[(0,.row .af 2 ((aY dI aC l k).map aE)),(1,.int .i64 (k + ((nL aC l : Nat) : Int))),(5,.int .i64 l.length),(9,.bool false)]):=by
 refine gH (f:=aq (ev LI TT) (av TT) sM) (l) (fun i=>[(0,.row .af 2 ((aY dI aC l k).map aE)),(1,.int .i64 (k + ((nL aC (l.take i) : Nat) : Int))),(5,.int .i64 i)]) _ (fun i b hi hl=>?_) ?_
 ·have hw:=bl i (by have:=nR aC Dz l; omega)
  obtain ⟨_,rfl⟩:=List.getElem?_eq_some_iff.1 hi
  have hnt:=nS aC l i hl
  have hns:=mD aC l i hl
  have hg:=mC dI aC l k i hl (by simpa using hl)
  obtain ⟨k0,hk0⟩ : ∃ k0,k + ((nL aC (l.take i) : Nat) : Int) = k0:=⟨_,rfl⟩
  rw [hk0] at hg
  have hce : aC l[i] = 2:=rfl
  have m0:=iW k0 (by omega)
  obtain ⟨k1,hk1⟩ : ∃ x,k0 + 1 = x:=⟨_,rfl⟩
  have e0 : IntKind.i64.wrap (k0 + 1) = k1:=by rw [← hk1]; exact bU (by omega) (by omega)
  have f0 : IntKind.i64.wrap k1 = k1:=bU (by omega) (by omega)
  have m1:=iW k1 (by omega)
  obtain ⟨k2,hk2⟩ : ∃ x,k1 + 1 = x:=⟨_,rfl⟩
  have e1 : IntKind.i64.wrap (k1 + 1) = k2:=by rw [← hk2]; exact bU (by omega) (by omega)
  have f1 : IntKind.i64.wrap k2 = k2:=bU (by omega) (by omega)
  simp -implicitDefEqProofs [sM,Bd,hl,hw,hk0,hg,dI,cK,bM,kW,hk1,hk2,m0,e0,f0,m1,e1,f1]
  omega
 ·rw [List.take_length]
  simp -implicitDefEqProofs [sM,Bd]
theorem Jk (l : List aH) (k : Int) (hk : 0≤k) (hn : k + (nL aC l : Nat)≤1000000000000000) : ev LI TT 173 [.row .af 2 ((aY dI aC l k).map aE),.int .i64 k] = some (.int .i64 (k + ((nL aC l : Nat) : Int)),[.dead,.dead]):=by
 rw [aA (b:=wO) (rs:=[.t 4]) (n:=2) rfl rfl]
 have u1:=Hu l k hk hn
 simp [nL] at u1
 simp -implicitDefEqProofs [wO,u1,nL]
 all_goals (repeat' split) <;> first | rfl | omega | (simp_all; done) | (simp_all; omega) | skip
theorem Hz (l : List ah) (k : Int) (hk : 0≤k) (hn : k + (nL aB l : Nat)≤1000000000000000) : aK (aq (ev LI TT) (av TT) sR) [(0,.ref 100000 []),(1,.int .i64 (k + ((nL aB (l.take 0) : Nat) : Int))),(5,.int .i64 0),(100000,.row .own 1 (dw ((aY bM aB l k).map eS) (l.map eS) 0))] = some (.exit 0,[(0,.ref 100000 []),(1,.int .i64 (k + ((nL aB l : Nat) : Int))),(5,.int .i64 l.length),(9,.bool false),(100000,.row .own 1 ((aY bM aB l k).map eS))]):=by
 refine gH (f:=aq (ev LI TT) (av TT) sR) (l) (fun i=>[(0,.ref 100000 []),(1,.int .i64 (k + ((nL aB (l.take i) : Nat) : Int))),(5,.int .i64 i),(100000,.row .own 1 (dw ((aY bM aB l k).map eS) (l.map eS) i))]) _ (fun i b hi hl=>?_) ?_
 ·have hw:=bl i (by have:=nR aB (fun _=>Nat.le_refl 1) l; omega)
  obtain ⟨_,rfl⟩:=List.getElem?_eq_some_iff.1 hi
  have hnt:=nS aB l i hl
  have hns:=mD aB l i hl
  have hg:=mC bM aB l k i hl (by simpa using hl)
  obtain ⟨k0,hk0⟩ : ∃ k0,k + ((nL aB (l.take i) : Nat) : Int) = k0:=⟨_,rfl⟩
  rw [hk0] at hg
  have hce : aB l[i] = 1:=rfl
  have m0:=iW k0 (by omega)
  obtain ⟨k1,hk1⟩ : ∃ x,k0 + 1 = x:=⟨_,rfl⟩
  have e0 : IntKind.i64.wrap (k0 + 1) = k1:=by rw [← hk1]; exact bU (by omega) (by omega)
  simp -implicitDefEqProofs [sR,Bi,hl,hw,hk0,m0,e0]
  refine ⟨?_,?_⟩
  ·omega
  ·(try simp only [jT])
   refine rq _ _ _ _ (by simp) (by simpa using hl) ?_
   simp [hg,cK,bM,kW,hk1]
 ·rw [List.take_length]
  simp -implicitDefEqProofs [sR,Bi]
theorem qQ (l : List ah) (k : Int) (hk : 0≤k) (hn : k + (nL aB l : Nat)≤1000000000000000) : ev LI TT 85 [.row .own 1 (l.map eS),.int .i64 k] = some (.int .i64 (k + ((nL aB l : Nat) : Int)),[.row .own 1 ((aY bM aB l k).map eS),.dead]):=by
 rw [aA (b:=w5) (rs:=[.t 4]) (n:=2) rfl rfl]
 have u1:=Hz l k hk hn
 simp [nL] at u1
 simp -implicitDefEqProofs [w5,u1,nL]
 all_goals (repeat' split) <;> first | rfl | omega | (simp_all; done) | (simp_all; omega) | skip
theorem Hv (l : List ah) (k : Int) (hk : 0≤k) (hn : k + (nL aB l : Nat)≤1000000000000000) : aK (aq (ev LI TT) (av TT) sN) [(0,.row .af 1 ((aY bM aB l k).map eS)),(1,.int .i64 (k + ((nL aB (l.take 0) : Nat) : Int))),(5,.int .i64 0)] = some (.exit 0,[(0,.row .af 1 ((aY bM aB l k).map eS)),(1,.int .i64 (k + ((nL aB l : Nat) : Int))),(5,.int .i64 l.length),(9,.bool false)]):=by
 refine gH (f:=aq (ev LI TT) (av TT) sN) (l) (fun i=>[(0,.row .af 1 ((aY bM aB l k).map eS)),(1,.int .i64 (k + ((nL aB (l.take i) : Nat) : Int))),(5,.int .i64 i)]) _ (fun i b hi hl=>?_) ?_
 ·have hw:=bl i (by have:=nR aB (fun _=>Nat.le_refl 1) l; omega)
  obtain ⟨_,rfl⟩:=List.getElem?_eq_some_iff.1 hi
  have hnt:=nS aB l i hl
  have hns:=mD aB l i hl
  have hg:=mC bM aB l k i hl (by simpa using hl)
  obtain ⟨k0,hk0⟩ : ∃ k0,k + ((nL aB (l.take i) : Nat) : Int) = k0:=⟨_,rfl⟩
  rw [hk0] at hg
  have hce : aB l[i] = 1:=rfl
  have m0:=iW k0 (by omega)
  obtain ⟨k1,hk1⟩ : ∃ x,k0 + 1 = x:=⟨_,rfl⟩
  have e0 : IntKind.i64.wrap (k0 + 1) = k1:=by rw [← hk1]; exact bU (by omega) (by omega)
  have f0 : IntKind.i64.wrap k1 = k1:=bU (by omega) (by omega)
  simp -implicitDefEqProofs [sN,Be,hl,hw,hk0,hg,cK,bM,kW,hk1,m0,e0,f0]
  omega
 ·rw [List.take_length]
  simp -implicitDefEqProofs [sN,Be]
theorem C9 (l : List ah) (k : Int) (hk : 0≤k) (hn : k + (nL aB l : Nat)≤1000000000000000) : ev LI TT 87 [.row .af 1 ((aY bM aB l k).map eS),.int .i64 k] = some (.int .i64 (k + ((nL aB l : Nat) : Int)),[.dead,.dead]):=by
 rw [aA (b:=wR) (rs:=[.t 4]) (n:=2) rfl rfl]
 have u1:=Hv l k hk hn
 simp [nL] at u1
 simp -implicitDefEqProofs [wR,u1,nL]
 all_goals (repeat' split) <;> first | rfl | omega | (simp_all; done) | (simp_all; omega) | skip
theorem HB (l : List Wr) (k : Int) (hk : 0≤k) (hn : k + (nL cZ l : Nat)≤1000000000000000) : aK (aq (ev LI TT) (av TT) sU) [(0,.ref 100000 []),(1,.int .i64 (k + ((nL cZ (l.take 0) : Nat) : Int))),(5,.int .i64 0),(100000,.row .own 2 (dw ((aY nQ cZ l k).map eW) (l.map eW) 0))] = some (.exit 0,[(0,.ref 100000 []),(1,.int .i64 (k + ((nL cZ l : Nat) : Int))),(5,.int .i64 l.length),(9,.bool false),(100000,.row .own 2 ((aY nQ cZ l k).map eW))]):=by
 refine gH (f:=aq (ev LI TT) (av TT) sU) (l) (fun i=>[(0,.ref 100000 []),(1,.int .i64 (k + ((nL cZ (l.take i) : Nat) : Int))),(5,.int .i64 i),(100000,.row .own 2 (dw ((aY nQ cZ l k).map eW) (l.map eW) i))]) _ (fun i b hi hl=>?_) ?_
 ·have hw:=bl i (by have:=nR cZ Kz l; omega)
  obtain ⟨_,rfl⟩:=List.getElem?_eq_some_iff.1 hi
  have hnt:=nS cZ l i hl
  have hns:=mD cZ l i hl
  have hg:=mC nQ cZ l k i hl (by simpa using hl)
  obtain ⟨k0,hk0⟩ : ∃ k0,k + ((nL cZ (l.take i) : Nat) : Int) = k0:=⟨_,rfl⟩
  rw [hk0] at hg
  have hce : cZ l[i] = 2:=rfl
  obtain ⟨k1,hk1⟩ : ∃ x,k0 + 1 = x:=⟨_,rfl⟩
  have e0 : IntKind.i64.wrap (k0 + 1) = k1:=by rw [← hk1]; exact bU (by omega) (by omega)
  have m1:=iW k1 (by omega)
  obtain ⟨k2,hk2⟩ : ∃ x,k1 + 1 = x:=⟨_,rfl⟩
  have e1 : IntKind.i64.wrap (k1 + 1) = k2:=by rw [← hk2]; exact bU (by omega) (by omega)
  simp -implicitDefEqProofs [sU,Bk,hl,hw,hk0,e0,m1,e1]
  refine ⟨?_,?_⟩
  ·omega
  ·(try simp only [jT])
   refine rq _ _ _ _ (by simp) (by simpa using hl) ?_
   simp [hg,nQ,cK,bM,kW,hk1,hk2]
 ·rw [List.take_length]
  simp -implicitDefEqProofs [sU,Bk]
theorem Ju (l : List Wr) (k : Int) (hk : 0≤k) (hn : k + (nL cZ l : Nat)≤1000000000000000) : ev LI TT 133 [.row .own 2 (l.map eW),.int .i64 k] = some (.int .i64 (k + ((nL cZ l : Nat) : Int)),[.row .own 2 ((aY nQ cZ l k).map eW),.dead]):=by
 rw [aA (b:=w7) (rs:=[.t 4]) (n:=2) rfl rfl]
 have u1:=HB l k hk hn
 simp [nL] at u1
 simp -implicitDefEqProofs [w7,u1,nL]
 all_goals (repeat' split) <;> first | rfl | omega | (simp_all; done) | (simp_all; omega) | skip
theorem Hy (l : List Kp) (k : Int) (hk : 0≤k) (hn : k + (nL cS l : Nat)≤1000000000000000) : aK (aq (ev LI TT) (av TT) sQ) [(0,.ref 100000 []),(1,.int .i64 (k + ((nL cS (l.take 0) : Nat) : Int))),(5,.int .i64 0),(100000,.row .own 9 (dw ((aY nP cS l k).map (aP .own)) (l.map (aP .own)) 0))] = some (.exit 0,[(0,.ref 100000 []),(1,.int .i64 (k + ((nL cS l : Nat) : Int))),(5,.int .i64 l.length),(9,.bool false),(100000,.row .own 9 ((aY nP cS l k).map (aP .own)))]):=by
 refine gH (f:=aq (ev LI TT) (av TT) sQ) (l) (fun i=>[(0,.ref 100000 []),(1,.int .i64 (k + ((nL cS (l.take i) : Nat) : Int))),(5,.int .i64 i),(100000,.row .own 9 (dw ((aY nP cS l k).map (aP .own)) (l.map (aP .own)) i))]) _ (fun i b hi hl=>?_) ?_
 ·have hw:=bl i (by have:=nR cS Kv l; omega)
  obtain ⟨_,rfl⟩:=List.getElem?_eq_some_iff.1 hi
  have hnt:=nS cS l i hl
  have hns:=mD cS l i hl
  have hg:=mC nP cS l k i hl (by simpa using hl)
  obtain ⟨k0,hk0⟩ : ∃ k0,k + ((nL cS (l.take i) : Nat) : Int) = k0:=⟨_,rfl⟩
  rw [hk0] at hg
  have hce : cS l[i] = 6 + nL aB l[i].obj.names + nL aB l[i].obj.values + nL aC l[i].obj.resp.fields:=rfl
  have m0:=iW k0 (by omega)
  obtain ⟨k1,hk1⟩ : ∃ x,k0 + 1 = x:=⟨_,rfl⟩
  have e0 : IntKind.i64.wrap (k0 + 1) = k1:=by rw [← hk1]; exact bU (by omega) (by omega)
  have u1:=qQ l[i].obj.names k1 (by omega) (by omega)
  obtain ⟨k2,hk2⟩ : ∃ x,k1 + ((nL aB l[i].obj.names : Nat) : Int) = x:=⟨_,rfl⟩
  rw [hk2] at u1
  try simp at u1
  have u2:=qQ l[i].obj.values k2 (by omega) (by omega)
  obtain ⟨k3,fO⟩ : ∃ x,k2 + ((nL aB l[i].obj.values : Nat) : Int) = x:=⟨_,rfl⟩
  rw [fO] at u2
  try simp at u2
  obtain ⟨k4,rQ⟩ : ∃ x,k3 + 1 = x:=⟨_,rfl⟩
  have e3 : IntKind.i64.wrap (k3 + 1) = k4:=by rw [← rQ]; exact bU (by omega) (by omega)
  have u4:=yO l[i].obj.resp.fields k4 (by omega) (by omega)
  obtain ⟨k5,EW⟩ : ∃ x,k4 + ((nL aC l[i].obj.resp.fields : Nat) : Int) = x:=⟨_,rfl⟩
  rw [EW] at u4
  try simp at u4
  have m5:=iW k5 (by omega)
  obtain ⟨k6,EX⟩ : ∃ x,k5 + 1 = x:=⟨_,rfl⟩
  have e5 : IntKind.i64.wrap (k5 + 1) = k6:=by rw [← EX]; exact bU (by omega) (by omega)
  obtain ⟨k7,EY⟩ : ∃ x,k6 + 1 = x:=⟨_,rfl⟩
  have e6 : IntKind.i64.wrap (k6 + 1) = k7:=by rw [← EY]; exact bU (by omega) (by omega)
  obtain ⟨k8,EZ⟩ : ∃ x,k7 + 1 = x:=⟨_,rfl⟩
  have e7 : IntKind.i64.wrap (k7 + 1) = k8:=by rw [← EZ]; exact bU (by omega) (by omega)
  obtain ⟨k9,E0⟩ : ∃ x,k8 + 1 = x:=⟨_,rfl⟩
  have e8 : IntKind.i64.wrap (k8 + 1) = k9:=by rw [← E0]; exact bU (by omega) (by omega)
  simp -implicitDefEqProofs [sQ,Bh,hl,hw,hk0,m0,e0,u1,u2,e3,u4,m5,e5,e6,e7,e8]
  refine ⟨?_,?_⟩
  ·omega
  ·(try simp only [jT])
   refine rq _ _ _ _ (by simp) (by simpa using hl) ?_
   simp [hg,nP,cK,bM,kW,hk1,hk2,fO,rQ,EW,EX,EY,EZ,E0]
 ·rw [List.take_length]
  simp -implicitDefEqProofs [sQ,Bh]
theorem Jp (l : List Kp) (k : Int) (hk : 0≤k) (hn : k + (nL cS l : Nat)≤1000000000000000) : ev LI TT 82 [.row .own 9 (l.map (aP .own)),.int .i64 k] = some (.int .i64 (k + ((nL cS l : Nat) : Int)),[.row .own 9 ((aY nP cS l k).map (aP .own)),.dead]):=by
 rw [aA (b:=wW) (rs:=[.t 4]) (n:=2) rfl rfl]
 have u1:=Hy l k hk hn
 simp [nL] at u1
 simp -implicitDefEqProofs [wW,u1,nL]
 all_goals (repeat' split) <;> first | rfl | omega | (simp_all; done) | (simp_all; omega) | skip
theorem Hw (l : List Bn) (k : Int) (hk : 0≤k) (hn : k + (nL cY l : Nat)≤1000000000000000) : aK (aq (ev LI TT) (av TT) sO) [(0,.ref 100000 []),(1,.int .i64 (k + ((nL cY (l.take 0) : Nat) : Int))),(5,.int .i64 0),(100000,.row .own 4 (dw ((aY nO cY l k).map aZ) (l.map aZ) 0))] = some (.exit 0,[(0,.ref 100000 []),(1,.int .i64 (k + ((nL cY l : Nat) : Int))),(5,.int .i64 l.length),(9,.bool false),(100000,.row .own 4 ((aY nO cY l k).map aZ))]):=by
 refine gH (f:=aq (ev LI TT) (av TT) sO) (l) (fun i=>[(0,.ref 100000 []),(1,.int .i64 (k + ((nL cY (l.take i) : Nat) : Int))),(5,.int .i64 i),(100000,.row .own 4 (dw ((aY nO cY l k).map aZ) (l.map aZ) i))]) _ (fun i b hi hl=>?_) ?_
 ·have hw:=bl i (by have:=nR cY Kt l; omega)
  obtain ⟨_,rfl⟩:=List.getElem?_eq_some_iff.1 hi
  have hnt:=nS cY l i hl
  have hns:=mD cY l i hl
  have hg:=mC nO cY l k i hl (by simpa using hl)
  obtain ⟨k0,hk0⟩ : ∃ k0,k + ((nL cY (l.take i) : Nat) : Int) = k0:=⟨_,rfl⟩
  rw [hk0] at hg
  have hce : cY l[i] = 4:=rfl
  obtain ⟨k1,hk1⟩ : ∃ x,k0 + 1 = x:=⟨_,rfl⟩
  have e0 : IntKind.i64.wrap (k0 + 1) = k1:=by rw [← hk1]; exact bU (by omega) (by omega)
  have m1:=iW k1 (by omega)
  obtain ⟨k2,hk2⟩ : ∃ x,k1 + 1 = x:=⟨_,rfl⟩
  have e1 : IntKind.i64.wrap (k1 + 1) = k2:=by rw [← hk2]; exact bU (by omega) (by omega)
  have m2:=iW k2 (by omega)
  obtain ⟨k3,fO⟩ : ∃ x,k2 + 1 = x:=⟨_,rfl⟩
  have e2 : IntKind.i64.wrap (k2 + 1) = k3:=by rw [← fO]; exact bU (by omega) (by omega)
  obtain ⟨k4,rQ⟩ : ∃ x,k3 + 1 = x:=⟨_,rfl⟩
  have e3 : IntKind.i64.wrap (k3 + 1) = k4:=by rw [← rQ]; exact bU (by omega) (by omega)
  simp -implicitDefEqProofs [sO,Bf,hl,hw,hk0,e0,m1,e1,m2,e2,e3]
  refine ⟨?_,?_⟩
  ·omega
  ·(try simp only [jT])
   refine rq _ _ _ _ (by simp) (by simpa using hl) ?_
   simp [hg,nO,cK,bM,kW,hk1,hk2,fO,rQ]
 ·rw [List.take_length]
  simp -implicitDefEqProofs [sO,Bf]
theorem Jn (l : List Bn) (k : Int) (hk : 0≤k) (hn : k + (nL cY l : Nat)≤1000000000000000) : ev LI TT 83 [.row .own 4 (l.map aZ),.int .i64 k] = some (.int .i64 (k + ((nL cY l : Nat) : Int)),[.row .own 4 ((aY nO cY l k).map aZ),.dead]):=by
 rw [aA (b:=wT) (rs:=[.t 4]) (n:=2) rfl rfl]
 have u1:=Hw l k hk hn
 simp [nL] at u1
 simp -implicitDefEqProofs [wT,u1,nL]
 all_goals (repeat' split) <;> first | rfl | omega | (simp_all; done) | (simp_all; omega) | skip
theorem Js (a : cM) (k : Int) (hk : 0≤k) (hn : k + (fS a : Nat)≤1000000000000000) : ev LI TT 86 [.agg (eC .own a),.int .i64 k] = some (.int .i64 (k + ((fS a : Nat) : Int)),[.agg (eC .own (jw a k)),.dead]):=by
 rw [aA (b:=wZ) (rs:=[.t 4]) (n:=2) rfl rfl]
 unfold fS at hn
 unfold fS jw
 have u1:=yO a.fields k (by omega) (by omega)
 obtain ⟨k1,hk1⟩ : ∃ x,k + ((nL aC a.fields : Nat) : Int) = x:=⟨_,rfl⟩
 rw [hk1] at u1
 try simp at u1
 have hT : k + ((nL aC a.fields : Nat) : Int) = k1:=by omega
 rw [hT]
 simp -implicitDefEqProofs [wZ,u1,hk1,ku,kY,jW,eK,dm,mF,fe,jH,gZ]
 all_goals (repeat' split) <;> first | rfl | omega | (simp_all; done) | (simp_all; omega) | skip
theorem Jm (a : cM) (k : Int) (hk : 0≤k) (hn : k + (fS a : Nat)≤1000000000000000) : ev LI TT 88 [.agg (eC .af (jw a k)),.int .i64 k] = some (.int .i64 (k + ((fS a : Nat) : Int)),[.dead,.dead]):=by
 rw [aA (b:=wQ) (rs:=[.t 4]) (n:=2) rfl rfl]
 unfold fS at hn
 unfold fS jw
 have u1:=Jk a.fields k (by omega) (by omega)
 obtain ⟨k1,hk1⟩ : ∃ x,k + ((nL aC a.fields : Nat) : Int) = x:=⟨_,rfl⟩
 rw [hk1] at u1
 try simp at u1
 have n1 : ¬ k1 < 0:=by omega
 have hT : k + ((nL aC a.fields : Nat) : Int) = k1:=by omega
 rw [hT]
 simp -implicitDefEqProofs [wQ,u1,hk1,n1]
 all_goals (repeat' split) <;> first | rfl | omega | (simp_all; done) | (simp_all; omega) | skip
theorem Jr (a : Rq) (k : Int) (hk : 0≤k) (hn : k + (j9 a : Nat)≤1000000000000000) : ev LI TT 28 [.agg (cF .own a),.int .i64 k] = some (.int .i64 (k + ((j9 a : Nat) : Int)),[.agg (cF .own (oh a k)),.dead]):=by
 rw [aA (b:=wY) (rs:=[.t 4]) (n:=2) rfl rfl]
 unfold j9 at hn
 unfold j9 oh
 have u1:=yO a.fields k (by omega) (by omega)
 obtain ⟨k1,hk1⟩ : ∃ x,k + ((nL aC a.fields : Nat) : Int) = x:=⟨_,rfl⟩
 rw [hk1] at u1
 try simp at u1
 have hT : k + ((nL aC a.fields : Nat) : Int) = k1:=by omega
 rw [hT]
 simp -implicitDefEqProofs [wY,u1,hk1,ku,kY,jW,eK,dm,mF,fe,jH,gZ]
 all_goals (repeat' split) <;> first | rfl | omega | (simp_all; done) | (simp_all; omega) | skip
theorem Jq (a : Ob) (k : Int) (hk : 0≤k) (hn : k + (jy a : Nat)≤1000000000000000) : ev LI TT 29 [.agg (bw .own a),.int .i64 k] = some (.int .i64 (k + ((jy a : Nat) : Int)),[.agg (bw .own (og a k)),.dead]):=by
 rw [aA (b:=wX) (rs:=[.t 4]) (n:=2) rfl rfl]
 unfold jy at hn
 unfold jy og
 have u1:=qQ a.names k (by omega) (by omega)
 obtain ⟨k1,hk1⟩ : ∃ x,k + ((nL aB a.names : Nat) : Int) = x:=⟨_,rfl⟩
 rw [hk1] at u1
 try simp at u1
 have u2:=qQ a.values k1 (by omega) (by omega)
 obtain ⟨k2,hk2⟩ : ∃ x,k1 + ((nL aB a.values : Nat) : Int) = x:=⟨_,rfl⟩
 rw [hk2] at u2
 try simp at u2
 have u3:=Js a.resp k2 (by omega) (by omega)
 obtain ⟨k3,fO⟩ : ∃ x,k2 + ((fS a.resp : Nat) : Int) = x:=⟨_,rfl⟩
 rw [fO] at u3
 try simp at u3
 have hT : k + ((nL aB a.names + nL aB a.values + fS a.resp : Nat) : Int) = k3:=by omega
 rw [hT]
 simp -implicitDefEqProofs [wX,u1,hk1,u2,hk2,u3,fO,ku,kY,jW,eK,dm,mF,fe,jH,gZ,jw]
 all_goals (repeat' split) <;> first | rfl | omega | (simp_all; done) | (simp_all; omega) | skip
theorem Jl (a : Ob) (k : Int) (hk : 0≤k) (hn : k + (jy a : Nat)≤1000000000000000) : ev LI TT 30 [.agg (bw .af (og a k)),.int .i64 k] = some (.int .i64 (k + ((jy a : Nat) : Int)),[.dead,.dead]):=by
 rw [aA (b:=wP) (rs:=[.t 4]) (n:=2) rfl rfl]
 unfold jy at hn
 unfold jy og
 have u1:=C9 a.names k (by omega) (by omega)
 obtain ⟨k1,hk1⟩ : ∃ x,k + ((nL aB a.names : Nat) : Int) = x:=⟨_,rfl⟩
 rw [hk1] at u1
 try simp at u1
 have n1 : ¬ k1 < 0:=by omega
 have u2:=C9 a.values k1 (by omega) (by omega)
 obtain ⟨k2,hk2⟩ : ∃ x,k1 + ((nL aB a.values : Nat) : Int) = x:=⟨_,rfl⟩
 rw [hk2] at u2
 try simp at u2
 have n2 : ¬ k2 < 0:=by omega
 have u3:=Jm a.resp k2 (by omega) (by omega)
 obtain ⟨k3,fO⟩ : ∃ x,k2 + ((fS a.resp : Nat) : Int) = x:=⟨_,rfl⟩
 rw [fO] at u3
 try simp at u3
 have n3 : ¬ k3 < 0:=by omega
 have hT : k + ((nL aB a.names + nL aB a.values + fS a.resp : Nat) : Int) = k3:=by omega
 rw [hT]
 simp -implicitDefEqProofs [wP,u1,hk1,n1,u2,hk2,n2,u3,fO,n3]
 all_goals (repeat' split) <;> first | rfl | omega | (simp_all; done) | (simp_all; omega) | skip
theorem Jo (a : dY) (k : Int) (hk : 0≤k) (hn : k + (jx a : Nat)≤1000000000000000) : ev LI TT 49 [.agg (fH .own a),.int .i64 k] = some (.int .i64 (k + ((jx a : Nat) : Int)),[.agg (fH .own (ur a k)),.dead]):=by
 rw [aA (b:=wU) (rs:=[.t 4]) (n:=2) rfl rfl]
 unfold jx at hn
 unfold jx ur
 have u1:=qQ a.cells k (by omega) (by omega)
 obtain ⟨k1,hk1⟩ : ∃ x,k + ((nL aB a.cells : Nat) : Int) = x:=⟨_,rfl⟩
 rw [hk1] at u1
 try simp at u1
 have u2:=Ju a.pending k1 (by omega) (by omega)
 obtain ⟨k2,hk2⟩ : ∃ x,k1 + ((nL cZ a.pending : Nat) : Int) = x:=⟨_,rfl⟩
 rw [hk2] at u2
 try simp at u2
 have hT : k + ((nL aB a.cells + nL cZ a.pending : Nat) : Int) = k2:=by omega
 rw [hT]
 simp -implicitDefEqProofs [wU,u1,hk1,u2,hk2,ku,kY,jW,eK,dm,mF,fe,jH,gZ]
 all_goals (repeat' split) <;> first | rfl | omega | (simp_all; done) | (simp_all; omega) | skip
theorem Jt (a : Sh) (k : Int) (hk : 0≤k) (hn : k + (ke a : Nat)≤1000000000000000) : ev LI TT 27 [.agg (bn .own a),.int .i64 k] = some (.int .i64 (k + ((ke a : Nat) : Int)),[.agg (bn .own (om a k)),.dead]):=by
 rw [aA (b:=w4) (rs:=[.t 4]) (n:=2) rfl rfl]
 unfold ke at hn
 unfold ke om
 have u1:=Jo a.bt k (by omega) (by omega)
 obtain ⟨k1,hk1⟩ : ∃ x,k + ((jx a.bt : Nat) : Int) = x:=⟨_,rfl⟩
 rw [hk1] at u1
 try simp at u1
 have u2:=Jp a.ak k1 (by omega) (by omega)
 obtain ⟨k2,hk2⟩ : ∃ x,k1 + ((nL cS a.ak : Nat) : Int) = x:=⟨_,rfl⟩
 rw [hk2] at u2
 try simp at u2
 have u3:=Jn a.aO k2 (by omega) (by omega)
 obtain ⟨k3,fO⟩ : ∃ x,k2 + ((nL cY a.aO : Nat) : Int) = x:=⟨_,rfl⟩
 rw [fO] at u3
 try simp at u3
 have hT : k + ((jx a.bt + nL cS a.ak + nL cY a.aO : Nat) : Int) = k3:=by omega
 rw [hT]
 simp -implicitDefEqProofs [w4,u1,hk1,u2,hk2,u3,fO,ku,kY,jW,eK,dm,mF,fe,jH,gZ,ur]
 all_goals (repeat' split) <;> first | rfl | omega | (simp_all; done) | (simp_all; omega) | skip
end M
namespace M
open Go
variable [Lb]
@[simp] theorem Vc (x : Int) (lo : Int) (hi : Int) : ev LI TT 137 [.int .i64 x,.int .i64 lo,.int .i64 hi] = some (.bool ((decide (lo≤x∧x≤hi))),[.dead,.dead,.dead]):=by
 rw [aA (b:=xT) (rs:=[.t 6]) (n:=3) rfl rfl]
 simp -implicitDefEqProofs [xT]
 try (by_cases h1 : lo≤x <;> by_cases h2 : x≤hi <;> simp [h1,h2])
@[simp] theorem U8 (x : Int) (lo : Int) (hi : Int) : ev LI TT 180 [.int .i64 x,.int .i64 lo,.int .i64 hi] = some (.bool ((decide (lo≤x∧x≤hi))),[.dead,.dead,.dead]):=by
 rw [aA (b:=wz) (rs:=[.t 6]) (n:=3) rfl rfl]
 simp -implicitDefEqProofs [wz]
 try (by_cases h1 : lo≤x <;> by_cases h2 : x≤hi <;> simp [h1,h2])
theorem HW (s : ah) (hb : s.length≤9223372036854775807) : aK (aq (ev LI TT) (av TT) tU) [(0,.str ⟨s.toArray⟩),(3,.int .i64 0)] = if aW oo (s) = true then some (.exit 0,[(0,.str ⟨s.toArray⟩),(3,.int .i64 (s).length),(8,.bool false)]) else some (.ret,[(2,.bool false)]):=by
 refine cV (f:=aq (ev LI TT) (av TT) tU) (s) (fun i=>[(0,.str ⟨s.toArray⟩),(3,.int .i64 i)]) oo _ _ (fun i b hi hl=>?_) ?_
 ·have hw:=bl i (by first | omega | (simp at hl; omega))
  obtain ⟨_,rfl⟩:=List.getElem?_eq_some_iff.1 hi
  unfold oo
  simp -implicitDefEqProofs [tU,Cd,hl,hw]
  all_goals (repeat' split) <;> first | rfl | omega | (simp_all; done) | (simp_all; omega) | skip
 ·simp -implicitDefEqProofs [tU,Cd]
theorem yS (s : ah) (hb : s.length≤9223372036854775807) : ev LI TT 184 [.str ⟨s.toArray⟩] = some (.bool ((eM s)),[.dead]):=by
 rw [aA (b:=xO) (rs:=[.t 2]) (n:=1) rfl rfl]
 unfold eM
 have u1:=HW  s hb
 try simp at u1
 simp -implicitDefEqProofs [xO,u1]
 all_goals (repeat' split) <;> first | rfl | omega | (simp_all; done) | (simp_all; omega) | skip
theorem Hg (s : ah) (hb : s.length≤9223372036854775807) : aK (aq (ev LI TT) (av TT) sy) [(0,.str ⟨s.toArray⟩),(3,.int .i64 0)] = if aW oo (s) = true then some (.exit 0,[(0,.str ⟨s.toArray⟩),(3,.int .i64 (s).length),(7,.bool false)]) else some (.ret,[(2,.bool false)]):=by
 refine cV (f:=aq (ev LI TT) (av TT) sy) (s) (fun i=>[(0,.str ⟨s.toArray⟩),(3,.int .i64 i)]) oo _ _ (fun i b hi hl=>?_) ?_
 ·have hw:=bl i (by first | omega | (simp at hl; omega))
  obtain ⟨_,rfl⟩:=List.getElem?_eq_some_iff.1 hi
  unfold oo
  simp -implicitDefEqProofs [sy,Ay,hl,hw]
  all_goals (repeat' split) <;> first | rfl | omega | (simp_all; done) | (simp_all; omega) | skip
 ·simp -implicitDefEqProofs [sy,Ay]
theorem yL (s : ah) (hb : s.length≤9223372036854775807) : ev LI TT 260 [.str ⟨s.toArray⟩] = some (.bool ((eM s)),[.dead]):=by
 rw [aA (b:=wg) (rs:=[.t 2]) (n:=1) rfl rfl]
 unfold eM
 have u1:=Hg  s hb
 try simp at u1
 simp -implicitDefEqProofs [wg,u1]
 all_goals (repeat' split) <;> first | rfl | omega | (simp_all; done) | (simp_all; omega) | skip
theorem Hj (s : ah) (lo : UInt8) (hb : s.length≤9223372036854775807) : aK (aq (ev LI TT) (av TT) sC) [(0,.str ⟨s.toArray⟩),(1,.int .u8 (lo.toNat : Int)),(5,.int .i64 0)] = if aW (gq lo.toNat) (s) = true then some (.exit 0,[(0,.str ⟨s.toArray⟩),(1,.int .u8 (lo.toNat : Int)),(5,.int .i64 (s).length),(9,.bool false)]) else some (.ret,[(4,.bool false)]):=by
 refine cV (f:=aq (ev LI TT) (av TT) sC) (s) (fun i=>[(0,.str ⟨s.toArray⟩),(1,.int .u8 (lo.toNat : Int)),(5,.int .i64 i)]) (gq lo.toNat) _ _ (fun i b hi hl=>?_) ?_
 ·have hw:=bl i (by first | omega | (simp at hl; omega))
  obtain ⟨_,rfl⟩:=List.getElem?_eq_some_iff.1 hi
  unfold gq
  simp -implicitDefEqProofs [sC,AB,hl,hw]
  all_goals (repeat' split) <;> first | rfl | omega | (simp_all; done) | (simp_all; omega) | skip
 ·simp -implicitDefEqProofs [sC,AB]
theorem C4 (s : ah) (lo : UInt8) (hb : s.length≤9223372036854775807) : ev LI TT 305 [.str ⟨s.toArray⟩,.int .u8 (lo.toNat : Int)] = some (.bool ((aW (gq lo.toNat) s)),[.dead,.dead]):=by
 rw [aA (b:=wm) (rs:=[.t 4]) (n:=2) rfl rfl]
 have u1:=Hj  s lo hb
 try simp at u1
 simp -implicitDefEqProofs [wm,u1]
 all_goals (repeat' split) <;> first | rfl | omega | (simp_all; done) | (simp_all; omega) | skip
end M
namespace M
open Go
variable [Lb]
def dA (b : UInt8) : Bool:=decide ¬ (b.toNat : Int) = 32
theorem HX (s : ah) (hb : s.length≤9223372036854775807) : aK (aq (ev LI TT) (av TT) tV) [(0,.str ⟨s.toArray⟩),(3,.int .i64 0),(4,.int .i64 s.length)] = some (.exit 0,(fun (i : Nat)=>[(0,.str ⟨s.toArray⟩),(3,.int .i64 i),(4,.int .i64 s.length),(15,.bool false)]) (cL dA (s))):=by
 refine FB (f:=aq (ev LI TT) (av TT) tV) (s) (fun i=>[(0,.str ⟨s.toArray⟩),(3,.int .i64 i),(4,.int .i64 s.length)]) dA (fun (i : Nat)=>[(0,.str ⟨s.toArray⟩),(3,.int .i64 i),(4,.int .i64 s.length),(15,.bool false)]) (fun i b hi hl=>?_) ?_
 ·have hw:=bl i (by first | omega | (simp at hl; omega))
  obtain ⟨_,rfl⟩:=List.getElem?_eq_some_iff.1 hi
  simp -implicitDefEqProofs [tV,Ce,hl,hw,dA]
  all_goals (repeat' split) <;> first | rfl | omega | (simp_all; done) | (simp_all; omega) | skip
 ·simp -implicitDefEqProofs [tV,Ce]
theorem HY (s : ah) (k : Nat) (hk : k≤s.length) (hb : s.length≤9223372036854775807) : aK (aq (ev LI TT) (av TT) tW) [(0,.str ⟨s.toArray⟩),(3,.int .i64 k),(4,.int .i64 ((s.length - 0 : Nat) : Int))] = some (.exit 2,(fun (i : Nat)=>[(0,.str ⟨s.toArray⟩),(3,.int .i64 k),(4,.int .i64 ((s.length - i : Nat) : Int)),(27,.bool false)]) (cL dA ((s.drop k).reverse))):=by
 refine FB (f:=aq (ev LI TT) (av TT) tW) ((s.drop k).reverse) (fun i=>[(0,.str ⟨s.toArray⟩),(3,.int .i64 k),(4,.int .i64 ((s.length - i : Nat) : Int))]) dA (fun (i : Nat)=>[(0,.str ⟨s.toArray⟩),(3,.int .i64 k),(4,.int .i64 ((s.length - i : Nat) : Int)),(27,.bool false)]) (fun i b hi hl=>?_) ?_
 ·have hw:=bl i (by first | omega | (simp at hl; omega))
  obtain ⟨_,rfl⟩:=List.getElem?_eq_some_iff.1 hi
  simp at hl
  obtain ⟨m,hm⟩ : ∃ m,s.length - i = m + 1:=⟨s.length - i - 1,by omega⟩
  have e1 : s.length - (i + 1) = m:=by omega
  have e2 : IntKind.i64.wrap (m : Int) = m:=bU (by omega) (by omega)
  have e3 : m < s.length:=by omega
  have e4 : ((s.drop k).reverse)[i] = s[m]:=by simp; congr 1; omega
  have e5 : (k : Int) < (m : Int) + 1:=by omega
  rw [e4,hm,e1]
  simp -implicitDefEqProofs [tW,Cf,hl,hw,dA,e2,e3,e5]
  try (rw [List.getElem?_eq_getElem e3]; simp [e2])
  all_goals (repeat' split) <;> first | rfl | omega | (simp_all; done) | (simp_all; omega) | skip
 ·simp only [List.length_reverse,List.length_drop,show s.length - (s.length - k) = k by omega]
  simp -implicitDefEqProofs [tW,Cf]
end M
namespace M
open Go
variable [Lb]
theorem FJ (b : UInt8) : dA b = true↔b≠32:=by
 unfold dA
 have : ((b.toNat : Int) = 32)↔b = 32:=by
  constructor
  ·intro h; exact UInt8.toNat_inj.1 (by have e : (32 : UInt8).toNat = 32:=rfl; omega)
  ·rintro rfl; rfl
 simp [this]
theorem GG (s : ah) : Lib.trimLeftB s 32 = s.drop (cL dA s):=by
 refine Lib.trimLeftB_drop s 32 _ (ym _ _) (fun j b hj hb=>?_) fun b hb=>(FJ b).1 (GL _ _ _ hb)
 have:=GM _ _ _ _ hj hb
 by_cases h : b = 32
 ·exact h
 ·rw [(FJ b).2 h] at this; cases this
theorem Ul (s : ah) : Lib.trimRightB s 32 = s.take (s.length - cL dA s.reverse):=by
 have h:=GG s.reverse
 unfold Lib.trimLeftB at h
 unfold Lib.trimRightB
 rw [h,List.drop_reverse,List.reverse_reverse]
theorem Um (s : ah) : (s.drop (cL dA s)).take (s.length - cL dA (s.drop (cL dA s)).reverse - cL dA s) = dK s:=by
 rw [Un,GG,Ul,List.length_drop]
 congr 1
 omega
theorem yT (s : ah) (hb : s.length≤9223372036854775807) : ev LI TT 264 [.str ⟨s.toArray⟩] = some (.str ⟨(dK s).toArray⟩,[.dead]):=by
 rw [aA (b:=xP) (rs:=[.t 2]) (n:=1) rfl rfl]
 have h1:=ym dA s
 have h2:=ym dA (s.drop (cL dA s)).reverse
 simp only [List.length_reverse,List.length_drop] at h2
 have h3:=Um s
 have u1:=HX  s hb
 try simp at u1
 have u2:=HY  s (cL dA s) (ym _ _) hb
 try simp at u2
 simp -implicitDefEqProofs [xP,u1,u2,(by omega : (cL dA s : Int)≤((s.length - cL dA (s.drop (cL dA s)).reverse : Nat) : Int)),(by omega : ((s.length - cL dA (s.drop (cL dA s)).reverse : Nat) : Int)≤s.length),Lib.extract_mk,h3]
 all_goals (repeat' split) <;> first | rfl | omega | (simp_all; done) | (simp_all; omega) | skip
theorem C3 (s : ah) (hb : s.length≤9223372036854775807) : ev LI TT 306 [.str ⟨s.toArray⟩] = some (.str ⟨(dK s).toArray⟩,[.dead]):=by
 rw [aA (b:=wh) (rs:=[.t 2]) (n:=1) rfl rfl]
 have u1:=Kk  s hb
 try simp at u1
 simp -implicitDefEqProofs [wh,u1]
 all_goals (repeat' split) <;> first | rfl | omega | (simp_all; done) | (simp_all; omega) | skip
theorem HZ (s : ah) (hb : s.length≤9223372036854775807) : aK (aq (ev LI TT) (av TT) tX) [(0,.str ⟨s.toArray⟩),(3,.int .i64 0)] = if aW (gq 32) (s) = true then some (.exit 0,[(0,.str ⟨s.toArray⟩),(3,.int .i64 (s).length),(7,.bool false)]) else some (.ret,[(2,.bool false)]):=by
 refine cV (f:=aq (ev LI TT) (av TT) tX) (s) (fun i=>[(0,.str ⟨s.toArray⟩),(3,.int .i64 i)]) (gq 32) _ _ (fun i b hi hl=>?_) ?_
 ·have hw:=bl i (by first | omega | (simp at hl; omega))
  obtain ⟨_,rfl⟩:=List.getElem?_eq_some_iff.1 hi
  unfold gq
  simp -implicitDefEqProofs [tX,Cg,hl,hw]
  all_goals (repeat' split) <;> first | rfl | omega | (simp_all; done) | (simp_all; omega) | skip
 ·simp -implicitDefEqProofs [tX,Cg]
theorem yU (s : ah) (hb : s.length≤9223372036854775807) : ev LI TT 185 [.str ⟨s.toArray⟩] = some (.bool ((gJ s)),[.dead]):=by
 rw [aA (b:=n9) (rs:=[.t 2]) (n:=1) rfl rfl]
 unfold gJ
 have u1:=HZ  s hb
 try simp at u1
 have u2:=yT  s hb
 try simp at u2
 by_cases g1 : aW (gq 32) s = true
 rotate_left
 ·simp -implicitDefEqProofs [n9,u1,u2,g1]
 by_cases g2 : 1≤(s.length : Int)
 rotate_left
 ·simp -implicitDefEqProofs [n9,u1,u2,g1,eq_false g2]
 by_cases g3 : (s.length : Int)≤60
 rotate_left
 ·simp -implicitDefEqProofs [n9,u1,u2,g1,eq_true g2,eq_false g3]
 simp -implicitDefEqProofs [n9,u1,u2,g1,eq_true g2,eq_true g3]
 all_goals (repeat' split) <;> first | rfl | omega | (simp_all; done) | (simp_all; omega) | skip
theorem yM (s : ah) (hb : s.length≤9223372036854775807) : ev LI TT 261 [.str ⟨s.toArray⟩] = some (.bool ((gJ s)),[.dead]):=by
 rw [aA (b:=nC) (rs:=[.t 2]) (n:=1) rfl rfl]
 unfold gJ
 have VW : (32 : UInt8).toNat = 32:=rfl
 have u1:=C4  s 32 hb
 try simp at u1
 have u2:=C3  s hb
 try simp at u2
 by_cases g1 : 1≤(s.length : Int)
 rotate_left
 ·simp -implicitDefEqProofs [nC,u1,u2,eq_false g1]
 by_cases g2 : (s.length : Int)≤60
 rotate_left
 ·simp -implicitDefEqProofs [nC,u1,u2,eq_true g1,eq_false g2]
 by_cases g3 : aW (gq 32) s = true
 rotate_left
 ·simp -implicitDefEqProofs [nC,u1,u2,eq_true g1,eq_true g2,g3]
 simp -implicitDefEqProofs [nC,u1,u2,eq_true g1,eq_true g2,g3]
 all_goals (repeat' split) <;> first | rfl | omega | (simp_all; done) | (simp_all; omega) | skip
theorem H9 (s : ah) (hb : s.length≤9223372036854775807) : aK (aq (ev LI TT) (av TT) ud) [(0,.str ⟨s.toArray⟩),(3,.int .i64 0)] = if aW (gq 33) (s) = true then some (.exit 0,[(0,.str ⟨s.toArray⟩),(3,.int .i64 (s).length),(7,.bool false)]) else some (.ret,[(2,.bool false)]):=by
 refine cV (f:=aq (ev LI TT) (av TT) ud) (s) (fun i=>[(0,.str ⟨s.toArray⟩),(3,.int .i64 i)]) (gq 33) _ _ (fun i b hi hl=>?_) ?_
 ·have hw:=bl i (by first | omega | (simp at hl; omega))
  obtain ⟨_,rfl⟩:=List.getElem?_eq_some_iff.1 hi
  unfold gq
  simp -implicitDefEqProofs [ud,Ck,hl,hw]
  all_goals (repeat' split) <;> first | rfl | omega | (simp_all; done) | (simp_all; omega) | skip
 ·simp -implicitDefEqProofs [ud,Ck]
theorem Dh (s : ah) (hb : s.length≤9223372036854775807) : ev LI TT 160 [.str ⟨s.toArray⟩] = some (.bool ((iM s)),[.dead]):=by
 rw [aA (b:=oa) (rs:=[.t 2]) (n:=1) rfl rfl]
 unfold iM
 have u1:=H9  s hb
 try simp at u1
 by_cases g1 : aW (gq 33) s = true
 rotate_left
 ·simp -implicitDefEqProofs [oa,u1,g1]
 by_cases g2 : 1≤(s.length : Int)
 rotate_left
 ·simp -implicitDefEqProofs [oa,u1,g1,eq_false g2]
 by_cases g3 : (s.length : Int)≤60
 rotate_left
 ·simp -implicitDefEqProofs [oa,u1,g1,eq_true g2,eq_false g3]
 obtain ⟨b,hb0⟩ : ∃ b,s[0]? = some b:=⟨s[0]'(by omega),by simp⟩
 simp -implicitDefEqProofs [oa,u1,g1,eq_true g2,eq_true g3,hb0]
 all_goals (repeat' split) <;> first | rfl | omega | (simp_all; done) | (simp_all; omega) | skip
theorem C6 (s : ah) (hb : s.length≤9223372036854775807) : ev LI TT 259 [.str ⟨s.toArray⟩] = some (.bool ((iM s)),[.dead]):=by
 rw [aA (b:=pq) (rs:=[.t 2]) (n:=1) rfl rfl]
 unfold iM
 have VX : (33 : UInt8).toNat = 33:=rfl
 have u1:=C4  s 33 hb
 try simp at u1
 by_cases g1 : 1≤(s.length : Int)
 rotate_left
 ·simp -implicitDefEqProofs [pq,u1,eq_false g1]
 by_cases g2 : (s.length : Int)≤60
 rotate_left
 ·simp -implicitDefEqProofs [pq,u1,eq_true g1,eq_false g2]
 obtain ⟨b,hb0⟩ : ∃ b,s[0]? = some b:=⟨s[0]'(by omega),by simp⟩
 by_cases NQ : (b.toNat : Int) = 47
 all_goals
 simp -implicitDefEqProofs [pq,u1,eq_true g1,eq_true g2,hb0,NQ]
 all_goals (repeat' split) <;> first | rfl | omega | (simp_all; done) | (simp_all; omega) | skip
@[simp] theorem Vb (t : Int) : ev LI TT 143 [.int .i64 t] = some (.bool ((decide (0≤t∧t≤1000000))),[.dead]):=by
 rw [aA (b:=wC) (rs:=[.t 2]) (n:=1) rfl rfl]
 simp -implicitDefEqProofs [wC]
 all_goals (repeat' split) <;> first | rfl | omega | (simp_all; done) | (simp_all; omega) | skip
end M
namespace M
open Go
variable [Lb]
theorem HQ (s : ah) (hb : s.length≤1073741824) : aK (aq (ev LI TT) (av TT) n6) [(0,.str ⟨s.toArray⟩),(3,.row .own 1 (([]).map eU)),(4,.int .i64 0)] = some (.exit 0,[(0,.str ⟨s.toArray⟩),(3,.row .own 1 ((((s).flatMap (fun b=>[jo b]))).map eU)),(4,.int .i64 (s).length),(10,.bool false)]):=by
 refine tg (f:=aq (ev LI TT) (av TT) n6) (s) (fun b=>[jo b]) (fun i out=>[(0,.str ⟨s.toArray⟩),(3,.row .own 1 ((out).map eU)),(4,.int .i64 i)]) (fun out=>[(0,.str ⟨s.toArray⟩),(3,.row .own 1 ((out).map eU)),(4,.int .i64 (s).length),(10,.bool false)]) (fun i b out hi hl hout=>?_) (fun out hout=>?_)
 ·have hw:=bl i (by first | omega | (simp at hl; omega))
  obtain ⟨_,rfl⟩:=List.getElem?_eq_some_iff.1 hi
  have hlo : out.length = i:=by rw [hout]; exact vn _ _ _ (by omega)
  have hx:=s[i].toNat_lt
  unfold jo
  by_cases h1 : 65≤(s[i]).toNat
  rotate_left
  ·have h1' : ¬ (65 : Int)≤(s[i]).toNat:=by omega
   simp -implicitDefEqProofs [n6,tQ,hl,hw,h1,h1',hlo,gp]
   omega
  by_cases h2 : (s[i]).toNat≤90
  rotate_left
  ·have h1' : (65 : Int)≤(s[i]).toNat:=by omega
   have nh : ¬ ((s[i]).toNat : Int)≤90:=by omega
   have zH : 90 < ((s[i]).toNat : Int):=by omega
   simp -implicitDefEqProofs [n6,tQ,hl,hw,h1,h1',h2,nh,zH,hlo,gp]
   omega
  have h1' : (65 : Int)≤(s[i]).toNat:=by omega
  have nh : ((s[i]).toNat : Int)≤90:=by omega
  have h3:=FC s[i] ⟨h1,h2⟩
  have h4 : IntKind.u8.wrap ((s[i]).toNat + 32) = (s[i]).toNat + 32:=GV (by omega) (by omega)
  simp -implicitDefEqProofs [n6,tQ,hl,hw,h1,h1',h2,nh,hlo,gp,h3,h4]
  omega
 ·simp -implicitDefEqProofs [n6,tQ]
theorem JZ (s : ah) (hb : s.length≤1073741824) : ev LI TT 254 [.str ⟨s.toArray⟩] = some (.str ⟨(ck s).toArray⟩,[.dead]):=by
 rw [aA (b:=xL) (rs:=[.t 2]) (n:=1) rfl rfl]
 have hl : (ck s).length = s.length:=by simp [ck]
 have e : s.flatMap (fun b=>[jo b]) = ck s:=rz jo s
 have u1:=HQ  s hb
 try simp at u1
 simp -implicitDefEqProofs [xL,u1,e,hl,rowAt,(by omega : s.length≤9223372036854775807)]
 all_goals (repeat' split) <;> first | rfl | omega | (simp_all; done) | (simp_all; omega) | skip
theorem RB (s : ah) (i : Nat) (h : i < s.length) (x : UInt8) (hx : x = jo s[i]) : (ck (s.take i) ++ s.drop i).set i x = ck (s.take (i + 1)) ++ s.drop (i + 1):=by
 subst hx
 rw [List.set_append_right _ _ (by simp [ck]; omega),List.drop_eq_getElem_cons h]
 have : i - (ck (s.take i)).length = 0:=by simp [ck]; omega
 rw [this,List.take_succ_eq_append_getElem h]
 simp only [List.set_cons_zero,ck,List.map_append,List.map_cons,List.map_nil,List.append_assoc,List.cons_append,List.nil_append]
theorem Gk (s : ah) (i : Nat) (h : i < s.length) (hx : jo s[i] = s[i]) : ck (s.take i) ++ s.drop i = ck (s.take (i + 1)) ++ s.drop (i + 1):=by
 rw [List.take_succ_eq_append_getElem h,List.drop_eq_getElem_cons h]
 simp only [ck,hx,List.map_append,List.map_cons,List.map_nil,List.append_assoc,List.cons_append,List.nil_append]
theorem K3 (l : ah) (i : Nat) (x : Int) (b : UInt8) (hx : x = (b.toNat : Int)) : (l.map eU).modify i (fun e=>e.set 0 (X.int .u8 x)) = (l.set i b).map eU:=by
 subst hx
 apply List.ext_getElem?
 intro j
 rw [List.getElem?_modify,List.getElem?_map,List.getElem?_map,List.getElem?_set]
 by_cases h : i = j
 ·subst h
  by_cases h2 : i < l.length
  ·simp [h2]
  ·simp [h2,List.getElem?_eq_none (Nat.le_of_not_lt h2)]
 ·simp only [h,if_false]
  cases l[j]? <;> rfl
theorem G8 (s : ah) (hb : s.length≤1073741824) : aK (aq (ev LI TT) (av TT) nA) [(3,.row .own 1 ((ck (s.take 0) ++ s.drop 0).map eU)),(6,.str ⟨s.toArray⟩),(8,.ref 3 []),(9,.int .i64 s.length),(10,.int .i64 0)] = some (.exit 0,[(3,.row .own 1 ((ck s).map eU)),(6,.str ⟨s.toArray⟩),(8,.ref 3 []),(9,.int .i64 s.length),(10,.int .i64 (s).length),(11,.bool false)]):=by
 refine gH (f:=aq (ev LI TT) (av TT) nA) (s) (fun i=>[(3,.row .own 1 ((ck (s.take i) ++ s.drop i).map eU)),(6,.str ⟨s.toArray⟩),(8,.ref 3 []),(9,.int .i64 s.length),(10,.int .i64 i)]) _ (fun i b hi hl=>?_) ?_
 ·have hw:=bl i (by first | omega | (simp at hl; omega))
  obtain ⟨_,rfl⟩:=List.getElem?_eq_some_iff.1 hi
  have hk : (ck (s.take i) ++ s.drop i).length = s.length:=by simp [ck]; omega
  have hx:=s[i].toNat_lt
  have hg : (ck (s.take i) ++ s.drop i)[i]? = some s[i]:=by rw [List.getElem?_append_right (by simp [ck]; omega)]; simp [ck,Nat.min_eq_left (Nat.le_of_lt hl)]
  have hg' : ∀ h,(ck (s.take i) ++ s.drop i)[i]'h = s[i]:=fun h=>by rw [List.getElem?_eq_getElem h] at hg; exact Option.some.inj hg
  generalize hq : ck (s.take i) ++ s.drop i = q at hk hg hg' ⊢
  have l8 : i < q.length:=by omega
  by_cases h1 : 65≤(s[i]).toNat
  rotate_left
  ·have h1' : ¬ (65 : Int)≤(s[i]).toNat:=by omega
   have e:=Gk s i hl (by unfold jo; rw [if_neg (by omega)])
   rw [hq] at e
   simp -implicitDefEqProofs [nA,su,hl,hw,hg,hg',l8,h1',← e]
  by_cases h2 : (s[i]).toNat≤90
  rotate_left
  ·have h1' : (65 : Int)≤(s[i]).toNat:=by omega
   have zH : 90 < ((s[i]).toNat : Int):=by omega
   have nh : ¬ ((s[i]).toNat : Int)≤90:=by omega
   have e:=Gk s i hl (by unfold jo; rw [if_neg (by omega)])
   rw [hq] at e
   simp -implicitDefEqProofs [nA,su,hl,hw,hg,hg',l8,h1',nh,zH,← e]
  have h1' : (65 : Int)≤(s[i]).toNat:=by omega
  have nh : ((s[i]).toNat : Int)≤90:=by omega
  have h3:=FC s[i] ⟨h1,h2⟩
  have h4 : IntKind.u8.wrap ((s[i]).toNat + 32) = (s[i]).toNat + 32:=GV (by omega) (by omega)
  have e:=RB s i hl (s[i] + 32) (by unfold jo; rw [if_pos ⟨h1,h2⟩])
  rw [hq] at e
  have e2:=K3 q i _ (s[i] + 32) (show ((s[i]).toNat : Int) + 32 = _ by rw [h3]; rfl)
  rw [e] at e2
  simp -implicitDefEqProofs [nA,su,hl,hw,hg,hg',l8,h1',nh,h4,e2]
  all_goals (repeat' split) <;> first | rfl | omega | (simp_all; done) | (simp_all; omega) | skip
 ·simp only [List.take_length,List.drop_length,List.append_nil]
  simp -implicitDefEqProofs [nA,su]
theorem IV (s : ah) (hb : s.length≤1073741824) : ev LI TT 299 [.str ⟨s.toArray⟩] = some (.str ⟨(ck s).toArray⟩,[.dead]):=by
 rw [aA (b:=vU) (rs:=[.t 2]) (n:=1) rfl rfl]
 have hl : (ck s).length = s.length:=by simp [ck]
 have e0 : ck (s.take 0) ++ s.drop 0 = s:=by simp [ck]
 have u1:=G8  s hb
 try simp at u1
 simp -implicitDefEqProofs [vU,u1,hl,rowAt,(by omega : s.length≤9223372036854775807)]
 all_goals (repeat' split) <;> first | rfl | omega | (simp_all; done) | (simp_all; omega) | skip
end M
namespace M
open Go
variable [Lb]
end M
namespace M
open Go
variable [Lb]
def fR (w : ah) : List ah:=if dK w≠[] then [dK w] else []
theorem QX (s : ah) (i : Nat) (h : i < (s.map some ++ [none]).length) : (∃ hi : i < s.length,(s.map some ++ [none])[i] = some s[i])∨(i = s.length∧(s.map some ++ [none])[i] = none):=by
 by_cases hi : i < s.length
 ·refine .inl ⟨hi,?_⟩
  rw [List.getElem_append_left (by simpa using hi)]
  simp
 ·simp at h
  obtain rfl : i = s.length:=by omega
  refine .inr ⟨rfl,?_⟩
  rw [List.getElem_append_right (by simp)]
  simp
theorem Gn (w : ah) : (fR w).length≤1:=by unfold fR; split <;> simp
theorem NN (c : UInt8) (f : ah→List ah) (hf : ∀ w,(f w).length≤1) (s : ah) (i : Nat) (g : List ah×Nat) (b : Option UInt8) (h : g.2≤i∧g.1.length≤i) : (fK c f s i g b).2≤i + 1∧(fK c f s i g b).1.length≤i + 1:=by
 unfold fK
 have:=hf ((s.take i).drop g.2)
 split
 ·split
  ·simp; omega
  ·omega
 ·simp; omega
theorem HV (s : ah) (hb : s.length≤1073741824) (g : List ah×Nat) (hinv : g.2≤0∧g.1.length≤0) : aK (aq (ev LI TT) (av TT) lz) [(0,.str ⟨s.toArray⟩),(3,.row .own 1 ((g).1.map eS)),(4,.int .i64 ((g).2 : Nat)),(5,.int .i64 0)] = some (.exit 0,[(0,.str ⟨s.toArray⟩),(3,.row .own 1 (((foldI (fK 44 fR s) 0 (s.map some ++ [none]) g)).1.map eS)),(4,.int .i64 (((foldI (fK 44 fR s) 0 (s.map some ++ [none]) g)).2 : Nat)),(5,.int .i64 (s.map some ++ [none]).length),(11,.bool false)]):=by
 refine PG (f:=aq (ev LI TT) (av TT) lz) (s.map some ++ [none]) (fun i (g : List ah×Nat)=>[(0,.str ⟨s.toArray⟩),(3,.row .own 1 ((g).1.map eS)),(4,.int .i64 ((g).2 : Nat)),(5,.int .i64 i)]) (fK 44 fR s) (fun g=>[(0,.str ⟨s.toArray⟩),(3,.row .own 1 ((g).1.map eS)),(4,.int .i64 ((g).2 : Nat)),(5,.int .i64 (s.map some ++ [none]).length),(11,.bool false)]) (fun i (g : List ah×Nat)=>g.2≤i∧g.1.length≤i) g hinv (fun i b g hi hl hinv=>?_) (fun i b g hi hinv=>?_) (fun g hinv=>?_)
 ·have hw:=bl i (by first | omega | (simp at hl; omega))
  obtain ⟨_,rfl⟩:=List.getElem?_eq_some_iff.1 hi
  have hlz : (g.1.length + 1) * 16≤140737488355328:=by simp at hl; omega
  have EF : ∀ b : UInt8,((b.toNat : Int) = 44)↔b = 44:=fun b=>⟨fun h=>UInt8.toNat_inj.1 (by have e : (44 : UInt8).toNat = 44:=rfl; omega),fun h=>by subst h; rfl⟩
  rcases QX s i hl with ⟨hi',e⟩ | ⟨rfl,e⟩
  ·rw [e]
   have k1 : (i : Int)≤s.length:=by omega
   have k2 : i≤s.length:=by omega
   have hc:=yT ((s.drop g.2).take (i - g.2)) (by simp; omega)
   by_cases hx : s[i] = 44
   rotate_left
   ·have hx':=mt (EF s[i]).1 hx
    simp -implicitDefEqProofs [lz,n8,k1,k2,hi',hw,fK,hx,hx']
   have hx':=(EF s[i]).2 hx
   have e3 : (s.take i).drop g.2 = (s.drop g.2).take (i - g.2):=List.drop_take ..
   by_cases ht : dK ((s.drop g.2).take (i - g.2)) = []
   ·simp -implicitDefEqProofs [lz,n8,k1,k2,hi',hw,fK,eq_true hx,hx',hinv,hc,Lib.extract_mk,fR,e3,eq_true ht]
   ·simp -implicitDefEqProofs [lz,n8,k1,k2,hi',hw,fK,eq_true hx,hx',hinv,hc,Lib.extract_mk,fR,e3,eq_false ht,gp,hlz]
  rw [e]
  have hc:=yT ((s.drop g.2).take (s.length - g.2)) (by simp; omega)
  have e3 : (s.take s.length).drop g.2 = (s.drop g.2).take (s.length - g.2):=List.drop_take ..
  by_cases ht : dK ((s.drop g.2).take (s.length - g.2)) = []
  ·simp only [fK,e3,fR,eq_true ht]
   simp -implicitDefEqProofs [lz,n8,hw,hinv,hc,Lib.extract_mk,eq_true ht]
  simp only [fK,e3,fR,eq_false ht]
  simp -implicitDefEqProofs [lz,n8,hl,hw,hinv,hc,Lib.extract_mk,eq_false ht,gp,hlz]
 ·exact NN 44 fR Gn s i g b hinv
 ·have Ot : ¬ ((s.length : Int) + 1≤s.length):=by omega
  simp -implicitDefEqProofs [lz,n8,Ot]
theorem J1 (s : ah) (hb : s.length≤1073741824) : ev LI TT 253 [.str ⟨s.toArray⟩] = some (.row .own 1 ((gL s).map eS),[.dead]):=by
 rw [aA (b:=xM) (rs:=[.t 2]) (n:=1) rfl rfl]
 have u1:=HV s hb ([],0) ⟨by omega,by simp⟩
 rw [NF,show (cu 44 s).flatMap fR = gL s from (GQ s).symm] at u1
 simp at u1
 simp -implicitDefEqProofs [xM,u1]
 all_goals (repeat' split) <;> first | rfl | omega | (simp_all; done) | (simp_all; omega) | skip
theorem Hf (s : ah) (ws : List ah) (hb : ∀ w∈ws,w.length≤1073741824) (hl0 : ws.length≤1073741825) : aK (aq (ev LI TT) (av TT) pn) [(3,.row .own 1 (([]).map eS)),(8,.row .own 1 (ws.map eS)),(9,.int .i64 ws.length),(10,.int .i64 0)] = some (.exit 0,[(3,.row .own 1 ((((ws).flatMap fR)).map eS)),(8,.row .own 1 (ws.map eS)),(9,.int .i64 ws.length),(10,.int .i64 (ws).length),(11,.bool false)]):=by
 refine tg (f:=aq (ev LI TT) (av TT) pn) (ws) fR (fun i out=>[(3,.row .own 1 ((out).map eS)),(8,.row .own 1 (ws.map eS)),(9,.int .i64 ws.length),(10,.int .i64 i)]) (fun out=>[(3,.row .own 1 ((out).map eS)),(8,.row .own 1 (ws.map eS)),(9,.int .i64 ws.length),(10,.int .i64 (ws).length),(11,.bool false)]) (fun i b out hi hl hout=>?_) (fun out hout=>?_)
 ·have hw:=bl i (by first | omega | (simp at hl; omega))
  obtain ⟨_,rfl⟩:=List.getElem?_eq_some_iff.1 hi
  have hlo : out.length≤i:=by rw [hout]; exact Lu fR Gn ws i
  have hlz : (out.length + 1) * 16≤140737488355328:=by omega
  have hc:=C3 ws[i] (by have:=hb _ (List.getElem_mem hl); omega)
  unfold fR
  by_cases ht : dK ws[i] = []
  ·simp -implicitDefEqProofs [pn,vX,hl,hw,hc,eq_true ht]
  simp -implicitDefEqProofs [pn,vX,hl,hw,hc,eq_false ht,gp,hlz]
 ·simp -implicitDefEqProofs [pn,vX]
theorem I1 (s : ah) (hb : s.length≤1073741824) : ev LI TT 297 [.str ⟨s.toArray⟩] = some (.row .own 1 ((gL s).map eS),[.dead]):=by
 rw [aA (b:=vY) (rs:=[.t 2]) (n:=1) rfl rfl]
 rw [GQ s,show (fun w=>if dK w≠[] then [dK w] else []) = fR from rfl]
 have u1:=Kj  s 44 (by omega)
 try simp at u1
 have u2:=Hf  s (cu 44 s) (fun w hw=>by have:=Gr 44 s w hw; omega) (by have:=Gq 44 s; omega)
 try simp at u2
 simp -implicitDefEqProofs [vY,u1,u2]
 all_goals (repeat' split) <;> first | rfl | omega | (simp_all; done) | (simp_all; omega) | skip
theorem Ic (l : List ah) (hl0 : l.length≤1073741824) (hb : ∀ w∈l,w.length≤1073741824) : aK (aq (ev LI TT) (av TT) ug) [(0,.row .af 1 (l.map eS)),(3,.int .i64 0)] = if aW eM (l) = true then some (.exit 0,[(0,.row .af 1 (l.map eS)),(3,.int .i64 (l).length),(7,.bool false)]) else some (.ret,[(2,.bool false)]):=by
 refine cV (f:=aq (ev LI TT) (av TT) ug) (l) (fun i=>[(0,.row .af 1 (l.map eS)),(3,.int .i64 i)]) eM _ _ (fun i b hi hl=>?_) ?_
 ·have hw:=bl i (by first | omega | (simp at hl; omega))
  obtain ⟨_,rfl⟩:=List.getElem?_eq_some_iff.1 hi
  have u1:=yS  l[i] (by have:=hb _ (List.getElem_mem hl); omega)
  try simp at u1
  simp -implicitDefEqProofs [ug,Cm,hl,hw,u1]
  all_goals (repeat' split) <;> first | rfl | omega | (simp_all; done) | (simp_all; omega) | skip
 ·simp -implicitDefEqProofs [ug,Cm]
theorem J8 (l : List ah) (hl0 : l.length≤1073741824) (hb : ∀ w∈l,w.length≤1073741824) : ev LI TT 202 [.row .af 1 (l.map eS)] = some (.bool ((aW eM l && decide ((l.length : Int)≤4))),[.dead]):=by
 rw [aA (b:=xW) (rs:=[.t 2]) (n:=1) rfl rfl]
 have u1:=Ic  l hl0 hb
 try simp at u1
 simp -implicitDefEqProofs [xW,u1]
 all_goals (repeat' split) <;> first | rfl | omega | (simp_all; done) | (simp_all; omega) | skip
theorem Hl (l : List ah) (hl0 : l.length≤1073741824) (hb : ∀ w∈l,w.length≤1073741824) : aK (aq (ev LI TT) (av TT) sD) [(0,.row .af 1 (l.map eS)),(5,.row .af 1 (l.map eS)),(6,.int .i64 l.length),(7,.int .i64 0)] = if aW eM (l) = true then some (.exit 0,[(0,.row .af 1 (l.map eS)),(5,.row .af 1 (l.map eS)),(6,.int .i64 l.length),(7,.int .i64 (l).length),(8,.bool false)]) else some (.ret,[(2,.bool false)]):=by
 refine cV (f:=aq (ev LI TT) (av TT) sD) (l) (fun i=>[(0,.row .af 1 (l.map eS)),(5,.row .af 1 (l.map eS)),(6,.int .i64 l.length),(7,.int .i64 i)]) eM _ _ (fun i b hi hl=>?_) ?_
 ·have hw:=bl i (by first | omega | (simp at hl; omega))
  obtain ⟨_,rfl⟩:=List.getElem?_eq_some_iff.1 hi
  have u1:=yL  l[i] (by have:=hb _ (List.getElem_mem hl); omega)
  try simp at u1
  simp -implicitDefEqProofs [sD,AD,hl,hw,u1]
  all_goals (repeat' split) <;> first | rfl | omega | (simp_all; done) | (simp_all; omega) | skip
 ·simp -implicitDefEqProofs [sD,AD]
theorem I8 (l : List ah) (hl0 : l.length≤1073741824) (hb : ∀ w∈l,w.length≤1073741824) : ev LI TT 271 [.row .af 1 (l.map eS)] = some (.bool ((aW eM l && decide ((l.length : Int)≤4))),[.dead]):=by
 rw [aA (b:=wD) (rs:=[.t 2]) (n:=1) rfl rfl]
 have u1:=Hl  l hl0 hb
 try simp at u1
 simp -implicitDefEqProofs [wD,u1]
 all_goals (repeat' split) <;> first | rfl | omega | (simp_all; done) | (simp_all; omega) | skip
end M
namespace M
open Go
variable [Lb]
theorem H8 (fs : List aH) (n : ah) (hb : fs.length≤9223372036854775807) : aK (aq (ev LI TT) (av TT) ua) [(0,.row .af 2 (fs.map aE)),(1,.str ⟨n.toArray⟩),(5,.int .i64 0)] = (cG (fun f=>decide (f.name = n)) 0 (fs)).elim (some (.exit 0,[(0,.row .af 2 (fs.map aE)),(1,.str ⟨n.toArray⟩),(5,.int .i64 (fs).length),(9,.bool false)])) fun x=>some (.ret,(fun (i : Nat) b=>[(4,.int .i64 i)]) x.1 x.2):=by
 refine pW (f:=aq (ev LI TT) (av TT) ua) (fs) (fun i=>[(0,.row .af 2 (fs.map aE)),(1,.str ⟨n.toArray⟩),(5,.int .i64 i)]) (fun f=>decide (f.name = n)) (fun (i : Nat) b=>[(4,.int .i64 i)]) _ (fun i b hi hl=>?_) ?_
 ·have hw:=bl i (by first | omega | (simp at hl; omega))
  obtain ⟨_,rfl⟩:=List.getElem?_eq_some_iff.1 hi
  simp -implicitDefEqProofs [ua,Cj,hl,hw]
 ·simp -implicitDefEqProofs [ua,Cj]
theorem Dg (fs : List aH) (n : ah) (hb : fs.length≤9223372036854775807) : ev LI TT 252 [.row .af 2 (fs.map aE),.str ⟨n.toArray⟩] = some (.int .i64 (gu (fV fs n)),[.dead,.dead]):=by
 rw [aA (b:=uc) (rs:=[.t 4]) (n:=2) rfl rfl]
 have h:=H8  fs n hb
 rw [show cG (fun f=>decide (f.name = n)) 0 fs = fV fs n from rfl] at h
 simp at h
 cases g : fV fs n with
 | none=>rw [g] at h; simp at h; simp -implicitDefEqProofs [uc,h,gu]
 | some x =>
 rw [g] at h
 simp at h
 simp -implicitDefEqProofs [uc,h,gu]
 all_goals (repeat' split) <;> first | rfl | omega | (simp_all; done) | (simp_all; omega) | skip
theorem yR (fs : List aH) (n : ah) (hb : fs.length≤9223372036854775807) : ev LI TT 162 [.row .af 2 (fs.map aE),.str ⟨n.toArray⟩] = some (.au [.str ⟨((cN fs n).getD []).toArray⟩,.bool (cN fs n).isSome],[.dead,.dead]):=by
 rw [aA (b:=tO) (rs:=[.t 4,.t 5]) (n:=2) rfl rfl]
 have h:=Dg  fs n hb
 unfold cN
 cases g : fV fs n with
 | none=>rw [g] at h; simp [gu] at h; simp -implicitDefEqProofs [tO,h]
 | some x =>
 obtain ⟨i,b⟩:=x
 rw [g] at h
 obtain ⟨h1,h2,h3⟩:=ry g
 simp at h2
 simp [gu] at h
 have hi : i < fs.length:=(List.getElem?_eq_some_iff.1 h2).1
 obtain ⟨_,rfl⟩:=List.getElem?_eq_some_iff.1 h2
 simp -implicitDefEqProofs [tO,h,hi]
 all_goals (repeat' split) <;> first | rfl | omega | (simp_all; done) | (simp_all; omega) | skip
theorem I7 (f : aH) (n : ah) : ev LI TT 321 [.agg (aE f),.ptr .af [.str ⟨n.toArray⟩]] = some (.bool (decide (f.name = n)),[.dead,.dead]):=by
 rw [aA (b:=wu) (rs:=[.t 3]) (n:=2) rfl rfl]
 simp -implicitDefEqProofs [wu]
 all_goals (repeat' split) <;> first | rfl | omega | (simp_all; done) | (simp_all; omega) | skip
theorem Ig (fs : List aH) (n : ah) (hb : fs.length≤9223372036854775807) : aK (aq (ev LI TT) (av TT) uz) [(0,.row .af 2 (fs.map aE)),(1,.fn 321 [.ptr .af [.str ⟨n.toArray⟩]]),(7,.int .i64 fs.length),(8,.int .i64 0)] = (cG (fun f=>decide (f.name = n)) 0 (fs)).elim (some (.exit 0,[(0,.row .af 2 (fs.map aE)),(1,.fn 321 [.ptr .af [.str ⟨n.toArray⟩]]),(7,.int .i64 fs.length),(8,.int .i64 (fs).length),(9,.bool false)])) fun x=>some (.ret,(fun (i : Nat) b=>[(4,.int .i64 i)]) x.1 x.2):=by
 refine pW (f:=aq (ev LI TT) (av TT) uz) (fs) (fun i=>[(0,.row .af 2 (fs.map aE)),(1,.fn 321 [.ptr .af [.str ⟨n.toArray⟩]]),(7,.int .i64 fs.length),(8,.int .i64 i)]) (fun f=>decide (f.name = n)) (fun (i : Nat) b=>[(4,.int .i64 i)]) _ (fun i b hi hl=>?_) ?_
 ·have hw:=bl i (by first | omega | (simp at hl; omega))
  obtain ⟨_,rfl⟩:=List.getElem?_eq_some_iff.1 hi
  have ho : av TT 321 = true:=rfl
  have hf:=I7  fs[i] n
  simp at hf
  simp -implicitDefEqProofs [uz,CE,hl,hw,ho,wF,hf]
 ·simp -implicitDefEqProofs [uz,CE]
theorem Kf (fs : List aH) (n : ah) (hb : fs.length≤9223372036854775807) : ev LI TT 320 [.row .af 2 (fs.map aE),.fn 321 [.ptr .af [.str ⟨n.toArray⟩]]] = some (.int .i64 (gu (fV fs n)),[.dead,.dead]):=by
 rw [aA (b:=uA) (rs:=[.t 4]) (n:=2) rfl rfl]
 have h:=Ig  fs n hb
 rw [show cG (fun f=>decide (f.name = n)) 0 fs = fV fs n from rfl] at h
 simp at h
 cases g : fV fs n with
 | none=>rw [g] at h; simp at h; simp -implicitDefEqProofs [uA,h,gu]
 | some x =>
 rw [g] at h
 simp at h
 simp -implicitDefEqProofs [uA,h,gu]
 all_goals (repeat' split) <;> first | rfl | omega | (simp_all; done) | (simp_all; omega) | skip
theorem C5 (fs : List aH) (n : ah) (hb : fs.length≤9223372036854775807) : ev LI TT 296 [.row .af 2 (fs.map aE),.str ⟨n.toArray⟩] = some (.int .i64 (gu (fV fs n)),[.dead,.dead]):=by
 rw [aA (b:=wv) (rs:=[.t 4]) (n:=2) rfl rfl]
 have h:=Kf  fs n hb
 simp -implicitDefEqProofs [wv,h,ij,eX]
 all_goals (repeat' split) <;> first | rfl | omega | (simp_all; done) | (simp_all; omega) | skip
theorem yK (fs : List aH) (n : ah) (hb : fs.length≤9223372036854775807) : ev LI TT 234 [.row .af 2 (fs.map aE),.str ⟨n.toArray⟩] = some (.au [.str ⟨((cN fs n).getD []).toArray⟩,.bool (cN fs n).isSome],[.dead,.dead]):=by
 rw [aA (b:=sn) (rs:=[.t 4,.t 5]) (n:=2) rfl rfl]
 have h:=C5  fs n hb
 unfold cN
 cases g : fV fs n with
 | none=>rw [g] at h; simp [gu] at h; simp -implicitDefEqProofs [sn,h]
 | some x =>
 obtain ⟨i,b⟩:=x
 rw [g] at h
 obtain ⟨h1,h2,h3⟩:=ry g
 simp at h2
 simp [gu] at h
 have hi : i < fs.length:=(List.getElem?_eq_some_iff.1 h2).1
 obtain ⟨_,rfl⟩:=List.getElem?_eq_some_iff.1 h2
 simp -implicitDefEqProofs [sn,h,hi]
 all_goals (repeat' split) <;> first | rfl | omega | (simp_all; done) | (simp_all; omega) | skip
end M
namespace M
open Go
variable [Lb]
theorem tB : (⟨#[99,111,110,116,101,110,116,45,108,101,110,103,116,104]⟩ : ByteArray) = ⟨xC.toArray⟩:=rfl
theorem HN (fs : List aH) (hb : wL aL fs≤1073741824) : aK (aq (ev LI TT) (av TT) lu) [(0,.row .af 2 (fs.map aE)),(3,.int .i64 0)] = if aW (ga fs) (fs.zipIdx) = true then some (.exit 0,[(0,.row .af 2 (fs.map aE)),(3,.int .i64 (fs.zipIdx).length),(7,.bool false)]) else some (.ret,[(2,.bool false)]):=by
 refine cV (f:=aq (ev LI TT) (av TT) lu) (fs.zipIdx) (fun i=>[(0,.row .af 2 (fs.map aE)),(3,.int .i64 i)]) (ga fs) _ _ (fun i b hi hl=>?_) ?_
 ·have hw:=bl i (by have:=bC (w:=aL) fs; simp at hl; omega)
  obtain ⟨_,rfl⟩:=List.getElem?_eq_some_iff.1 hi
  simp only [List.length_zipIdx] at hl
  have hz : fs.zipIdx[i]'(by simpa using hl) = (fs[i],i):=by simp
  have hm:=CB (List.getElem_mem hl)
  have hfl:=bC (w:=aL) fs
  rw [hz]
  have u1:=yS  fs[i].name (by omega)
  try simp at u1
  have u2:=yU  fs[i].value (by omega)
  try simp at u2
  have u3:=Dg  fs fs[i].name (by omega)
  try simp at u3
  by_cases g1 : eM fs[i].name = true
  rotate_left
  ·simp -implicitDefEqProofs [lu,nY,hl,hw,u1,u2,u3,ga,g1]
  by_cases g2 : gJ fs[i].value = true
  rotate_left
  ·simp -implicitDefEqProofs [lu,nY,hl,hw,u1,u2,u3,ga,g1,g2]
  by_cases g3 : gu (fV fs fs[i].name) = i
  rotate_left
  ·simp -implicitDefEqProofs [lu,nY,hl,hw,u1,u2,u3,ga,g1,g2,eq_false g3]
  by_cases hcl : fs[i].name = xC
  ·simp -implicitDefEqProofs [lu,nY,hl,hw,u1,u2,u3,g1,g2,eq_true g3,ga,tB,eq_true hcl]
  simp -implicitDefEqProofs [lu,nY,hl,hw,u1,u2,u3,ga,g1,g2,eq_true g3,tB,eq_false hcl]
  all_goals (repeat' split) <;> first | rfl | omega | (simp_all; done) | (simp_all; omega) | skip
 ·simp -implicitDefEqProofs [lu,nY]
theorem JV (fs : List aH) (hb : wL aL fs≤1073741824) : ev LI TT 161 [.row .af 2 (fs.map aE)] = some (.bool ((oO fs)),[.dead]):=by
 rw [aA (b:=xJ) (rs:=[.t 2]) (n:=1) rfl rfl]
 unfold oO
 have hfl:=bC (w:=aL) fs
 have u1:=HN  fs hb
 try simp at u1
 simp -implicitDefEqProofs [xJ,u1]
 all_goals (repeat' split) <;> first | rfl | omega | (simp_all; done) | (simp_all; omega) | skip
theorem G6 (fs : List aH) (hb : wL aL fs≤1073741824) : aK (aq (ev LI TT) (av TT) kN) [(0,.row .af 2 (fs.map aE)),(5,.row .af 2 (fs.map aE)),(6,.int .i64 fs.length),(7,.int .i64 0)] = if aW (ga fs) (fs.zipIdx) = true then some (.exit 0,[(0,.row .af 2 (fs.map aE)),(5,.row .af 2 (fs.map aE)),(6,.int .i64 fs.length),(7,.int .i64 (fs.zipIdx).length),(8,.bool false)]) else some (.ret,[(2,.bool false)]):=by
 refine cV (f:=aq (ev LI TT) (av TT) kN) (fs.zipIdx) (fun i=>[(0,.row .af 2 (fs.map aE)),(5,.row .af 2 (fs.map aE)),(6,.int .i64 fs.length),(7,.int .i64 i)]) (ga fs) _ _ (fun i b hi hl=>?_) ?_
 ·have hw:=bl i (by have:=bC (w:=aL) fs; simp at hl; omega)
  obtain ⟨_,rfl⟩:=List.getElem?_eq_some_iff.1 hi
  simp only [List.length_zipIdx] at hl
  have hz : fs.zipIdx[i]'(by simpa using hl) = (fs[i],i):=by simp
  have hm:=CB (List.getElem_mem hl)
  have hfl:=bC (w:=aL) fs
  rw [hz]
  have u1:=yL  fs[i].name (by omega)
  try simp at u1
  have u2:=yM  fs[i].value (by omega)
  try simp at u2
  have u3:=C5  fs fs[i].name (by omega)
  try simp at u3
  by_cases g1 : eM fs[i].name = true
  rotate_left
  ·simp -implicitDefEqProofs [kN,ny,hl,hw,u1,u2,u3,ga,g1]
  by_cases g2 : gJ fs[i].value = true
  rotate_left
  ·simp -implicitDefEqProofs [kN,ny,hl,hw,u1,u2,u3,ga,g1,g2]
  by_cases hcl : fs[i].name = xC
  ·simp -implicitDefEqProofs [kN,ny,hl,hw,u1,u2,u3,g1,g2,ga,tB,eq_true hcl]
  by_cases g3 : gu (fV fs fs[i].name) = i
  rotate_left
  ·simp -implicitDefEqProofs [kN,ny,hl,hw,u1,u2,u3,g1,g2,ga,tB,eq_false hcl,eq_false g3]
  simp -implicitDefEqProofs [kN,ny,hl,hw,u1,u2,u3,ga,g1,g2,tB,eq_false hcl,eq_true g3]
  all_goals (repeat' split) <;> first | rfl | omega | (simp_all; done) | (simp_all; omega) | skip
 ·simp -implicitDefEqProofs [kN,ny]
theorem IM (fs : List aH) (hb : wL aL fs≤1073741824) : ev LI TT 294 [.row .af 2 (fs.map aE)] = some (.bool ((oO fs)),[.dead]):=by
 rw [aA (b:=vS) (rs:=[.t 2]) (n:=1) rfl rfl]
 unfold oO
 have hfl:=bC (w:=aL) fs
 have u1:=G6  fs hb
 try simp at u1
 simp -implicitDefEqProofs [vS,u1]
 all_goals (repeat' split) <;> first | rfl | omega | (simp_all; done) | (simp_all; omega) | skip
theorem Lv (fs : List aH) : dU (fs.map aE) = true:=by induction fs <;> simp_all [dU,scalar]
theorem J0 (r : cM) (hb : cr r≤1073741824) : ev LI TT 201 [.agg (eC .af r)] = some (.bool ((nV r)),[.dead]):=by
 rw [aA (b:=n7) (rs:=[.t 2]) (n:=1) rfl rfl]
 have hw : cr r = wL aL r.fields + r.body.length:=rfl
 unfold nV
 have u1:=JV  r.fields (by omega)
 try simp at u1
 by_cases g1 : 100≤r.status
 rotate_left
 ·simp -implicitDefEqProofs [n7,u1,eq_false g1]
 by_cases g2 : r.status≤599
 rotate_left
 ·simp -implicitDefEqProofs [n7,u1,eq_true g1,eq_false g2]
 by_cases g3 : oO r.fields = true
 rotate_left
 ·simp -implicitDefEqProofs [n7,u1,eq_true g1,eq_true g2,g3]
 simp -implicitDefEqProofs [n7,u1,eq_true g1,eq_true g2,g3]
 all_goals (repeat' split) <;> first | rfl | omega | (simp_all; done) | (simp_all; omega) | skip
theorem IW (r : cM) (hb : cr r≤1073741824) : ev LI TT 251 [.agg (eC .af r)] = some (.bool ((nV r)),[.dead]):=by
 rw [aA (b:=nB) (rs:=[.t 2]) (n:=1) rfl rfl]
 have hw : cr r = wL aL r.fields + r.body.length:=rfl
 unfold nV
 have u1:=IM  r.fields (by omega)
 try simp at u1
 by_cases g1 : 100≤r.status
 rotate_left
 ·simp -implicitDefEqProofs [nB,u1,eq_false g1]
 by_cases g2 : r.status≤599
 rotate_left
 ·simp -implicitDefEqProofs [nB,u1,eq_true g1,eq_false g2]
 by_cases g3 : (r.body.length : Int)≤120
 rotate_left
 ·simp -implicitDefEqProofs [nB,u1,eq_true g1,eq_true g2,eq_false g3]
 simp -implicitDefEqProofs [nB,u1,eq_true g1,eq_true g2,eq_true g3]
 all_goals (repeat' split) <;> first | rfl | omega | (simp_all; done) | (simp_all; omega) | skip
theorem J7 (fs : List aH) (hb : fs.length≤1073741824) : ev LI TT 258 [.row .af 2 (fs.map aE)] = some (.row .own 2 (fs.map aE),[.dead]):=by
 rw [aA (b:=xV) (rs:=[.t 2]) (n:=1) rfl rfl]
 simp -implicitDefEqProofs [xV,Lv fs,rowAt,(by omega : fs.length * 32≤140737488355328)]
 all_goals (repeat' split) <;> first | rfl | omega | (simp_all; done) | (simp_all; omega) | skip
theorem J9 (r : cM) (hb : r.fields.length≤1073741824) : ev LI TT 177 [.agg (eC .af r)] = some (.agg (eC .own r),[.dead]):=by
 rw [aA (b:=xX) (rs:=[.c 2 3 true 59]) (n:=1) rfl rfl]
 have u1:=J7  r.fields hb
 try simp at u1
 simp -implicitDefEqProofs [xX,u1]
 all_goals (repeat' split) <;> first | rfl | omega | (simp_all; done) | (simp_all; omega) | skip
theorem I6 (r : cM) (hb : r.fields.length≤1073741824) : ev LI TT 246 [.agg (eC .af r)] = some (.agg (eC .own r),[.dead]):=by
 rw [aA (b:=wq) (rs:=[.c 2 3 true 59]) (n:=1) rfl rfl]
 have u1:=Pz r.fields hb
 try simp at u1
 simp -implicitDefEqProofs [wq,u1]
 all_goals (repeat' split) <;> first | rfl | omega | (simp_all; done) | (simp_all; omega) | skip
end M
namespace M
open Go
variable [Lb]
theorem CC (s : ah) : (gL s).length≤s.length + 1:=by
 unfold gL
 have h1:=List.length_filter_le (fun w : ah=>decide (w≠[])) ((cu 44 s).map dK)
 have h2:=Gq 44 s
 simp only [List.length_map] at h1
 omega
theorem GR (s : ah) : ∀ w∈gL s,w.length≤s.length:=by
 intro w hw
 unfold gL at hw
 obtain ⟨x,hx,rfl⟩:=List.mem_map.1 (List.mem_filter.1 hw).1
 have h1:=Gr 44 s x hx
 have h2:=GH x
 omega
theorem H7 (ws : List ah) (hl0 : ws.length≤1073741825) (hb : ∀ w∈ws,w.length≤1073741824) : aK (aq (ev LI TT) (av TT) tZ) [(5,.row .own 1 ((fQ ck ws 0).map eS)),(6,.int .i64 0)] = some (.exit 0,[(5,.row .own 1 ((fQ ck ws (ws).length).map eS)),(6,.int .i64 (ws).length),(17,.bool false)]):=by
 refine gH (f:=aq (ev LI TT) (av TT) tZ) (ws) (fun i=>[(5,.row .own 1 ((fQ ck ws i).map eS)),(6,.int .i64 i)]) _ (fun i b hi hl=>?_) ?_
 ·have hw:=bl i (by first | omega | (simp at hl; omega))
  obtain ⟨_,rfl⟩:=List.getElem?_eq_some_iff.1 hi
  have h1:=PK ck ws i hl
  have h2:=PL ck ws i hl
  have u1:=JZ  ws[i] (hb _ (List.getElem_mem hl))
  try simp at u1
  simp -implicitDefEqProofs [tZ,Ci,hl,hw,u1,h1,h2,rowAt,-List.map_set]
 ·simp -implicitDefEqProofs [tZ,Ci,rowAt]
theorem J4 (fs : List aH) (hb : wL aL fs≤1073741824) : ev LI TT 203 [.row .af 2 (fs.map aE)] = some (.row .own 1 ((kf fs).map eS),[.dead]):=by
 rw [aA (b:=xR) (rs:=[.t 2]) (n:=1) rfl rfl]
 have hfl:=bC (w:=aL) fs
 have hg:=zG fs gm
 have u1:=yR  fs gm (by omega)
 try simp at u1
 have u2:=J1  ((cN fs gm).getD []) (by omega)
 try simp at u2
 have u3:=H7  (gL ((cN fs gm).getD [])) (by have:=CC ((cN fs gm).getD []); omega) (fun w hw=>by have:=GR _ w hw; omega)
 try simp at u3
 rw [PN,PI,show (gL ((cN fs gm).getD [])).map ck = kf fs from rfl] at u3
 simp -implicitDefEqProofs [xR,u1,u2,u3]
 all_goals (repeat' split) <;> first | rfl | omega | (simp_all; done) | (simp_all; omega) | skip
theorem Hi (ws : List ah) (hl0 : ws.length≤1073741825) (hb : ∀ w∈ws,w.length≤1073741824) : aK (aq (ev LI TT) (av TT) sB) [(5,.row .own 1 (([]).map eS)),(14,.row .own 1 (ws.map eS)),(15,.int .i64 ws.length),(16,.int .i64 0)] = some (.exit 0,[(5,.row .own 1 ((((ws).flatMap (fun w=>[ck w]))).map eS)),(14,.row .own 1 (ws.map eS)),(15,.int .i64 ws.length),(16,.int .i64 (ws).length),(17,.bool false)]):=by
 refine tg (f:=aq (ev LI TT) (av TT) sB) (ws) (fun w=>[ck w]) (fun i out=>[(5,.row .own 1 ((out).map eS)),(14,.row .own 1 (ws.map eS)),(15,.int .i64 ws.length),(16,.int .i64 i)]) (fun out=>[(5,.row .own 1 ((out).map eS)),(14,.row .own 1 (ws.map eS)),(15,.int .i64 ws.length),(16,.int .i64 (ws).length),(17,.bool false)]) (fun i b out hi hl hout=>?_) (fun out hout=>?_)
 ·have hw:=bl i (by first | omega | (simp at hl; omega))
  obtain ⟨_,rfl⟩:=List.getElem?_eq_some_iff.1 hi
  have hlo : out.length = i:=by rw [hout]; exact vn _ _ _ (by omega)
  have hlz : (i + 1) * 16≤140737488355328:=by omega
  have u1:=IV  ws[i] (hb _ (List.getElem_mem hl))
  try simp at u1
  simp -implicitDefEqProofs [sB,AA,hl,hw,u1,hlo,hlz,gp]
 ·simp -implicitDefEqProofs [sB,AA]
theorem I4 (fs : List aH) (hb : wL aL fs≤1073741824) : ev LI TT 272 [.row .af 2 (fs.map aE)] = some (.row .own 1 ((kf fs).map eS),[.dead]):=by
 rw [aA (b:=wk) (rs:=[.t 2]) (n:=1) rfl rfl]
 have hfl:=bC (w:=aL) fs
 have hg:=zG fs gm
 have u1:=yK  fs gm (by omega)
 try simp at u1
 have u2:=I1  ((cN fs gm).getD []) (by omega)
 try simp at u2
 have u3:=Hi  (gL ((cN fs gm).getD [])) (by have:=CC ((cN fs gm).getD []); omega) (fun w hw=>by have:=GR _ w hw; omega)
 try simp at u3
 rw [rz,show (gL ((cN fs gm).getD [])).map ck = kf fs from rfl] at u3
 simp -implicitDefEqProofs [wk,u1,u2,u3]
 all_goals (repeat' split) <;> first | rfl | omega | (simp_all; done) | (simp_all; omega) | skip
theorem GP (fs : List aH) : (kf fs).length≤wL aL fs + 1:=by
 have h1:=CC ((cN fs gm).getD [])
 have h2:=zG fs gm
 simp [kf]; omega
end M
namespace M
open Go
variable [Lb]
theorem Ie (ps : List (ah×ah)) (hb : ps.length≤9223372036854775807) : aK (aq (ev LI TT) (av TT) uy) [(0,.row .af 1 (ps.map fun x=>eS x.1)),(1,.row .af 1 (ps.map fun x=>eS x.2)),(12,.int .i64 ps.length),(13,.int .i64 0)] = if aW cT (ps) = true then some (.exit 0,[(0,.row .af 1 (ps.map fun x=>eS x.1)),(1,.row .af 1 (ps.map fun x=>eS x.2)),(12,.int .i64 ps.length),(13,.int .i64 ps.length),(14,.bool false)]) else some (.ret,[(4,.bool false)]):=by
 refine cV (f:=aq (ev LI TT) (av TT) uy) (ps) (fun i=>[(0,.row .af 1 (ps.map fun x=>eS x.1)),(1,.row .af 1 (ps.map fun x=>eS x.2)),(12,.int .i64 ps.length),(13,.int .i64 i)]) cT _ _ (fun i b hi hl=>?_) ?_
 ·have hw:=bl i (by first | omega | (simp at hl; omega))
  obtain ⟨_,rfl⟩:=List.getElem?_eq_some_iff.1 hi
  simp -implicitDefEqProofs [uy,CD,hl,hw,cT]
  first | done | (split <;> simp_all)
 ·simp -implicitDefEqProofs [uy,CD]
theorem Dj (a b : List ah) (hb : a.length≤9223372036854775807) : ev LI TT 243 [.row .af 1 (a.map eS),.row .af 1 (b.map eS)] = some (.bool (decide (a = b)),[.dead,.dead]):=by
 rw [aA (b:=yq) (rs:=[.t 4]) (n:=2) rfl rfl]
 simp -implicitDefEqProofs [yq]
 by_cases h : a.length = b.length
 ·obtain ⟨ps,rfl,rfl⟩:=ou h
  have h1:=Ie  ps (by simpa using hb)
  have h2:=mS ps
  simp at h1
  cases h3 : aW cT ps <;> rw [h3] at h1 h2 <;> simp [h1,Function.comp_def,← h2]
 ·have : ¬ a = b:=fun e=>h (by rw [e])
  simp [this]
  omega
theorem G4 : ∀ {a b : List ah},(∀ x∈a.zip b,¬ (decide (x.1≠x.2)) = true)→a.length = b.length→a = b
 | [],[],_,_=>rfl
 | x :: a,y :: b,h,hl=>by
  have h1:=h (x,y) (by simp)
  simp at h1
  have h2 : a = b:=G4 (fun z hz=>h z (by simp only [List.zip_cons_cons]; exact List.mem_cons_of_mem _ hz)) (by simpa using hl)
  rw [h1,h2]
theorem UE {a b : List ah} {x : ah×ah} (hx : x∈a.zip b) (h : x.1≠x.2) : a≠b:=by
 rintro rfl
 have : ∀ {l : List ah} {x : ah×ah},x∈l.zip l→x.1 = x.2:=by
  intro l
  induction l with
  | nil=>intro x h; simp at h
  | cons y l ih =>
   intro x h
   simp only [List.zip_cons_cons,List.mem_cons] at h
   rcases h with rfl | h
   ·rfl
   ·exact ih h
 exact h (this hx)
theorem Ib (a b : List ah) (hb : a.length≤9223372036854775807) (fN : b.length≤9223372036854775807) : aK (aq (ev LI TT) (av TT) qn) [(0,.row .af 1 (a.map eS)),(1,.row .af 1 (b.map eS)),(5,.int .i64 0)] = (cG (fun x=>decide (x.1≠x.2)) 0 (a.zip b)).elim (some (.exit 0,[(0,.row .af 1 (a.map eS)),(1,.row .af 1 (b.map eS)),(5,.int .i64 (a.zip b).length),(15,.bool false)])) fun x=>some (.ret,(fun (i : Nat) b=>[(4,.bool false)]) x.1 x.2):=by
 refine pW (f:=aq (ev LI TT) (av TT) qn) (a.zip b) (fun i=>[(0,.row .af 1 (a.map eS)),(1,.row .af 1 (b.map eS)),(5,.int .i64 i)]) (fun x=>decide (x.1≠x.2)) (fun (i : Nat) b=>[(4,.bool false)]) _ (fun i b hi hl=>?_) ?_
 ·have hw:=bl i (by first | omega | (simp at hl; omega))
  obtain ⟨_,rfl⟩:=List.getElem?_eq_some_iff.1 hi
  have ha : i < a.length:=by simp at hl; omega
  have hb' : i < b.length:=by simp at hl; omega
  simp -implicitDefEqProofs [qn,xU,hl,hw,ha,hb']
 ·have hz : (a.zip b).length = min a.length b.length:=by simp
  rw [hz]
  by_cases hh : a.length≤b.length
  ·rw [Nat.min_eq_left hh]; simp -implicitDefEqProofs [qn,xU]
  have h1 : b.length≤a.length:=by omega
  have h2 : (b.length : Int) < a.length:=by omega
  have h3 : b.length < a.length:=by omega
  rw [Nat.min_eq_right h1]
  simp -implicitDefEqProofs [qn,xU,h2,h3]
theorem Di (a b : List ah) (hb : a.length≤9223372036854775807) (fN : b.length≤9223372036854775807) : ev LI TT 175 [.row .af 1 (a.map eS),.row .af 1 (b.map eS)] = some (.bool (decide (a = b)),[.dead,.dead]):=by
 rw [aA (b:=qo) (rs:=[.t 4]) (n:=2) rfl rfl]
 have h:=Ib  a b hb fN
 cases g : cG (fun x : ah×ah=>decide (x.1≠x.2)) 0 (a.zip b) with
 | some x =>
  obtain ⟨i,x⟩:=x
  obtain ⟨_,h1,h2⟩:=ry g
  have h3 : ¬ a = b:=UE (List.mem_of_getElem? h1) (by simpa using h2)
  rw [g] at h; simp only [Option.elim] at h; simp -implicitDefEqProofs [qo,h,h3]
 | none =>
 have h1:=Ek.1 g
 rw [g] at h
 simp only [Option.elim] at h
 try simp at h
 by_cases hl : a.length = b.length
 ·have h2:=G4 h1 hl
  subst h2
  try simp at h
  simp -implicitDefEqProofs [qo,h]
 have h3 : ¬ a = b:=fun e=>hl (by rw [e])
 have h4 : ¬ (a.length : Int) = b.length:=by omega
 simp -implicitDefEqProofs [qo,h,h3,h4]
 all_goals (repeat' split) <;> first | rfl | omega | (simp_all; done) | (simp_all; omega) | skip
end M
namespace M
open Go
variable [Lb]
theorem HR (o : Ob) (hb : wL wS o.values≤1073741824) : aK (aq (ev LI TT) (av TT) tR) [(1,.ptr .own (bw .af o)),(3,.int .i64 0)] = if aW gJ (o.values) = true then some (.exit 0,[(1,.ptr .own (bw .af o)),(3,.int .i64 (o.values).length),(49,.bool false)]) else some (.ret,[(2,.bool false)]):=by
 refine cV (f:=aq (ev LI TT) (av TT) tR) (o.values) (fun i=>[(1,.ptr .own (bw .af o)),(3,.int .i64 i)]) gJ _ _ (fun i b hi hl=>?_) ?_
 ·have hw:=bl i (by have:=bC (w:=wS) o.values; omega)
  obtain ⟨_,rfl⟩:=List.getElem?_eq_some_iff.1 hi
  have hm:=yp (List.getElem_mem hl)
  have u1:=yU  o.values[i] (by omega)
  try simp at u1
  simp -implicitDefEqProofs [tR,B9,hl,hw,u1]
  all_goals (repeat' split) <;> first | rfl | omega | (simp_all; done) | (simp_all; omega) | skip
 ·simp -implicitDefEqProofs [tR,B9]
theorem Dd (o : Ob) (hb : bH o≤1073741824) : ev LI TT 108 [.agg (bw .af o)] = some (.bool ((gY o)),[.dead]):=by
 rw [aA (b:=iP) (rs:=[.t 2]) (n:=1) rfl rfl]
 have hw : bH o = o.path.length + wL wS o.names + wL wS o.values + cr o.resp:=rfl
 have nw : cr o.resp = wL aL o.resp.fields + o.resp.body.length:=rfl
 have hn:=bC (w:=wS) o.names
 have hv:=bC (w:=wS) o.values
 have hvl:=GP o.resp.fields
 unfold gY BL
 have u1:=J0  o.resp (by omega)
 try simp at u1
 have u2:=Dh  o.path (by omega)
 try simp at u2
 have u3:=J8  o.names (by omega) (fun w hw=>by have:=yp hw; omega)
 try simp at u3
 have u4:=J4  o.resp.fields (by omega)
 try simp at u4
 have u5:=Di  o.names (kf o.resp.fields) (by omega) (by omega)
 try simp at u5
 have u6:=HR  o (by omega)
 try simp at u6
 by_cases g1 : nV o.resp = true
 rotate_left
 ·simp -implicitDefEqProofs [iP,u1,u2,u3,u4,u5,u6,g1]
 by_cases g2 : iM o.path = true
 rotate_left
 ·simp -implicitDefEqProofs [iP,u1,u2,u3,u4,u5,u6,g1,g2]
 by_cases g3 : 0≤o.t
 rotate_left
 ·simp -implicitDefEqProofs [iP,u1,u2,u3,u4,u5,u6,g1,g2,eq_false g3]
 by_cases g4 : o.t≤1000000
 rotate_left
 ·simp -implicitDefEqProofs [iP,u1,u2,u3,u4,u5,u6,g1,g2,eq_true g3,eq_false g4]
 by_cases g5 : aW eM o.names = true
 rotate_left
 ·simp -implicitDefEqProofs [iP,u1,u2,u3,u4,u5,u6,g1,g2,eq_true g3,eq_true g4,g5]
 by_cases g6 : (o.names.length : Int)≤4
 rotate_left
 ·simp -implicitDefEqProofs [iP,u1,u2,u3,u4,u5,u6,g1,g2,eq_true g3,eq_true g4,g5,eq_false g6]
 by_cases g7 : o.names = kf o.resp.fields
 rotate_left
 ·simp -implicitDefEqProofs [iP,u1,u2,u3,u4,u5,u6,g1,g2,eq_true g3,eq_true g4,g5,eq_true g6,eq_false g7]
 by_cases g8 : o.values.length = o.names.length
 rotate_left
 ·have jG : ¬ (o.values.length : Int) = o.names.length:=by omega
  simp -implicitDefEqProofs [iP,u1,u2,u3,u4,u5,u6,g1,g2,eq_true g3,eq_true g4,g5,eq_true g6,eq_true g7,eq_false g8,eq_false jG]
 have jG : (o.values.length : Int) = o.names.length:=by omega
 simp -implicitDefEqProofs [iP,u1,u2,u3,u4,u5,u6,g1,g2,eq_true g3,eq_true g4,g5,eq_true g6,eq_true g7,eq_true g8,eq_true jG]
 all_goals (repeat' split) <;> first | rfl | omega | (simp_all; done) | (simp_all; omega) | skip
theorem G9 (o : Ob) (hb : wL wS o.values≤1073741824) : aK (aq (ev LI TT) (av TT) sw) [(1,.ptr .own (bw .af o)),(5,.az 1 [] 0 2),(6,.row .af 1 (o.values.map eS)),(7,.int .i64 o.values.length),(8,.int .i64 0)] = if aW gJ (o.values) = true then some (.exit 0,[(1,.ptr .own (bw .af o)),(5,.az 1 [] 0 2),(6,.row .af 1 (o.values.map eS)),(7,.int .i64 o.values.length),(8,.int .i64 (o.values).length),(9,.bool false)]) else some (.ret,[(2,.bool false)]):=by
 refine cV (f:=aq (ev LI TT) (av TT) sw) (o.values) (fun i=>[(1,.ptr .own (bw .af o)),(5,.az 1 [] 0 2),(6,.row .af 1 (o.values.map eS)),(7,.int .i64 o.values.length),(8,.int .i64 i)]) gJ _ _ (fun i b hi hl=>?_) ?_
 ·have hw:=bl i (by have:=bC (w:=wS) o.values; omega)
  obtain ⟨_,rfl⟩:=List.getElem?_eq_some_iff.1 hi
  have hm:=yp (List.getElem_mem hl)
  have u1:=yM  o.values[i] (by omega)
  try simp at u1
  simp -implicitDefEqProofs [sw,Av,hl,hw,u1]
  all_goals (repeat' split) <;> first | rfl | omega | (simp_all; done) | (simp_all; omega) | skip
 ·simp -implicitDefEqProofs [sw,Av]
theorem C0 (o : Ob) (hb : bH o≤1073741824) : ev LI TT 205 [.agg (bw .af o)] = some (.bool ((gY o)),[.dead]):=by
 rw [aA (b:=iJ) (rs:=[.t 2]) (n:=1) rfl rfl]
 have hw : bH o = o.path.length + wL wS o.names + wL wS o.values + cr o.resp:=rfl
 have nw : cr o.resp = wL aL o.resp.fields + o.resp.body.length:=rfl
 have hn:=bC (w:=wS) o.names
 have hv:=bC (w:=wS) o.values
 have hvl:=GP o.resp.fields
 unfold gY BL
 have u1:=IW  o.resp (by omega)
 try simp at u1
 have u2:=C6  o.path (by omega)
 try simp at u2
 have u3:=I8  o.names (by omega) (fun w hw=>by have:=yp hw; omega)
 try simp at u3
 have u4:=I4  o.resp.fields (by omega)
 try simp at u4
 have u5:=Dj  o.names (kf o.resp.fields) (by omega)
 try simp at u5
 have u6:=G9  o (by omega)
 try simp at u6
 by_cases g1 : aW gJ o.values = true
 rotate_left
 ·simp -implicitDefEqProofs [iJ,u1,u2,u3,u4,u5,u6,g1]
 by_cases g2 : iM o.path = true
 rotate_left
 ·simp -implicitDefEqProofs [iJ,u1,u2,u3,u4,u5,u6,g1,g2]
 by_cases g3 : 0≤o.t
 rotate_left
 ·simp -implicitDefEqProofs [iJ,u1,u2,u3,u4,u5,u6,g1,g2,eq_false g3]
 by_cases g4 : o.t≤1000000
 rotate_left
 ·simp -implicitDefEqProofs [iJ,u1,u2,u3,u4,u5,u6,g1,g2,eq_true g3,eq_false g4]
 by_cases g8 : o.values.length = o.names.length
 rotate_left
 ·have jG : ¬ (o.values.length : Int) = o.names.length:=by omega
  simp -implicitDefEqProofs [iJ,u1,u2,u3,u4,u5,u6,g1,g2,eq_true g3,eq_true g4,eq_false g8,eq_false jG]
 have jG : (o.values.length : Int) = o.names.length:=by omega
 by_cases h5 : aW eM o.names = true
 rotate_left
 ·simp -implicitDefEqProofs [iJ,u1,u2,u3,u4,u5,u6,g1,g2,eq_true g3,eq_true g4,eq_true g8,eq_true jG,h5]
 by_cases h6 : (o.names.length : Int)≤4
 rotate_left
 ·simp -implicitDefEqProofs [iJ,u1,u2,u3,u4,u5,u6,g1,g2,eq_true g3,eq_true g4,eq_true g8,eq_true jG,h5,eq_false h6]
 by_cases h7 : nV o.resp = true
 rotate_left
 ·simp -implicitDefEqProofs [iJ,u1,u2,u3,u4,u5,u6,g1,g2,eq_true g3,eq_true g4,eq_true g8,eq_true jG,h5,eq_true h6,h7]
 simp -implicitDefEqProofs [iJ,u1,u2,u3,u4,u5,u6,g1,g2,eq_true g3,eq_true g4,eq_true g8,eq_true jG,h5,eq_true h6,h7]
 all_goals (repeat' split) <;> first | rfl | omega | (simp_all; done) | (simp_all; omega) | skip
theorem Dc (b : Bn) (hb : aN b≤1073741824) : ev LI TT 94 [.agg (aZ b)] = some (.bool ((gM b)),[.dead]):=by
 rw [aA (b:=lp) (rs:=[.t 2]) (n:=1) rfl rfl]
 have hw : aN b = b.a.length + b.b.length:=rfl
 unfold gM
 have u1:=Dh  b.a (by omega)
 try simp at u1
 have u2:=yS  b.a (by omega)
 try simp at u2
 have u3:=yU  b.b (by omega)
 try simp at u3
 by_cases g1 : 0≤b.t
 rotate_left
 ·simp -implicitDefEqProofs [lp,u1,u2,u3,eq_false g1]
 by_cases g2 : b.t≤1000000
 rotate_left
 ·simp -implicitDefEqProofs [lp,u1,u2,u3,eq_true g1,eq_false g2]
 by_cases h1 : b.kind = 1
 ·by_cases h2 : iM b.a = true <;> simp -implicitDefEqProofs [lp,u1,u2,u3,eq_true g1,eq_true g2,h1,h2]
 by_cases h2 : b.kind = 2
 ·by_cases h3 : iM b.a = true <;> simp -implicitDefEqProofs [lp,u1,u2,u3,eq_true g1,eq_true g2,h2,h3]
 by_cases h3 : b.kind = 3
 ·by_cases h4 : eM b.a = true <;> simp -implicitDefEqProofs [lp,u1,u2,u3,eq_true g1,eq_true g2,h3,h4]
 simp -implicitDefEqProofs [lp,u1,u2,u3,eq_true g1,eq_true g2,h1,h2,h3]
 all_goals (repeat' split) <;> first | rfl | omega | (simp_all; done) | (simp_all; omega) | skip
theorem CZ (b : Bn) (hb : aN b≤1073741824) : ev LI TT 178 [.agg (aZ b)] = some (.bool ((gM b)),[.dead]):=by
 rw [aA (b:=kM) (rs:=[.t 2]) (n:=1) rfl rfl]
 have hw : aN b = b.a.length + b.b.length:=rfl
 unfold gM
 have u1:=C6  b.a (by omega)
 try simp at u1
 have u2:=yL  b.a (by omega)
 try simp at u2
 have u3:=yM  b.b (by omega)
 try simp at u3
 by_cases g1 : 0≤b.t
 rotate_left
 ·simp -implicitDefEqProofs [kM,u1,u2,u3,eq_false g1]
 by_cases g2 : b.t≤1000000
 rotate_left
 ·simp -implicitDefEqProofs [kM,u1,u2,u3,eq_true g1,eq_false g2]
 by_cases h1 : b.kind = 1
 ·by_cases h2 : iM b.a = true <;> simp -implicitDefEqProofs [kM,u1,u2,u3,eq_true g1,eq_true g2,h1,h2]
 by_cases h2 : b.kind = 2
 ·by_cases h3 : iM b.a = true <;> simp -implicitDefEqProofs [kM,u1,u2,u3,eq_true g1,eq_true g2,h2,h3]
 by_cases h3 : b.kind = 3
 ·by_cases h4 : eM b.a = true <;> simp -implicitDefEqProofs [kM,u1,u2,u3,eq_true g1,eq_true g2,h3,h4]
 simp -implicitDefEqProofs [kM,u1,u2,u3,eq_true g1,eq_true g2,h1,h2,h3]
 all_goals (repeat' split) <;> first | rfl | omega | (simp_all; done) | (simp_all; omega) | skip
@[simp] theorem U9 (t : Int) : ev LI TT 219 [.int .i64 t] = some (.bool ((decide (0≤t∧t≤19))),[.dead]):=by
 rw [aA (b:=wA) (rs:=[.t 2]) (n:=1) rfl rfl]
 simp -implicitDefEqProofs [wA]
 all_goals (repeat' split) <;> first | rfl | omega | (simp_all; done) | (simp_all; omega) | skip
@[simp] theorem Va (t : Int) : ev LI TT 179 [.int .i64 t] = some (.bool ((decide (5≤t∧t≤19))),[.dead]):=by
 rw [aA (b:=wB) (rs:=[.t 2]) (n:=1) rfl rfl]
 simp -implicitDefEqProofs [wB]
 all_goals (repeat' split) <;> first | rfl | omega | (simp_all; done) | (simp_all; omega) | skip
theorem HM (d : dY) (hb : d.pending.length≤9223372036854775807) : aK (aq (ev LI TT) (av TT) tN) [(1,.ptr .own (fH .af d)),(3,.int .i64 0)] = if aW nU (d.pending) = true then some (.exit 0,[(1,.ptr .own (fH .af d)),(3,.int .i64 (d.pending).length),(8,.bool false)]) else some (.ret,[(2,.bool false)]):=by
 refine cV (f:=aq (ev LI TT) (av TT) tN) (d.pending) (fun i=>[(1,.ptr .own (fH .af d)),(3,.int .i64 i)]) nU _ _ (fun i b hi hl=>?_) ?_
 ·have hw:=bl i (by first | omega | (simp at hl; omega))
  obtain ⟨_,rfl⟩:=List.getElem?_eq_some_iff.1 hi
  simp -implicitDefEqProofs [tN,B7,hl,hw,nU]
  all_goals (repeat' split) <;> first | rfl | omega | (simp_all; done) | (simp_all; omega) | skip
 ·simp -implicitDefEqProofs [tN,B7]
theorem JU (d : dY) (hb : d.pending.length≤9223372036854775807) : ev LI TT 119 [.agg (fH .af d)] = some (.bool ((nT d)),[.dead]):=by
 rw [aA (b:=xI) (rs:=[.t 2]) (n:=1) rfl rfl]
 unfold nT
 have u1:=HM  d hb
 try simp at u1
 simp -implicitDefEqProofs [xI,u1]
 all_goals (repeat' split) <;> first | rfl | omega | (simp_all; done) | (simp_all; omega) | skip
theorem G5 (d : dY) (hb : d.pending.length≤9223372036854775807) : aK (aq (ev LI TT) (av TT) si) [(1,.ptr .own (fH .af d)),(5,.az 1 [] 0 1),(6,.row .af 2 (d.pending.map eW)),(7,.int .i64 d.pending.length),(8,.int .i64 0)] = if aW nU (d.pending) = true then some (.exit 0,[(1,.ptr .own (fH .af d)),(5,.az 1 [] 0 1),(6,.row .af 2 (d.pending.map eW)),(7,.int .i64 d.pending.length),(8,.int .i64 (d.pending).length),(9,.bool false)]) else some (.ret,[(2,.bool false)]):=by
 refine cV (f:=aq (ev LI TT) (av TT) si) (d.pending) (fun i=>[(1,.ptr .own (fH .af d)),(5,.az 1 [] 0 1),(6,.row .af 2 (d.pending.map eW)),(7,.int .i64 d.pending.length),(8,.int .i64 i)]) nU _ _ (fun i b hi hl=>?_) ?_
 ·have hw:=bl i (by first | omega | (simp at hl; omega))
  obtain ⟨_,rfl⟩:=List.getElem?_eq_some_iff.1 hi
  simp -implicitDefEqProofs [si,At,hl,hw,nU]
  all_goals (repeat' split) <;> first | rfl | omega | (simp_all; done) | (simp_all; omega) | skip
 ·simp -implicitDefEqProofs [si,At]
theorem IL (d : dY) (hb : d.pending.length≤9223372036854775807) : ev LI TT 128 [.agg (fH .af d)] = some (.bool ((nT d)),[.dead]):=by
 rw [aA (b:=vR) (rs:=[.t 2]) (n:=1) rfl rfl]
 unfold nT
 have u1:=G5  d hb
 try simp at u1
 simp -implicitDefEqProofs [vR,u1]
 all_goals (repeat' split) <;> first | rfl | omega | (simp_all; done) | (simp_all; omega) | skip
end M
set_option maxHeartbeats 4000000
namespace M
open Go
variable [Lb]
theorem EC (fs : List aH) (n v : ah) : (decide (cN fs n = some v)) = ((cN fs n).isSome && decide ((cN fs n).getD [] = v)):=by
 cases cN fs n <;> simp
theorem Q4 (p s : ah) : p.isPrefixOf s = (decide (p.length≤s.length) && decide (s.take p.length = p)):=by
 have:=Lib.hasPrefix_of_take s p
 unfold Lib.hasPrefix at this
 rw [← this]
 congr 1
 rw [Bool.eq_iff_iff]
 simp
theorem JX (b : Bn) (o : Ob) (h1 : aN b≤1073741824) (h2 : bH o≤1073741824) : ev LI TT 139 [.agg (aZ b),.agg (bw .af o)] = some (.bool (iH b o),[.dead,.dead]):=by
 rw [aA (b:=ju) (rs:=[.t 4]) (n:=2) rfl rfl]
 have hw : aN b = b.a.length + b.b.length:=rfl
 have nw : bH o = o.path.length + wL wS o.names + wL wS o.values + cr o.resp:=rfl
 have Pa : cr o.resp = wL aL o.resp.fields + o.resp.body.length:=rfl
 have l1:=bC (w:=aL) o.resp.fields
 unfold iH
 rw [EC,Q4]
 have u1:=Dc  b h1
 try simp at u1
 have u2:=Dd  o (by omega)
 try simp at u2
 have u3:=yR  o.resp.fields b.a (by omega)
 try simp at u3
 generalize gM b = b1 at u1
 cases b1
 ·simp -implicitDefEqProofs [ju,u1]
 generalize gY o = b2 at u2
 cases b2
 ·simp -implicitDefEqProofs [ju,u1,u2]
 by_cases g1 : o.t≤b.t
 rotate_left
 ·have gb : b.t < o.t:=by omega
  simp -implicitDefEqProofs [ju,u1,u2,g1,gb]
 have gb : ¬ b.t < o.t:=by omega
 by_cases g2 : b.kind = 1
 ·rw [g2] at u1
  simp -implicitDefEqProofs [ju,u1,u2,g1,gb,g2]
 by_cases g3 : b.kind = 2
 ·rw [g3] at u1
  by_cases g4 : b.a.length≤o.path.length
  ·have vp : (b.a.length : Int)≤o.path.length:=by omega
   by_cases g5 : o.path.take b.a.length = b.a
   ·simp -implicitDefEqProofs [ju,u1,u2,g1,gb,g2,g3,g4,vp,Lib.extract_mk,eq_true g5]
   ·simp -implicitDefEqProofs [ju,u1,u2,g1,gb,g2,g3,g4,vp,Lib.extract_mk,eq_false g5]
  ·have vp : ¬ (b.a.length : Int)≤o.path.length:=by omega
   simp -implicitDefEqProofs [ju,u1,u2,g1,gb,g2,g3,g4,vp]
 generalize (cN o.resp.fields b.a).isSome = b3 at u3
 cases b3
 all_goals
 simp -implicitDefEqProofs [ju,u1,u2,u3,g1,gb,g2,g3]
 all_goals (repeat' split) <;> first | rfl | omega | (simp_all; done) | (simp_all; omega) | skip
theorem IQ (b : Bn) (o : Ob) (h1 : aN b≤1073741824) (h2 : bH o≤1073741824) : ev LI TT 145 [.agg (aZ b),.agg (bw .af o)] = some (.bool (iH b o),[.dead,.dead]):=by
 rw [aA (b:=kO) (rs:=[.t 4]) (n:=2) rfl rfl]
 have hw : aN b = b.a.length + b.b.length:=rfl
 have nw : bH o = o.path.length + wL wS o.names + wL wS o.values + cr o.resp:=rfl
 have Pa : cr o.resp = wL aL o.resp.fields + o.resp.body.length:=rfl
 have l1:=bC (w:=aL) o.resp.fields
 unfold iH
 rw [EC,show b.a.isPrefixOf o.path = Lib.hasPrefix o.path b.a from rfl]
 have u1:=CZ  b h1
 try simp at u1
 have u2:=C0  o (by omega)
 try simp at u2
 have u3:=yK  o.resp.fields b.a (by omega)
 try simp at u3
 have u4:=Ki  o.path b.a
 try simp at u4
 by_cases g1 : o.t≤b.t
 rotate_left
 ·have gb : b.t < o.t:=by omega
  simp -implicitDefEqProofs [kO,u1,u2,g1,gb]
 have gb : ¬ b.t < o.t:=by omega
 generalize gM b = b1 at u1
 cases b1
 ·simp -implicitDefEqProofs [kO,u1,g1,gb]
 generalize gY o = b2 at u2
 cases b2
 ·simp -implicitDefEqProofs [kO,u1,u2,g1,gb]
 by_cases g2 : b.kind = 1
 ·rw [g2] at u1
  simp -implicitDefEqProofs [kO,u1,u2,g1,gb,g2]
 by_cases g3 : b.kind = 2
 ·rw [g3] at u1
  simp -implicitDefEqProofs [kO,u1,u2,u4,g1,gb,g2,g3]
 generalize (cN o.resp.fields b.a).isSome = b3 at u3
 cases b3
 all_goals
 simp -implicitDefEqProofs [kO,u1,u2,u3,u4,g1,gb,g2,g3]
 all_goals (repeat' split) <;> first | rfl | omega | (simp_all; done) | (simp_all; omega) | skip
theorem EU (l : List Bn) (o : Ob) : aW (fun b=>!iH b o) l = !jg l o:=by
 unfold jg aW
 induction l with
 | nil=>rfl
 | cons b l ih=>simp only [List.all_cons,List.any_cons,ih,Bool.not_or]
theorem HP (l : List Bn) (o : Ob) (h1 : wL aN l≤1073741824) (h2 : bH o≤1073741824) : aK (aq (ev LI TT) (av TT) tP) [(0,.row .af 4 (l.map aZ)),(3,.ptr .own (bw .af o)),(5,.int .i64 0)] = if aW (fun b=>!iH b o) (l) = true then some (.exit 0,[(0,.row .af 4 (l.map aZ)),(3,.ptr .own (bw .af o)),(5,.int .i64 (l).length),(9,.bool false)]) else some (.ret,[(4,.bool true)]):=by
 refine cV (f:=aq (ev LI TT) (av TT) tP) (l) (fun i=>[(0,.row .af 4 (l.map aZ)),(3,.ptr .own (bw .af o)),(5,.int .i64 i)]) (fun b=>!iH b o) _ _ (fun i b hi hl=>?_) ?_
 ·have hw:=bl i (by have:=bC (w:=aN) l; omega)
  obtain ⟨_,rfl⟩:=List.getElem?_eq_some_iff.1 hi
  have hm:=yo (List.getElem_mem hl)
  have u1:=JX l[i] o (by omega) h2
  try simp at u1
  cases hh : iH l[i] o <;> rw [hh] at u1
  all_goals
  simp -implicitDefEqProofs [tP,B8,hl,hw,u1,hh]
  all_goals (repeat' split) <;> first | rfl | omega | (simp_all; done) | (simp_all; omega) | skip
 ·simp -implicitDefEqProofs [tP,B8]
theorem JY (l : List Bn) (o : Ob) (h1 : wL aN l≤1073741824) (h2 : bH o≤1073741824) : ev LI TT 56 [.row .af 4 (l.map aZ),.agg (bw .af o)] = some (.bool (jg l o),[.dead,.dead]):=by
 rw [aA (b:=xK) (rs:=[.t 4]) (n:=2) rfl rfl]
 have u1:=HP  l o h1 h2
 try simp at u1
 rw [EU] at u1
 cases hh : jg l o <;> rw [hh] at u1
 all_goals try simp at u1
 all_goals
 simp -implicitDefEqProofs [xK,u1]
 all_goals (repeat' split) <;> first | rfl | omega | (simp_all; done) | (simp_all; omega) | skip
theorem G7 (l : List Bn) (o : Ob) (h1 : wL aN l≤1073741824) (h2 : bH o≤1073741824) : aK (aq (ev LI TT) (av TT) so) [(0,.row .af 4 (l.map aZ)),(3,.ptr .own (bw .af o)),(7,.row .af 4 (l.map aZ)),(8,.int .i64 l.length),(9,.int .i64 0)] = if aW (fun b=>!iH b o) (l) = true then some (.exit 0,[(0,.row .af 4 (l.map aZ)),(3,.ptr .own (bw .af o)),(7,.row .af 4 (l.map aZ)),(8,.int .i64 l.length),(9,.int .i64 (l).length),(10,.bool false)]) else some (.ret,[(4,.bool true)]):=by
 refine cV (f:=aq (ev LI TT) (av TT) so) (l) (fun i=>[(0,.row .af 4 (l.map aZ)),(3,.ptr .own (bw .af o)),(7,.row .af 4 (l.map aZ)),(8,.int .i64 l.length),(9,.int .i64 i)]) (fun b=>!iH b o) _ _ (fun i b hi hl=>?_) ?_
 ·have hw:=bl i (by have:=bC (w:=aN) l; omega)
  obtain ⟨_,rfl⟩:=List.getElem?_eq_some_iff.1 hi
  have hm:=yo (List.getElem_mem hl)
  have u1:=IQ l[i] o (by omega) h2
  try simp at u1
  cases hh : iH l[i] o <;> rw [hh] at u1
  all_goals
  simp -implicitDefEqProofs [so,Au,hl,hw,u1,hh]
  all_goals (repeat' split) <;> first | rfl | omega | (simp_all; done) | (simp_all; omega) | skip
 ·simp -implicitDefEqProofs [so,Au]
theorem IU (l : List Bn) (o : Ob) (h1 : wL aN l≤1073741824) (h2 : bH o≤1073741824) : ev LI TT 61 [.row .af 4 (l.map aZ),.agg (bw .af o)] = some (.bool (jg l o),[.dead,.dead]):=by
 rw [aA (b:=vT) (rs:=[.t 4]) (n:=2) rfl rfl]
 have u1:=G7  l o h1 h2
 try simp at u1
 rw [EU] at u1
 cases hh : jg l o <;> rw [hh] at u1
 all_goals try simp at u1
 all_goals
 simp -implicitDefEqProofs [vT,u1]
 all_goals (repeat' split) <;> first | rfl | omega | (simp_all; done) | (simp_all; omega) | skip
end M
namespace M
open Go
variable [Lb]
def lC (fs : List aH) (n : ah) : ah:=(cN fs n).getD [45]
def valuesOf (ns : List ah) (fs : List aH) : List ah:=ns.map (lC fs)
theorem GO (ns : List ah) (fs : List aH) : (valuesOf ns fs).length = ns.length:=by simp [valuesOf]
theorem H6 (ns : List ah) (fs : List aH) (hb : ns.length≤1073741824) (hf : fs.length≤9223372036854775807) : aK (aq (ev LI TT) (av TT) tY) [(0,.row .af 1 (ns.map eS)),(1,.row .af 2 (fs.map aE)),(5,.row .own 1 (([]).map eS)),(6,.int .i64 0)] = some (.exit 0,[(0,.row .af 1 (ns.map eS)),(1,.row .af 2 (fs.map aE)),(5,.row .own 1 ((((ns).flatMap (fun n=>[lC fs n]))).map eS)),(6,.int .i64 (ns).length),(13,.bool false)]):=by
 refine tg (f:=aq (ev LI TT) (av TT) tY) (ns) (fun n=>[lC fs n]) (fun i out=>[(0,.row .af 1 (ns.map eS)),(1,.row .af 2 (fs.map aE)),(5,.row .own 1 ((out).map eS)),(6,.int .i64 i)]) (fun out=>[(0,.row .af 1 (ns.map eS)),(1,.row .af 2 (fs.map aE)),(5,.row .own 1 ((out).map eS)),(6,.int .i64 (ns).length),(13,.bool false)]) (fun i b out hi hl hout=>?_) (fun out hout=>?_)
 ·have hw:=bl i (by first | omega | (simp at hl; omega))
  obtain ⟨_,rfl⟩:=List.getElem?_eq_some_iff.1 hi
  have h:=yR fs ns[i] hf
  have hlo : out.length = i:=by rw [hout]; exact vn _ _ _ (by omega)
  have hlz : (i + 1) * 16≤140737488355328:=by omega
  unfold lC
  cases g : cN fs ns[i] <;> rw [g] at h
  all_goals
  simp -implicitDefEqProofs [tY,Ch,hl,hw,h,hlo,hlz,gp]
 ·simp -implicitDefEqProofs [tY,Ch]
theorem J3 (ns : List ah) (fs : List aH) (hb : ns.length≤1073741824) (hf : fs.length≤9223372036854775807) : ev LI TT 176 [.row .af 1 (ns.map eS),.row .af 2 (fs.map aE)] = some (.row .own 1 ((valuesOf ns fs).map eS),[.dead,.dead]):=by
 rw [aA (b:=xQ) (rs:=[.t 4]) (n:=2) rfl rfl]
 have u1:=H6  ns fs hb hf
 try simp at u1
 rw [rz,show ns.map (fun n=>lC fs n) = valuesOf ns fs from rfl] at u1
 simp -implicitDefEqProofs [xQ,u1]
 all_goals (repeat' split) <;> first | rfl | omega | (simp_all; done) | (simp_all; omega) | skip
theorem Hh (ns : List ah) (fs : List aH) (hb : ns.length≤1073741824) (hf : fs.length≤9223372036854775807) : aK (aq (ev LI TT) (av TT) sA) [(0,.row .af 1 (ns.map eS)),(1,.row .af 2 (fs.map aE)),(5,.row .own 1 (([]).map eS)),(10,.row .af 1 (ns.map eS)),(11,.int .i64 ns.length),(12,.int .i64 0)] = some (.exit 0,[(0,.row .af 1 (ns.map eS)),(1,.row .af 2 (fs.map aE)),(5,.row .own 1 ((((ns).flatMap (fun n=>[lC fs n]))).map eS)),(10,.row .af 1 (ns.map eS)),(11,.int .i64 ns.length),(12,.int .i64 (ns).length),(13,.bool false)]):=by
 refine tg (f:=aq (ev LI TT) (av TT) sA) (ns) (fun n=>[lC fs n]) (fun i out=>[(0,.row .af 1 (ns.map eS)),(1,.row .af 2 (fs.map aE)),(5,.row .own 1 ((out).map eS)),(10,.row .af 1 (ns.map eS)),(11,.int .i64 ns.length),(12,.int .i64 i)]) (fun out=>[(0,.row .af 1 (ns.map eS)),(1,.row .af 2 (fs.map aE)),(5,.row .own 1 ((out).map eS)),(10,.row .af 1 (ns.map eS)),(11,.int .i64 ns.length),(12,.int .i64 (ns).length),(13,.bool false)]) (fun i b out hi hl hout=>?_) (fun out hout=>?_)
 ·have hw:=bl i (by first | omega | (simp at hl; omega))
  obtain ⟨_,rfl⟩:=List.getElem?_eq_some_iff.1 hi
  have h:=yK fs ns[i] hf
  have hlo : out.length = i:=by rw [hout]; exact vn _ _ _ (by omega)
  have hlz : (i + 1) * 16≤140737488355328:=by omega
  unfold lC
  cases g : cN fs ns[i] <;> rw [g] at h
  all_goals
  simp -implicitDefEqProofs [sA,Az,hl,hw,h,hlo,hlz,gp]
 ·simp -implicitDefEqProofs [sA,Az]
theorem I3 (ns : List ah) (fs : List aH) (hb : ns.length≤1073741824) (hf : fs.length≤9223372036854775807) : ev LI TT 244 [.row .af 1 (ns.map eS),.row .af 2 (fs.map aE)] = some (.row .own 1 ((valuesOf ns fs).map eS),[.dead,.dead]):=by
 rw [aA (b:=wj) (rs:=[.t 4]) (n:=2) rfl rfl]
 have u1:=Hh  ns fs hb hf
 try simp at u1
 rw [rz,show ns.map (fun n=>lC fs n) = valuesOf ns fs from rfl] at u1
 simp -implicitDefEqProofs [wj,u1]
 all_goals (repeat' split) <;> first | rfl | omega | (simp_all; done) | (simp_all; omega) | skip
def qq (ns : List ah) : Bool:=(cG (fun n=>decide (n = [42])) 0 ns).isSome
theorem Ia (ns : List ah) (hb : ns.length≤9223372036854775807) : aK (aq (ev LI TT) (av TT) ue) [(0,.row .af 1 (ns.map eS)),(3,.int .i64 0)] = (cG (fun n=>decide (n = [42])) 0 (ns)).elim (some (.exit 0,[(0,.row .af 1 (ns.map eS)),(3,.int .i64 (ns).length),(7,.bool false)])) fun x=>some (.ret,(fun (i : Nat) b=>[(2,.bool true)]) x.1 x.2):=by
 refine pW (f:=aq (ev LI TT) (av TT) ue) (ns) (fun i=>[(0,.row .af 1 (ns.map eS)),(3,.int .i64 i)]) (fun n=>decide (n = [42])) (fun (i : Nat) b=>[(2,.bool true)]) _ (fun i b hi hl=>?_) ?_
 ·have hw:=bl i (by first | omega | (simp at hl; omega))
  obtain ⟨_,rfl⟩:=List.getElem?_eq_some_iff.1 hi
  have NP : (⟨#[42]⟩ : ByteArray) = ⟨([42] : ah).toArray⟩:=rfl
  simp -implicitDefEqProofs [ue,Cl,hl,hw,NP]
 ·simp -implicitDefEqProofs [ue,Cl]
theorem J6 (ns : List ah) (hb : ns.length≤9223372036854775807) : ev LI TT 174 [.row .af 1 (ns.map eS)] = some (.bool (qq ns),[.dead]):=by
 rw [aA (b:=uf) (rs:=[.t 2]) (n:=1) rfl rfl]
 have u1:=Ia  ns hb
 try simp at u1
 unfold qq
 cases g : cG (fun n=>decide (n = ([42] : ah))) 0 ns with
 | none=>rw [g] at u1; simp at u1; simp -implicitDefEqProofs [uf,u1]
 | some x =>
 rw [g] at u1
 simp at u1
 simp -implicitDefEqProofs [uf,u1]
 all_goals (repeat' split) <;> first | rfl | omega | (simp_all; done) | (simp_all; omega) | skip
theorem Ii (ns : List ah) (s : ah) (hb : ns.length≤9223372036854775807) : aK (aq (ev LI TT) (av TT) uD) [(0,.row .af 1 (ns.map eS)),(1,.str ⟨s.toArray⟩),(7,.int .i64 ns.length),(8,.int .i64 0)] = (cG (fun n=>decide (n = s)) 0 (ns)).elim (some (.exit 0,[(0,.row .af 1 (ns.map eS)),(1,.str ⟨s.toArray⟩),(7,.int .i64 ns.length),(8,.int .i64 (ns).length),(9,.bool false)])) fun x=>some (.ret,(fun (i : Nat) b=>[(4,.int .i64 i)]) x.1 x.2):=by
 refine pW (f:=aq (ev LI TT) (av TT) uD) (ns) (fun i=>[(0,.row .af 1 (ns.map eS)),(1,.str ⟨s.toArray⟩),(7,.int .i64 ns.length),(8,.int .i64 i)]) (fun n=>decide (n = s)) (fun (i : Nat) b=>[(4,.int .i64 i)]) _ (fun i b hi hl=>?_) ?_
 ·have hw:=bl i (by first | omega | (simp at hl; omega))
  obtain ⟨_,rfl⟩:=List.getElem?_eq_some_iff.1 hi
  simp -implicitDefEqProofs [uD,CG,hl,hw,eq_comm (a:=s)]
 ·simp -implicitDefEqProofs [uD,CG]
theorem Kh (ns : List ah) (s : ah) (hb : ns.length≤9223372036854775807) : ev LI TT 303 [.row .af 1 (ns.map eS),.str ⟨s.toArray⟩] = some (.int .i64 (((cG (fun n=>decide (n = s)) 0 ns).elim (-1) fun x=>(x.1 : Int))),[.dead,.dead]):=by
 rw [aA (b:=uE) (rs:=[.t 4]) (n:=2) rfl rfl]
 have u1:=Ii  ns s hb
 try simp at u1
 cases g : cG (fun n=>decide (n = s)) 0 ns with
 | none=>rw [g] at u1; simp at u1; simp -implicitDefEqProofs [uE,u1]
 | some x =>
 rw [g] at u1
 simp at u1
 simp -implicitDefEqProofs [uE,u1]
 all_goals (repeat' split) <;> first | rfl | omega | (simp_all; done) | (simp_all; omega) | skip
theorem Ke (ns : List ah) (s : ah) (hb : ns.length≤9223372036854775807) : ev LI TT 242 [.row .af 1 (ns.map eS),.str ⟨s.toArray⟩] = some (.bool ((cG (fun n=>decide (n = s)) 0 ns).isSome),[.dead,.dead]):=by
 rw [aA (b:=ux) (rs:=[.t 4]) (n:=2) rfl rfl]
 have u1:=Kh  ns s hb
 try simp at u1
 cases g : cG (fun n=>decide (n = s)) 0 ns with
 | none=>rw [g] at u1; simp at u1; simp -implicitDefEqProofs [ux,u1]
 | some x =>
 rw [g] at u1
 simp at u1
 simp -implicitDefEqProofs [ux,u1]
 all_goals (repeat' split) <;> first | rfl | omega | (simp_all; done) | (simp_all; omega) | skip
def lA (ns vs : List ah) (fs : List aH) : Bool:=!qq ns && decide (valuesOf ns fs = vs)
theorem J2 (ns : List ah) (vs : List ah) (fs : List aH) (hb : ns.length≤1073741824) (hv : vs.length≤1073741824) (hf : fs.length≤9223372036854775807) : ev LI TT 90 [.row .af 1 (ns.map eS),.row .af 1 (vs.map eS),.row .af 2 (fs.map aE)] = some (.bool (lA ns vs fs),[.dead,.dead,.dead]):=by
 rw [aA (b:=xN) (rs:=[.t 6]) (n:=3) rfl rfl]
 have u1:=J6  ns (by omega)
 try simp at u1
 have u2:=J3  ns fs hb hf
 try simp at u2
 have u3:=Di  (valuesOf ns fs) vs (by rw [GO]; omega) (by omega)
 try simp at u3
 unfold lA
 cases g : qq ns <;> rw [g] at u1
 all_goals
 simp -implicitDefEqProofs [xN,u1,u2,u3]
 all_goals (repeat' split) <;> first | rfl | omega | (simp_all; done) | (simp_all; omega) | skip
theorem I2 (ns : List ah) (vs : List ah) (fs : List aH) (hb : ns.length≤1073741824) (hv : vs.length≤1073741824) (hf : fs.length≤9223372036854775807) : ev LI TT 154 [.row .af 1 (ns.map eS),.row .af 1 (vs.map eS),.row .af 2 (fs.map aE)] = some (.bool (lA ns vs fs),[.dead,.dead,.dead]):=by
 rw [aA (b:=vZ) (rs:=[.t 6]) (n:=3) rfl rfl]
 have u1:=Ke  ns [42] (by omega)
 try simp at u1
 have u2:=I3  ns fs hb hf
 try simp at u2
 have u3:=Dj  (valuesOf ns fs) vs (by rw [GO]; omega)
 try simp at u3
 rw [show (cG (fun n : ah=>decide (n = [42])) 0 ns).isSome = qq ns from rfl] at u1
 unfold lA
 cases g : qq ns <;> rw [g] at u1
 all_goals
 simp -implicitDefEqProofs [vZ,u1,u2,u3]
 all_goals (repeat' split) <;> first | rfl | omega | (simp_all; done) | (simp_all; omega) | skip
end M
namespace M
open Go
variable [Lb]
theorem HS (s : Sh) (hb : bT s≤1073741824) : aK (aq (ev LI TT) (av TT) tS) [(1,.ptr .own (bn .af s)),(3,.int .i64 0)] = if aW gM (s.aO) = true then some (.exit 0,[(1,.ptr .own (bn .af s)),(3,.int .i64 (s.aO).length),(33,.bool false)]) else some (.ret,[(2,.bool false)]):=by
 refine cV (f:=aq (ev LI TT) (av TT) tS) (s.aO) (fun i=>[(1,.ptr .own (bn .af s)),(3,.int .i64 i)]) gM _ _ (fun i b hi hl=>?_) ?_
 ·have hw:=bl i (by have ji : bT s = cB s.bt + wL br s.ak + wL aN s.aO:=rfl; have:=bC (w:=aN) s.aO; omega)
  obtain ⟨_,rfl⟩:=List.getElem?_eq_some_iff.1 hi
  have ji : bT s = cB s.bt + wL br s.ak + wL aN s.aO:=rfl
  have hm:=yo (List.getElem_mem hl)
  have u1:=Dc  s.aO[i] (by omega)
  try simp at u1
  simp -implicitDefEqProofs [tS,Cb,hl,hw,u1]
  all_goals (repeat' split) <;> first | rfl | omega | (simp_all; done) | (simp_all; omega) | skip
 ·simp -implicitDefEqProofs [tS,Cb]
theorem HT (s : Sh) (n : Nat) (k : Kp) (hn : n≤s.ak.length) (hb : s.ak.length≤1073741824) : aK (aq (ev LI TT) (av TT) tT) [(1,.ptr .own (bn .af s)),(4,.int .i64 n),(5,.ptr .own (aP .af k)),(6,.int .i64 0)] = if aW (fun y=>decide ¬ y.at_ = k.at_) (s.ak.take n) = true then some (.exit 4,[(1,.ptr .own (bn .af s)),(4,.int .i64 n),(5,.ptr .own (aP .af k)),(6,.int .i64 (s.ak.take n).length),(92,.bool false)]) else some (.ret,[(2,.bool false)]):=by
 refine cV (f:=aq (ev LI TT) (av TT) tT) (s.ak.take n) (fun i=>[(1,.ptr .own (bn .af s)),(4,.int .i64 n),(5,.ptr .own (aP .af k)),(6,.int .i64 i)]) (fun y=>decide ¬ y.at_ = k.at_) _ _ (fun i b hi hl=>?_) ?_
 ·have hw:=bl i (by first | omega | (simp at hl; omega))
  obtain ⟨_,rfl⟩:=List.getElem?_eq_some_iff.1 hi
  have h1 : i < n:=by simp at hl; omega
  have h2 : i < s.ak.length:=by omega
  simp -implicitDefEqProofs [tT,Cc,hl,hw,h1,h2]
  all_goals (repeat' split) <;> first | rfl | omega | (simp_all; done) | (simp_all; omega) | skip
 ·have hmin : min n s.ak.length = n:=by omega
  simp -implicitDefEqProofs [tT,Cc,hmin]
theorem HU (s : Sh) (hb : bT s≤1073741824) (hs : 1≤s.seq∧s.seq≤100000) : aK (aq (ev LI TT) (av TT) iQ) [(1,.ptr .own (bn .af s)),(4,.int .i64 0)] = if aW (gX s.seq s.ak) (s.ak.zipIdx) = true then some (.exit 2,[(1,.ptr .own (bn .af s)),(4,.int .i64 (s.ak.zipIdx).length),(47,.bool false)]) else some (.ret,[(2,.bool false)]):=by
 refine cV (f:=aq (ev LI TT) (av TT) iQ) (s.ak.zipIdx) (fun i=>[(1,.ptr .own (bn .af s)),(4,.int .i64 i)]) (gX s.seq s.ak) _ _ (fun i b hi hl=>?_) ?_
 ·have hw:=bl i (by have ji : bT s = cB s.bt + wL br s.ak + wL aN s.aO:=rfl; have:=bC (w:=br) s.ak; simp at hl; omega)
  obtain ⟨_,rfl⟩:=List.getElem?_eq_some_iff.1 hi
  simp only [List.length_zipIdx] at hl
  have ji : bT s = cB s.bt + wL br s.ak + wL aN s.aO:=rfl
  have hlen:=bC (w:=br) s.ak
  have hz : s.ak.zipIdx[i]'(by simpa using hl) = (s.ak[i],i):=by simp
  have hm:=uu (List.getElem_mem hl)
  have hS : IntKind.i64.wrap (s.seq - 1) = s.seq - 1:=bU (by omega) (by omega)
  rw [hz]
  have hmin : min i s.ak.length = i:=by omega
  have u1:=Dd  s.ak[i].obj (by omega)
  try simp at u1
  have u2:=HT  s i s.ak[i] (by omega) (by omega)
  try simp at u2
  by_cases g1 : gY (s.ak[i]).obj = true
  rotate_left
  ·simp -implicitDefEqProofs [iQ,j6,hl,hw,u1,u2,gX,hS,hmin,g1]
  by_cases g2 : 5≤(s.ak[i]).at_
  rotate_left
  ·simp -implicitDefEqProofs [iQ,j6,hl,hw,u1,u2,gX,hS,hmin,g1,eq_false g2]
  by_cases g3 : (s.ak[i]).at_≤19
  rotate_left
  ·simp -implicitDefEqProofs [iQ,j6,hl,hw,u1,u2,gX,hS,hmin,g1,eq_true g2,eq_false g3]
  by_cases g4 : 1≤(s.ak[i]).seq
  rotate_left
  ·simp -implicitDefEqProofs [iQ,j6,hl,hw,u1,u2,gX,hS,hmin,g1,eq_true g2,eq_true g3,eq_false g4]
  by_cases g5 : (s.ak[i]).seq≤s.seq - 1
  rotate_left
  ·simp -implicitDefEqProofs [iQ,j6,hl,hw,u1,u2,gX,hS,hmin,g1,eq_true g2,eq_true g3,eq_true g4,eq_false g5]
  by_cases g6 : i = 0
  ·subst g6
   try simp at u2 hw
   simp -implicitDefEqProofs [iQ,j6,hl,hw,u1,u2,gX,hS,hmin,g1,eq_true g2,eq_true g3,eq_true g4,eq_true g5]
  obtain ⟨j,rfl⟩ : ∃ j,i = j + 1:=⟨i - 1,by omega⟩
  have hj : j < s.ak.length:=by omega
  have hJ : IntKind.i64.wrap (j : Int) = j:=bU (by omega) (by omega)
  have hp:=BV s.ak j hj
  try simp at u2 hw hS
  have hpos : (0 : Int) < (j : Int) + 1:=by omega
  have hlc : (j : Int) + 1 < s.ak.length:=by omega
  have dG : (0 : Int)≤(j : Int) + 1:=by omega
  by_cases g7 : (s.ak[j]).seq < (s.ak[j + 1]).seq
  rotate_left
  ·have zz : (s.ak[j + 1]).seq≤(s.ak[j]).seq:=by omega
   simp -implicitDefEqProofs [iQ,j6,hl,hw,u1,u2,gX,hS,hmin,g1,eq_true g2,eq_true g3,eq_true g4,eq_true g5,hj,hJ,hp,hpos,hlc,dG,eq_false g7,eq_true zz]
  have zz : ¬ (s.ak[j + 1]).seq≤(s.ak[j]).seq:=by omega
  simp -implicitDefEqProofs [iQ,j6,hl,hw,u1,u2,gX,hS,hmin,g1,eq_true g2,eq_true g3,eq_true g4,eq_true g5,hj,hJ,hp,hpos,hlc,dG,eq_true g7,eq_false zz]
  all_goals (repeat' split) <;> first | rfl | omega | (simp_all; done) | (simp_all; omega) | skip
 ·simp -implicitDefEqProofs [iQ,j6]
theorem Df (s : Sh) (hb : bT s≤1073741824) : ev LI TT 89 [.agg (bn .af s)] = some (.bool ((iR s)),[.dead]):=by
 rw [aA (b:=j7) (rs:=[.t 2]) (n:=1) rfl rfl]
 have ji : bT s = cB s.bt + wL br s.ak + wL aN s.aO:=rfl
 have Pc : cB s.bt = wL wS s.bt.cells + wL bZ s.bt.pending:=rfl
 have hlen:=bC (w:=bZ) s.bt.pending
 unfold iR
 have u1:=JU  s.bt (by omega)
 try simp at u1
 have u2:=HS  s hb
 try simp at u2
 by_cases g1 : nT s.bt = true
 rotate_left
 ·simp -implicitDefEqProofs [j7,u1,u2,g1]
 by_cases g2 : (s.aO.length : Int)≤5
 rotate_left
 ·simp -implicitDefEqProofs [j7,u1,u2,g1,eq_false g2]
 by_cases g3 : 5≤s.next
 rotate_left
 ·simp -implicitDefEqProofs [j7,u1,u2,g1,eq_true g2,eq_false g3]
 by_cases g4 : s.next≤19
 rotate_left
 ·simp -implicitDefEqProofs [j7,u1,u2,g1,eq_true g2,eq_true g3,eq_false g4]
 by_cases g5 : 1≤s.seq
 rotate_left
 ·simp -implicitDefEqProofs [j7,u1,u2,g1,eq_true g2,eq_true g3,eq_true g4,eq_false g5]
 by_cases g6 : s.seq≤100000
 rotate_left
 ·simp -implicitDefEqProofs [j7,u1,u2,g1,eq_true g2,eq_true g3,eq_true g4,eq_true g5,eq_false g6]
 have u3:=HU s hb ⟨by omega,by omega⟩
 rw [PC] at u3
 simp at u3
 have NJ : ¬ 5 < (s.aO.length : Int):=by omega
 simp -implicitDefEqProofs [j7,u1,u2,g1,eq_true g2,eq_true g3,eq_true g4,eq_true g5,eq_true g6,u3,NJ]
 all_goals (repeat' split) <;> first | rfl | omega | (simp_all; done) | (simp_all; omega) | skip
end M
namespace M
open Go
variable [Lb]
theorem I0 (x k : Kp) : ev LI TT 262 [.agg (aP .af x),.ptr .af (aP .af k)] = some (.bool (decide (x.at_ = k.at_)),[.dead,.dead]):=by
 rw [aA (b:=vV) (rs:=[.t 3]) (n:=2) rfl rfl]
 simp -implicitDefEqProofs [vV]
 all_goals (repeat' split) <;> first | rfl | omega | (simp_all; done) | (simp_all; omega) | skip
theorem Ih (l : List Kp) (k : Kp) (gf : Nat) (p : Kp→Bool) (ho : av TT gf = true) (hf : ∀ x∈l,ev LI TT gf [.agg (aP .af x),.ptr .af (aP .af k)] = some (.bool (p x),[.dead,.dead])) (hb : l.length≤9223372036854775807) : aK (aq (ev LI TT) (av TT) uB) [(0,.row .af 9 (l.map (aP .af))),(1,.fn gf [.ptr .af (aP .af k)]),(7,.int .i64 l.length),(8,.int .i64 0)] = (cG p 0 (l)).elim (some (.exit 0,[(0,.row .af 9 (l.map (aP .af))),(1,.fn gf [.ptr .af (aP .af k)]),(7,.int .i64 l.length),(8,.int .i64 (l).length),(9,.bool false)])) fun x=>some (.ret,(fun (i : Nat) b=>[(4,.int .i64 i)]) x.1 x.2):=by
 refine pW (f:=aq (ev LI TT) (av TT) uB) (l) (fun i=>[(0,.row .af 9 (l.map (aP .af))),(1,.fn gf [.ptr .af (aP .af k)]),(7,.int .i64 l.length),(8,.int .i64 i)]) p (fun (i : Nat) b=>[(4,.int .i64 i)]) _ (fun i b hi hl=>?_) ?_
 ·have hw:=bl i (by first | omega | (simp at hl; omega))
  obtain ⟨_,rfl⟩:=List.getElem?_eq_some_iff.1 hi
  have u1:=hf l[i] (List.getElem_mem hl)
  try simp at u1
  simp -implicitDefEqProofs [uB,CF,hl,hw,u1,ho,wF]
  all_goals (repeat' split) <;> first | rfl | omega | (simp_all; done) | (simp_all; omega) | skip
 ·simp -implicitDefEqProofs [uB,CF]
theorem Kg (l : List Kp) (k : Kp) (gf : Nat) (p : Kp→Bool) (ho : av TT gf = true) (hf : ∀ x∈l,ev LI TT gf [.agg (aP .af x),.ptr .af (aP .af k)] = some (.bool (p x),[.dead,.dead])) (hb : l.length≤9223372036854775807) : ev LI TT 268 [.row .af 9 (l.map (aP .af)),.fn gf [.ptr .af (aP .af k)]] = some (.int .i64 ((cG p 0 l).elim (-1) fun x=>(x.1 : Int)),[.dead,.dead]):=by
 rw [aA (b:=uC) (rs:=[.t 4]) (n:=2) rfl rfl]
 have u1:=Ih  l k gf p ho hf hb
 try simp at u1
 cases g : cG p 0 l with
 | none=>rw [g] at u1; simp at u1; simp -implicitDefEqProofs [uC,u1]
 | some x =>
 rw [g] at u1
 simp at u1
 simp -implicitDefEqProofs [uC,u1]
 all_goals (repeat' split) <;> first | rfl | omega | (simp_all; done) | (simp_all; omega) | skip
theorem Kc (l : List Kp) (k : Kp) (gf : Nat) (p : Kp→Bool) (ho : av TT gf = true) (hf : ∀ x∈l,ev LI TT gf [.agg (aP .af x),.ptr .af (aP .af k)] = some (.bool (p x),[.dead,.dead])) (hb : l.length≤9223372036854775807) : ev LI TT 223 [.row .af 9 (l.map (aP .af)),.fn gf [.ptr .af (aP .af k)]] = some (.bool (!aW (fun x=>!p x) l),[.dead,.dead]):=by
 rw [aA (b:=uw) (rs:=[.t 4]) (n:=2) rfl rfl]
 have u1:=Kg  l k gf p ho hf hb
 try simp at u1
 rw [← Ej p l 0]
 cases g : cG p 0 l with
 | none=>rw [g] at u1; simp at u1; simp -implicitDefEqProofs [uw,u1]
 | some x =>
 rw [g] at u1
 simp at u1
 simp -implicitDefEqProofs [uw,u1]
 all_goals (repeat' split) <;> first | rfl | omega | (simp_all; done) | (simp_all; omega) | skip
theorem Ho (s : Sh) (hb : bT s≤1073741824) : ∃ sl,aK (aq (ev LI TT) (av TT) jl) [(0,.ptr .af (bn .af s)),(3,.int .i64 0),(7,.ptr .af (bn .af s)),(8,.ptr .af (bn .af s)),(9,.ptr .af ((bn .af s).drop 2)),(10,.row .af 9 (s.ak.map (aP .af))),(11,.int .i64 s.ak.length),(12,.int .i64 0)] = if qa s.seq s.ak = true then some (.exit 0,sl) else some (.ret,[(2,.bool false)]):=by
 have ji : bT s = cB s.bt + wL br s.ak + wL aN s.aO:=rfl
 have hlen:=bC (w:=br) s.ak
 refine ⟨_,cV (f:=aq (ev LI TT) (av TT) jl) s.ak.zipIdx (fun i=>[(0,.ptr .af (bn .af s)),(3,.int .i64 (js s.ak i)),(7,.ptr .af (bn .af s)),(8,.ptr .af (bn .af s)),(9,.ptr .af ((bn .af s).drop 2)),(10,.row .af 9 (s.ak.map (aP .af))),(11,.int .i64 s.ak.length),(12,.int .i64 i)]) (mq s.seq s.ak) [(2,.bool false)] [(0,.ptr .af (bn .af s)),(3,.int .i64 (js s.ak s.ak.length)),(7,.ptr .af (bn .af s)),(8,.ptr .af (bn .af s)),(9,.ptr .af ((bn .af s).drop 2)),(10,.row .af 9 (s.ak.map (aP .af))),(11,.int .i64 s.ak.length),(12,.int .i64 s.ak.length),(13,.bool false)] (fun i b hi hl=>?_) ?_⟩
 ·simp only [List.length_zipIdx] at hl
  have hw:=bl i (by omega)
  obtain ⟨_,rfl⟩:=List.getElem?_eq_some_iff.1 hi
  have hz : s.ak.zipIdx[i]'(by simpa using hl) = (s.ak[i],i):=by simp
  have hm:=uu (List.getElem_mem hl)
  have hp:=BV s.ak i hl
  rw [hz]
  have hs : dU [] = true:=rfl
  have u1:=C0 s.ak[i].obj (by omega)
  have u2:=Kc (s.ak.take i) s.ak[i] 262 (fun x=>decide (x.at_ = (s.ak[i]).at_)) rfl (fun x _=>I0 x s.ak[i]) (by simp; omega)
  have hle : (i : Int)≤s.ak.length:=by omega
  have nk : i≤s.ak.length:=by omega
  simp at u1 u2
  unfold mq
  by_cases g1 : gY (s.ak[i]).obj = true
  rotate_left
  ·simp -implicitDefEqProofs [jl,kP,hl,hw,hle,nk,ij,eX,dS,u1,u2,g1]
  by_cases g2 : 5≤(s.ak[i]).at_
  rotate_left
  ·simp -implicitDefEqProofs [jl,kP,hl,hw,hle,nk,ij,eX,dS,u1,u2,g1,eq_false g2]
  by_cases g3 : (s.ak[i]).at_≤19
  rotate_left
  ·simp -implicitDefEqProofs [jl,kP,hl,hw,hle,nk,ij,eX,dS,u1,u2,g1,eq_true g2,eq_false g3]
  by_cases g4 : aW (fun y : Kp=>!decide (y.at_ = (s.ak[i]).at_)) (s.ak.take i) = true
  rotate_left
  ·simp -implicitDefEqProofs [jl,kP,hl,hw,hle,nk,ij,eX,dS,u1,u2,g1,eq_true g2,eq_true g3,g4]
  by_cases g5 : js s.ak i < (s.ak[i]).seq
  rotate_left
  ·have vq : (s.ak[i]).seq≤js s.ak i:=by omega
   simp -implicitDefEqProofs [jl,kP,hl,hw,hle,nk,ij,eX,dS,u1,u2,g1,eq_true g2,eq_true g3,g4,eq_false g5,eq_true vq]
  have vq : ¬ (s.ak[i]).seq≤js s.ak i:=by omega
  by_cases g6 : (s.ak[i]).seq < s.seq
  rotate_left
  ·have zy : s.seq≤(s.ak[i]).seq:=by omega
   simp -implicitDefEqProofs [jl,kP,hl,hw,hle,nk,ij,eX,dS,u1,u2,g1,eq_true g2,eq_true g3,g4,eq_true g5,eq_false vq,eq_false g6,eq_true zy]
  have zy : ¬ s.seq≤(s.ak[i]).seq:=by omega
  simp -implicitDefEqProofs [jl,kP,hl,hw,hle,nk,ij,eX,dS,u1,u2,g1,eq_true g2,eq_true g3,g4,eq_true g5,eq_false vq,eq_true g6,eq_false zy,hp]
 ·simp -implicitDefEqProofs [jl,kP]
theorem IZ (s : Sh) (hb : bT s≤1073741824) : ev LI TT 181 [.ptr .af (bn .af s)] = some (.bool (qa s.seq s.ak),[.dead]):=by
 rw [aA (b:=vW) (rs:=[.t 2]) (n:=1) rfl rfl]
 obtain ⟨sl,u1⟩:=Ho s hb
 simp at u1
 simp -implicitDefEqProofs [vW,u1]
 all_goals (repeat' split) <;> first | rfl | omega | (simp_all; done) | (simp_all; omega) | skip
theorem He (s : Sh) (hb : bT s≤1073741824) : aK (aq (ev LI TT) (av TT) sx) [(1,.ptr .own (bn .af s)),(5,.az 1 [] 0 3),(6,.row .af 4 (s.aO.map aZ)),(7,.int .i64 s.aO.length),(8,.int .i64 0)] = if aW gM (s.aO) = true then some (.exit 0,[(1,.ptr .own (bn .af s)),(5,.az 1 [] 0 3),(6,.row .af 4 (s.aO.map aZ)),(7,.int .i64 s.aO.length),(8,.int .i64 (s.aO).length),(9,.bool false)]) else some (.ret,[(2,.bool false)]):=by
 refine cV (f:=aq (ev LI TT) (av TT) sx) (s.aO) (fun i=>[(1,.ptr .own (bn .af s)),(5,.az 1 [] 0 3),(6,.row .af 4 (s.aO.map aZ)),(7,.int .i64 s.aO.length),(8,.int .i64 i)]) gM _ _ (fun i b hi hl=>?_) ?_
 ·have hw:=bl i (by have ji : bT s = cB s.bt + wL br s.ak + wL aN s.aO:=rfl; have:=bC (w:=aN) s.aO; omega)
  obtain ⟨_,rfl⟩:=List.getElem?_eq_some_iff.1 hi
  have ji : bT s = cB s.bt + wL br s.ak + wL aN s.aO:=rfl
  have hm:=yo (List.getElem_mem hl)
  have u1:=CZ  s.aO[i] (by omega)
  try simp at u1
  simp -implicitDefEqProofs [sx,Aw,hl,hw,u1]
  all_goals (repeat' split) <;> first | rfl | omega | (simp_all; done) | (simp_all; omega) | skip
 ·simp -implicitDefEqProofs [sx,Aw]
theorem IX (s : Sh) (hb : bT s≤1073741824) : ev LI TT 92 [.agg (bn .af s)] = some (.bool ((iR s)),[.dead]):=by
 rw [aA (b:=jk) (rs:=[.t 2]) (n:=1) rfl rfl]
 have ji : bT s = cB s.bt + wL br s.ak + wL aN s.aO:=rfl
 have Pc : cB s.bt = wL wS s.bt.cells + wL bZ s.bt.pending:=rfl
 have hlen:=bC (w:=bZ) s.bt.pending
 unfold iR
 have u1:=IL  s.bt (by omega)
 try simp at u1
 have u2:=He  s hb
 try simp at u2
 have u3:=IZ  s hb
 try simp at u3
 by_cases g1 : aW gM s.aO = true
 rotate_left
 ·simp -implicitDefEqProofs [jk,u1,u2,u3,g1]
 by_cases g2 : (s.aO.length : Int)≤5
 rotate_left
 ·simp -implicitDefEqProofs [jk,u1,u2,u3,g1,eq_false g2]
 by_cases g3 : 5≤s.next
 rotate_left
 ·simp -implicitDefEqProofs [jk,u1,u2,u3,g1,eq_true g2,eq_false g3]
 by_cases g4 : s.next≤19
 rotate_left
 ·simp -implicitDefEqProofs [jk,u1,u2,u3,g1,eq_true g2,eq_true g3,eq_false g4]
 by_cases g5 : 1≤s.seq
 rotate_left
 ·simp -implicitDefEqProofs [jk,u1,u2,u3,g1,eq_true g2,eq_true g3,eq_true g4,eq_false g5]
 by_cases g6 : s.seq≤100000
 rotate_left
 ·simp -implicitDefEqProofs [jk,u1,u2,u3,g1,eq_true g2,eq_true g3,eq_true g4,eq_true g5,eq_false g6]
 by_cases g7 : nT s.bt = true
 rotate_left
 ·simp -implicitDefEqProofs [jk,u1,u2,u3,g1,eq_true g2,eq_true g3,eq_true g4,eq_true g5,eq_true g6,g7]
 simp -implicitDefEqProofs [jk,u1,u2,u3,g1,eq_true g2,eq_true g3,eq_true g4,eq_true g5,eq_true g6,g7]
 all_goals (repeat' split) <;> first | rfl | omega | (simp_all; done) | (simp_all; omega) | skip
end M
set_option maxHeartbeats 4000000
namespace M
open Go
variable [Lb]
theorem J5 (o : Ob) (hb : bH o≤1073741824) : ev LI TT 91 [.agg (bw .af o)] = some (.agg (bw .own o),[.dead]):=by
 rw [aA (b:=xS) (rs:=[.c 2 7 true 61]) (n:=1) rfl rfl]
 have hw : bH o = o.path.length + wL wS o.names + wL wS o.values + cr o.resp:=rfl
 have nw : cr o.resp = wL aL o.resp.fields + o.resp.body.length:=rfl
 have l1:=bC (w:=aL) o.resp.fields
 have l2:=bC (w:=wS) o.names
 have l3:=bC (w:=wS) o.values
 have u1:=J9  o.resp (by omega)
 try simp at u1
 simp -implicitDefEqProofs [xS,u1,Gg,rowAt,(by omega : o.names.length * 16≤140737488355328),(by omega : o.values.length * 16≤140737488355328)]
 all_goals (repeat' split) <;> first | rfl | omega | (simp_all; done) | (simp_all; omega) | skip
theorem I5 (o : Ob) (hb : bH o≤1073741824) : ev LI TT 183 [.agg (bw .af o)] = some (.agg (bw .own o),[.dead]):=by
 rw [aA (b:=wo) (rs:=[.c 2 7 true 61]) (n:=1) rfl rfl]
 have hw : bH o = o.path.length + wL wS o.names + wL wS o.values + cr o.resp:=rfl
 have nw : cr o.resp = wL aL o.resp.fields + o.resp.body.length:=rfl
 have l1:=bC (w:=aL) o.resp.fields
 have l2:=bC (w:=wS) o.names
 have l3:=bC (w:=wS) o.values
 have u1:=I6  o.resp (by omega)
 try simp at u1
 have u2:=Fu o.names (by omega)
 try simp at u2
 have u3:=Fu o.values (by omega)
 try simp at u3
 simp -implicitDefEqProofs [wo,u1,u2,u3]
 all_goals (repeat' split) <;> first | rfl | omega | (simp_all; done) | (simp_all; omega) | skip
def oR (s : Sh) (q : Rq) (k : Kp) : Bool:=decide (k.obj.path = q.path) && lA k.obj.names k.obj.values q.fields && !jg s.aO k.obj
def oQ (s : Sh) (q : Rq) : Option Ob:=(s.ak.reverse.find? (oR s q)).map fun k=>k.obj
def eP (s : Sh) (q : Rq) : Option Ob:=if iR s = true then oQ s q else none
def cO : Ob:=⟨[],[],[],⟨0,[],[]⟩,0⟩
theorem HO (s : Sh) (q : Rq) (hs : bT s≤100000000) (hq : dh q≤100000000) (hok : iR s = true) :
  aK (aq (ev LI TT) (av TT) j0) [(2,.ptr .own (bn .af s)),(3,.ptr .own (cF .af q)),(4,.ptr .own (bw .own cO)),(6,.int .i64 (s.ak.length - 1))] = (s.ak.reverse.find? (oR s q)).elim (some (.exit 0,[(2,.ptr .own (bn .af s)),(3,.ptr .own (cF .af q)),(4,.ptr .own (bw .own cO)),(6,.int .i64 (-1)),(17,.bool false)])) (fun k=>some (.ret,[(4,.ptr .own (bw .own k.obj)),(5,.bool true)])):=by
 have ji : bT s = cB s.bt + wL br s.ak + wL aN s.aO:=rfl
 have Pb : dh q = q.path.length + wL aL q.fields + q.body.length:=rfl
 have l8:=bC (w:=aL) q.fields
 have hlo:=bC (w:=br) s.ak
 refine PE (f:=aq (ev LI TT) (av TT) j0) s.ak (fun i=>[(2,.ptr .own (bn .af s)),(3,.ptr .own (cF .af q)),(4,.ptr .own (bw .own cO)),(6,.int .i64 i)]) (oR s q) (fun k=>[(4,.ptr .own (bw .own k.obj)),(5,.bool true)]) _ (fun i b hi hl=>?_) ?_
 ·have hw : IntKind.i64.wrap ((i : Int) - 1) = (i : Int) - 1:=bU (by omega) (by omega)
  obtain ⟨_,rfl⟩:=List.getElem?_eq_some_iff.1 hi
  have hm:=uu (List.getElem_mem hl)
  have ho : bH (s.ak[i]).obj = (s.ak[i]).obj.path.length + wL wS (s.ak[i]).obj.names + wL wS (s.ak[i]).obj.values + cr (s.ak[i]).obj.resp:=rfl
  have l2:=bC (w:=wS) (s.ak[i]).obj.names
  have l3:=bC (w:=wS) (s.ak[i]).obj.values
  have u1:=Df s (by omega)
  have u2:=J2 (s.ak[i]).obj.names (s.ak[i]).obj.values q.fields (by omega) (by omega) (by omega)
  have u3:=JY s.aO (s.ak[i]).obj (by omega) (by omega)
  have u4:=J5 (s.ak[i]).obj (by omega)
  rw [hok] at u1
  unfold oR
  generalize lA (s.ak[i]).obj.names (s.ak[i]).obj.values q.fields = b2 at u2
  generalize jg s.aO (s.ak[i]).obj = b3 at u3
  have dG : (0 : Int)≤i:=by omega
  try simp at u1
  try simp at u2
  try simp at u3
  try simp at u4
  by_cases g1 : (s.ak[i]).obj.path = q.path
  rotate_left
  ·simp -implicitDefEqProofs [j0,nZ,hl,hw,dG,u1,eq_false g1]
  cases b2
  ·simp -implicitDefEqProofs [j0,nZ,hl,hw,dG,u1,u2,eq_true g1]
  cases b3
  ·simp -implicitDefEqProofs [j0,nZ,hl,hw,dG,u1,u2,u3,u4,eq_true g1]
  ·simp -implicitDefEqProofs [j0,nZ,hl,hw,dG,u1,u2,u3,u4,eq_true g1]
 ·simp -implicitDefEqProofs [j0,nZ]
theorem JW (s : Sh) (q : Rq) (hs : bT s≤100000000) (hq : dh q≤100000000) : ev LI TT 31 [.agg (bn .af s),.agg (cF .af q)] = some (.au [.agg (bw .own ((eP s q).getD cO)),.bool ((eP s q).isSome)],[.dead,.dead]):=by
 rw [aA (b:=ql) (rs:=[.c 4 7 true 61,.t 5]) (n:=2) rfl rfl]
 have ji : bT s = cB s.bt + wL br s.ak + wL aN s.aO:=rfl
 have hlo:=bC (w:=br) s.ak
 have hw : IntKind.i64.wrap ((s.ak.length : Int) - 1) = (s.ak.length : Int) - 1:=bU (by omega) (by omega)
 unfold eP
 by_cases hok : iR s = true
 ·have h:=HO s q hs hq hok
  unfold oQ
  cases hf : s.ak.reverse.find? (oR s q) with
  | none=>rw [hf] at h; simp [cO] at h; simp -implicitDefEqProofs [ql,h,hw,hok,cO]
  | some k=>rw [hf] at h; simp [cO] at h; simp -implicitDefEqProofs [ql,h,hw,hok,cO]
 have u1:=Df s (by omega)
 rw [show iR s = false by simpa using hok] at u1
 try simp at u1
 have OJ : ∀ (i : Int),aK (aq (ev LI TT) (av TT) j0) [(2,.ptr .own (bn .af s)),(3,.ptr .own (cF .af q)),(4,.ptr .own (bw .own cO)),(6,.int .i64 i)] = some (.exit 0,[(2,.ptr .own (bn .af s)),(3,.ptr .own (cF .af q)),(4,.ptr .own (bw .own cO)),(6,.int .i64 i),(17,.bool false)]):=by
  intro i
  rw [gG]
  by_cases hi : 0≤i <;> simp -implicitDefEqProofs [j0,nZ,u1,hi]
 have h:=OJ (s.ak.length - 1)
 simp [cO] at h
 simp -implicitDefEqProofs [ql,h,hw,hok,cO]
 all_goals (repeat' split) <;> first | rfl | omega | (simp_all; done) | (simp_all; omega) | skip
end M
set_option maxHeartbeats 4000000
namespace M
open Go
variable [Lb]
class Fd extends Lb where
 f : ∀ (s : Sh) (q : Rq),bT s≤1073741824→dh q≤1073741824→L 93 [.ptr .af (bn .af s),.agg (cF .af q)] = some (oS lA jg s q,[.dead,.dead])
theorem Lp {s : Sh} {q : Rq} {o : Ob} (h : eP s q = some o) : iR s = true∧∃ k∈s.ak,k.obj = o∧oR s q k = true:=by
 unfold eP at h
 split at h
 ·rename_i hok
  unfold oQ at h
  obtain ⟨k,hk,rfl⟩:=Option.map_eq_some_iff.1 h
  exact ⟨hok,k,by have:=List.mem_of_find?_eq_some hk; simpa using this,rfl,List.find?_some hk⟩
 ·cases h
theorem RC {s : Sh} (h : iR s = true) {k : Kp} (hk : k∈s.ak) : gY k.obj = true:=by
 unfold iR at h
 simp only [Bool.and_eq_true] at h
 have:=h.2
 unfold qa at this
 obtain ⟨i,hi,rfl⟩:=List.getElem_of_mem hk
 have h2:=yz.1 this (s.ak[i],i) (List.mem_of_getElem? (i:=i) (by simp [hi]))
 unfold mq at h2
 simp only [Bool.and_eq_true] at h2
 exact h2.1.1.1.1
theorem Lq {s : Sh} {q : Rq} : bI ((eP s q).getD cO).t∧bH ((eP s q).getD cO)≤bT s:=by
 cases h : eP s q with
 | none=>exact ⟨by unfold bI; simp [cO],by simp [cO,bH,cr,wL]⟩
 | some o =>
  obtain ⟨h1,k,h2,rfl,_⟩:=Lp h
  have h3:=RC h1 h2
  have h4:=uu h2
  unfold gY at h3
  simp only [Bool.and_eq_true,decide_eq_true_eq] at h3
  have h5 : bT s = cB s.bt + wL br s.ak + wL aN s.aO:=rfl
  refine ⟨?_,?_⟩
  ·unfold bI
   simp only [Option.getD_some]
   have:=h3.1.1.1.1.2
   omega
  ·simp only [Option.getD_some]
   omega
end M
set_option maxHeartbeats 4000000
namespace M
open Go
variable [Fd]
theorem IY (s : Sh) (q : Rq) (hs : bT s≤1073741824) (hq : dh q≤1073741824) : ev LI TT 93 [.ptr .af (bn .af s),.agg (cF .af q)] = some (.au [.agg (bw .own ((oQ s q).getD cO)),.bool (oQ s q).isSome],[.dead,.dead]):=by
 rw [oL rfl]
 exact Fd.f s q hs hq
theorem IP (s : Sh) (q : Rq) (hs : bT s≤100000000) (hq : dh q≤100000000) : ev LI TT 32 [.agg (bn .af s),.agg (cF .af q)] = some (.au [.agg (bw .own ((eP s q).getD cO)),.bool ((eP s q).isSome)],[.dead,.dead]):=by
 rw [aA (b:=sj) (rs:=[.c 4 7 true 61,.t 5]) (n:=2) rfl rfl]
 have u1:=IX  s (by omega)
 try simp at u1
 have u2:=IY  s q (by omega) (by omega)
 try simp at u2
 unfold eP
 cases hok : iR s
 ·rw [hok] at u1
  try simp at u1
  simp -implicitDefEqProofs [sj,u1,cO]
 rw [hok] at u1
 try simp at u1
 cases hf : oQ s q <;> rw [hf] at u2 <;> simp [cO] at u2
 all_goals
 simp -implicitDefEqProofs [sj,u1,u2,cO]
 all_goals (repeat' split) <;> first | rfl | omega | (simp_all; done) | (simp_all; omega) | skip
end M
set_option maxHeartbeats 4000000
namespace M
open Go
variable [Fd]
theorem W8 (a0 : Sh) (k0 : qP a0) (a1 : Rq) (k1 : lJ a1) : ∃ ps,ev LI TT 6 [.agg (bn .sl a0),.agg (cF .sl a1)] = some (.bool true,ps):=by
 rw [aA (b:=pG) (rs:=[.t 4]) (n:=2) rfl rfl]
 have s0:=JF a0 1048576 k0 (by omega) (by omega)
 have w0:=cl 1048576 (bT a0)
 obtain ⟨m0,e0⟩ : ∃ m,m = aF 1048576 (bT a0):=⟨_,rfl⟩
 rw [← e0] at s0 w0
 try simp at s0
 by_cases z0 : m0 < 0
 ·simp -implicitDefEqProofs [pG,s0,z0]
 have s1:=JD a1 m0 k1 (by omega) (by omega)
 have w1:=cl m0 (dh a1)
 obtain ⟨m1,e1⟩ : ∃ m,m = aF m0 (dh a1):=⟨_,rfl⟩
 rw [← e1] at s1 w1
 try simp at s1
 by_cases z1 : m1 < 0
 ·simp -implicitDefEqProofs [pG,s0,z0,s1,z1]
 have t0:=JR a0 (by omega)
 try simp at t0
 have q0:=Jh a0 a0 (by omega)
 try simp at q0
 have t1:=JP a1 (by omega)
 try simp at t1
 have q1:=Jf a1 a1 (by omega)
 try simp at q1
 have hS:=JW a0 a1 (by omega) (by omega)
 have hI:=IP a0 a1 (by omega) (by omega)
 try simp at hS
 try simp at hI
 have b0 : bH ((eP a0 a1).getD cO)≤1073741824:=(by have:=(Lq (s:=a0) (q:=a1)).2; omega)
 have r0:=C8 ((eP a0 a1).getD cO) ((eP a0 a1).getD cO) (by omega)
 try simp at r0
 have Vg:=R5 a0
 have BF:=Jt a0 1 (by omega) (by omega)
 obtain ⟨K1,hK1⟩ : ∃ x : Int,1 + ((ke a0 : Nat) : Int) = x:=⟨_,rfl⟩
 rw [hK1] at BF
 try simp at BF
 have Vh:=R3 a1
 have BG:=Jr a1 K1 (by omega) (by omega)
 obtain ⟨K2,N4⟩ : ∃ x : Int,K1 + ((j9 a1 : Nat) : Int) = x:=⟨_,rfl⟩
 rw [N4] at BG
 try simp at BG
 have hKn : ¬ K2 < 0:=by omega
 have VP:=R2 ((eP a0 a1).getD cO)
 have BI:=Jq ((eP a0 a1).getD cO) 1 (by omega) (by omega)
 have Aj:=Jl ((eP a0 a1).getD cO) 1 (by omega) (by omega)
 obtain ⟨R1,N5⟩ : ∃ x : Int,1 + ((jy ((eP a0 a1).getD cO) : Nat) : Int) = x:=⟨_,rfl⟩
 rw [N5] at BI Aj
 try simp at BI
 try simp at Aj
 have N6 : ¬ R1 < 0:=by omega
 simp -implicitDefEqProofs [pG,AR,AU,AW,AX,AY,AZ,A0,A5,A6,A7,s0,z0,s1,z1,t0,q0,t1,q1,hS,hI,r0,BF,BG,hKn,BI,Aj,N6,mF,fe,jH,gZ]
end M
