/- What the functions come to in the machine; no conditions. -/
import Derived.Test.YtkpkgfollnfhcaaGreatDoorTab
import Derived.Test.YtkpkgfollnfhcaaGreatDoorMc
set_option linter.unusedSectionVars false
set_option linter.unusedVariables false
set_option linter.unusedSimpArgs false
namespace M
open Go
theorem I5 (l : List ah) (hlen : l.length≤9223372036854775807) (hb : bL bS l) (n : Int) (hn : 0≤n) (hm : n≤9223372036854775807) : aF (ai (ev LI TT) (aj TT) qq) [(0,.row .af 1 (l.map (eS))),(1,.int .i64 n),(5,.int .i64 0)] = if cY (fun b n=>ay n (wS b)) (l) n < 0 then some (.ret,[(4,.int .i64 (-1))]) else some (.exit 0,[(0,.row .af 1 (l.map (eS))),(1,.int .i64 (cY (fun b n=>ay n (wS b)) (l) n)),(5,.int .i64 (l).length),(15,.bool false)]):=by
 refine mI (f:=ai (ev LI TT) (aj TT) qq) (l) (fun i n=>[(0,.row .af 1 (l.map (eS))),(1,.int .i64 n),(5,.int .i64 i)]) (fun b n=>ay n (wS b)) _ (fun n=>[(0,.row .af 1 (l.map (eS))),(1,.int .i64 n),(5,.int .i64 (l).length),(15,.bool false)]) n hn hm (fun b n=>mU _ n) (fun i b n hi hl hn hm=>?_) (fun n=>?_)
 ·have hw:=aL i (by first | omega | (simp at hl; omega))
  obtain ⟨_,rfl⟩:=List.getElem?_eq_some_iff.1 hi
  have h1 : (l[i]).length≤9223372036854775807:=hb.2 _ (List.getElem_mem hl)
  have h3:=aU n (wS l[i])
  have h4 : wS l[i] = (l[i]).length:=rfl
  obtain ⟨m,e1⟩ : ∃ m,m = n - ((l[i]).length : Int):=⟨_,rfl⟩
  have h2 : IntKind.i64.wrap (n - ((l[i]).length : Int)) = m:=by rw [e1]; exact bV (by omega) (by omega)
  by_cases h5 : m < 0
  ·have ef : ay n (wS l[i]) = -1:=by omega
   simp -implicitDefEqProofs [qq,xS,hl,hw,h2,h5,ef]
  have ef : ay n (wS l[i]) = m:=by omega
  simp -implicitDefEqProofs [qq,xS,hl,hw,h2,h5,ef]
 ·simp -implicitDefEqProofs [qq,xS]
theorem Ai (l : List ah) (n : Int) (hb : bL bS l) (hn : 0≤n) (hm : n≤9223372036854775807) : ev LI TT 105 [.row .af 1 (l.map (eS)),.int .i64 n] = some (.int .i64 (ay n (wL wS l)),[.dead,.dead]):=by
 rw [av (b:=qt) (rs:=[.t 4]) (n:=2) rfl rfl]
 have hl:=hb.1
 have hw : wL wS l = l.length + (l.map wS).sum:=rfl
 have ht:=aU n (wL wS l)
 obtain ⟨m,e1⟩ : ∃ m,m = n - (l.length : Int):=⟨_,rfl⟩
 have h2 : IntKind.i64.wrap (n - (l.length : Int)) = m:=by rw [e1]; exact bV (by omega) (by omega)
 by_cases h : m < 0
 ·have ef : ay n (wL wS l) = -1:=by omega
  simp -implicitDefEqProofs [qt,h2,h,ef]
 have h3:=I5  l hb.1 hb m (by omega) (by omega)
 rw [ld _ _ _ (by omega)] at h3
 have hs:=aU m (l.map wS).sum
 obtain ⟨q,e2⟩ : ∃ q,q = ay m (l.map wS).sum:=⟨_,rfl⟩
 rw [← e2] at h3 hs
 try simp at h3
 by_cases h4 : q < 0
 ·have ef : ay n (wL wS l) = -1:=by omega
  simp only [h4,if_true] at h3
  simp -implicitDefEqProofs [qt,h2,h,h3,ef]
 have ef : ay n (wL wS l) = q:=by omega
 simp only [h4,if_false] at h3
 simp -implicitDefEqProofs [qt,h2,h,h3,ef]
 all_goals (repeat' split) <;> first | rfl | omega | (simp_all; done) | (simp_all; omega) | skip
theorem Je (l : List ah) (hlen : l.length≤1048576) (hb : wL wS l≤1048576) : aF (ai (ev LI TT) (aj TT) tX) [(0,.row .af 1 (l.map eS)),(3,.row .own 1 (cL (l.map eS) 0 [.str ⟨#[]⟩])),(4,.int .i64 0),(6,.int .i64 l.length)] = some (.exit 0,[(0,.row .af 1 (l.map eS)),(3,.row .own 1 (l.map eS)),(4,.int .i64 (l).length),(6,.int .i64 l.length),(11,.bool false)]):=by
 refine jc (f:=ai (ev LI TT) (aj TT) tX) (l) (fun i=>[(0,.row .af 1 (l.map eS)),(3,.row .own 1 (cL (l.map eS) i [.str ⟨#[]⟩])),(4,.int .i64 i),(6,.int .i64 l.length)]) _ (fun i b hi hl=>?_) ?_
 ·have hw:=aL i (by first | omega | (simp at hl; omega))
  obtain ⟨_,rfl⟩:=List.getElem?_eq_some_iff.1 hi
  skip
  simp -implicitDefEqProofs [tX,Cv,hl,hw]
  first | done | (rw [eP _ _ _ _ (by simpa using hl) (by simp)]; done) | (simp only [kV]; rw [eP _ _ _ _ (by simpa using hl) (by simp)])
 ·simp -implicitDefEqProofs [tX,Cv]
theorem Am (l : List ah) (hb : wL wS l≤1048576) : ev LI TT 111 [.row .af 1 (l.map eS)] = some (.row .own 1 (l.map eS),[.dead]):=by
 rw [av (b:=yl) (rs:=[.t 2]) (n:=1) rfl rfl]
 have hlen:=aK (w:=wS) l
 have h:=Je  l (by omega) hb
 try simp at h
 simp -implicitDefEqProofs [yl,h,(by omega : (l.length : Int) * 16≤140737488355328)]
 all_goals (repeat' split) <;> first | rfl | omega | (simp_all; done) | (simp_all; omega) | skip
theorem IX (ps : List (ah×ah)) (hb : ps.length≤9223372036854775807) (cS : ∀ x∈ps,wS x.1≤1073741824) : aF (ai (ev LI TT) (aj TT) tE) [(0,.row .af 1 (ps.map (fun x : ah×ah=>eS x.1))),(1,.row .af 1 (ps.map (fun x : ah×ah=>eS x.2))),(5,.int .i64 0)] = if aI bM (ps) = true then some (.exit 0,[(0,.row .af 1 (ps.map (fun x : ah×ah=>eS x.1))),(1,.row .af 1 (ps.map (fun x : ah×ah=>eS x.2))),(5,.int .i64 ps.length),(14,.bool false)]) else some (.ret,[(4,.bool false)]):=by
 refine cq (f:=ai (ev LI TT) (aj TT) tE) (ps) (fun i=>[(0,.row .af 1 (ps.map (fun x : ah×ah=>eS x.1))),(1,.row .af 1 (ps.map (fun x : ah×ah=>eS x.2))),(5,.int .i64 i)]) bM _ _ (fun i b hi hl=>?_) ?_
 ·have hw:=aL i (by first | omega | (simp at hl; omega))
  obtain ⟨_,rfl⟩:=List.getElem?_eq_some_iff.1 hi
  simp -implicitDefEqProofs [tE,Ce,hl,hw,bM]
  first | done | (split <;> simp_all)
 ·simp -implicitDefEqProofs [tE,Ce]
theorem Ae (a b : List ah) (hb : wL wS a≤1073741824) : ev LI TT 77 [.row .af 1 (a.map eS),.row .af 1 (b.map eS)] = some (.bool (decide (a = b)),[.dead,.dead]):=by
 rw [av (b:=xQ) (rs:=[.t 4]) (n:=2) rfl rfl]
 simp -implicitDefEqProofs [xQ]
 have hlen:=aK (w:=wS) a
 by_cases h : a.length = b.length
 ·obtain ⟨ps,rfl,rfl⟩:=iJ h
  have h1:=IX  ps (by simp at hlen; omega) (fun x hx=>Nat.le_trans (dz (List.mem_map_of_mem hx)) hb)
  have h2:=hU ps
  simp at h1
  rw [← h2]
  cases h3 : aI bM ps <;> rw [h3] at h1 <;> simp [h1,Function.comp_def]
 ·have : ¬ a = b:=fun e=>h (by rw [e])
  simp [this]
  omega
theorem K4 (a : Wr) (n : Int) (hb : oV a) (hn : 0≤n) (hm : n≤9223372036854775807) : ev LI TT 211 [.agg (eW a),.int .i64 n] = some (.int .i64 (ay n (ck a)),[.dead,.dead]):=by
 rw [av (b:=tP) (rs:=[.t 4]) (n:=2) rfl rfl]
 have hw : ck a = a.text.length:=rfl
 have ht:=aU n (ck a)
 have nH : a.text.length≤9223372036854775807:=hb.Ro
 obtain ⟨m1,e1⟩ : ∃ m,m = n - (a.text.length : Int):=⟨_,rfl⟩
 have c1 : IntKind.i64.wrap (n - (a.text.length : Int)) = m1:=by rw [e1]; exact bV (by omega) (by omega)
 by_cases h1 : m1 < 0
 ·have ef : ay n (ck a) = -1:=by omega
  simp -implicitDefEqProofs [tP,c1,h1,ef]
 have ef : ay n (ck a) = m1:=by omega
 simp -implicitDefEqProofs [tP,c1,h1,ef]
 all_goals (repeat' split) <;> first | rfl | omega | (simp_all; done) | (simp_all; omega) | skip
theorem Lm (a : Wr) (hb : ck a≤1048576) : ev LI TT 218 [.agg (eW a)] = some (.agg (eW a),[.dead]):=by
 rw [av (b:=yo) (rs:=[.c 2 2 true 246]) (n:=1) rfl rfl]
 have hw : ck a = a.text.length:=rfl
 simp -implicitDefEqProofs [yo,hw]
 all_goals (repeat' split) <;> first | rfl | omega | (simp_all; done) | (simp_all; omega) | skip
theorem KN (a b : Wr) (hb : ck a≤1073741824) : ev LI TT 227 [.agg (eW a),.agg (eW b)] = some (.bool (decide (a = b)),[.dead,.dead]):=by
 rw [av (b:=qc) (rs:=[.t 4]) (n:=2) rfl rfl]
 have hw : ck a = a.text.length:=rfl
 rw [Mz]
 by_cases g1 : a.at_ = b.at_
 rotate_left
 ·simp -implicitDefEqProofs [qc,eq_false g1]
 by_cases g2 : a.text = b.text
 rotate_left
 ·simp -implicitDefEqProofs [qc,eq_true g1,eq_false g2]
 simp -implicitDefEqProofs [qc,eq_true g1,eq_true g2]
 all_goals (repeat' split) <;> first | rfl | omega | (simp_all; done) | (simp_all; omega) | skip
theorem I6 (l : List Wr) (hlen : l.length≤9223372036854775807) (hb : bL oV l) (n : Int) (hn : 0≤n) (hm : n≤9223372036854775807) : aF (ai (ev LI TT) (aj TT) tO) [(0,.row .af 2 (l.map (eW))),(1,.int .i64 n),(5,.int .i64 0)] = if cY (fun b n=>ay n (ck b)) (l) n < 0 then some (.ret,[(4,.int .i64 (-1))]) else some (.exit 0,[(0,.row .af 2 (l.map (eW))),(1,.int .i64 (cY (fun b n=>ay n (ck b)) (l) n)),(5,.int .i64 (l).length),(15,.bool false)]):=by
 refine mI (f:=ai (ev LI TT) (aj TT) tO) (l) (fun i n=>[(0,.row .af 2 (l.map (eW))),(1,.int .i64 n),(5,.int .i64 i)]) (fun b n=>ay n (ck b)) _ (fun n=>[(0,.row .af 2 (l.map (eW))),(1,.int .i64 n),(5,.int .i64 (l).length),(15,.bool false)]) n hn hm (fun b n=>mU _ n) (fun i b n hi hl hn hm=>?_) (fun n=>?_)
 ·have hw:=aL i (by first | omega | (simp at hl; omega))
  obtain ⟨_,rfl⟩:=List.getElem?_eq_some_iff.1 hi
  have h2:=K4  l[i] n (hb.2 _ (List.getElem_mem hl)) hn hm
  obtain ⟨m,e1⟩ : ∃ m,m = ay n (ck l[i]):=⟨_,rfl⟩
  rw [← e1] at h2 ⊢
  try simp at h2
  simp -implicitDefEqProofs [tO,Cm,hl,hw,h2]
 ·simp -implicitDefEqProofs [tO,Cm]
theorem K5 (l : List Wr) (n : Int) (hb : bL oV l) (hn : 0≤n) (hm : n≤9223372036854775807) : ev LI TT 118 [.row .af 2 (l.map (eW)),.int .i64 n] = some (.int .i64 (ay n (wL ck l)),[.dead,.dead]):=by
 rw [av (b:=qu) (rs:=[.t 4]) (n:=2) rfl rfl]
 have hl:=hb.1
 have hw : wL ck l = l.length + (l.map ck).sum:=rfl
 have ht:=aU n (wL ck l)
 obtain ⟨m,e1⟩ : ∃ m,m = n - (l.length : Int):=⟨_,rfl⟩
 have h2 : IntKind.i64.wrap (n - (l.length : Int)) = m:=by rw [e1]; exact bV (by omega) (by omega)
 by_cases h : m < 0
 ·have ef : ay n (wL ck l) = -1:=by omega
  simp -implicitDefEqProofs [qu,h2,h,ef]
 have h3:=I6  l hb.1 hb m (by omega) (by omega)
 rw [ld _ _ _ (by omega)] at h3
 have hs:=aU m (l.map ck).sum
 obtain ⟨q,e2⟩ : ∃ q,q = ay m (l.map ck).sum:=⟨_,rfl⟩
 rw [← e2] at h3 hs
 try simp at h3
 by_cases h4 : q < 0
 ·have ef : ay n (wL ck l) = -1:=by omega
  simp only [h4,if_true] at h3
  simp -implicitDefEqProofs [qu,h2,h,h3,ef]
 have ef : ay n (wL ck l) = q:=by omega
 simp only [h4,if_false] at h3
 simp -implicitDefEqProofs [qu,h2,h,h3,ef]
 all_goals (repeat' split) <;> first | rfl | omega | (simp_all; done) | (simp_all; omega) | skip
theorem Jf (l : List Wr) (hlen : l.length≤1048576) (hb : wL ck l≤1048576) : aF (ai (ev LI TT) (aj TT) tY) [(0,.row .af 2 (l.map eW)),(3,.row .own 2 (cL (l.map eW) 0 [.int .i64 0,.str ⟨#[]⟩])),(4,.int .i64 0),(6,.int .i64 l.length)] = some (.exit 0,[(0,.row .af 2 (l.map eW)),(3,.row .own 2 (l.map eW)),(4,.int .i64 (l).length),(6,.int .i64 l.length),(11,.bool false)]):=by
 refine jc (f:=ai (ev LI TT) (aj TT) tY) (l) (fun i=>[(0,.row .af 2 (l.map eW)),(3,.row .own 2 (cL (l.map eW) i [.int .i64 0,.str ⟨#[]⟩])),(4,.int .i64 i),(6,.int .i64 l.length)]) _ (fun i b hi hl=>?_) ?_
 ·have hw:=aL i (by first | omega | (simp at hl; omega))
  obtain ⟨_,rfl⟩:=List.getElem?_eq_some_iff.1 hi
  have h:=Lm  l[i] (Nat.le_trans (dz (List.getElem_mem hl)) hb)
  try simp at h
  simp -implicitDefEqProofs [tY,Cw,hl,hw,h]
  first | done | (rw [eP _ _ _ _ (by simpa using hl) (by simp)]; done) | (simp only [kV]; rw [eP _ _ _ _ (by simpa using hl) (by simp)])
 ·simp -implicitDefEqProofs [tY,Cw]
theorem Ln (l : List Wr) (hb : wL ck l≤1048576) : ev LI TT 127 [.row .af 2 (l.map eW)] = some (.row .own 2 (l.map eW),[.dead]):=by
 rw [av (b:=ym) (rs:=[.t 2]) (n:=1) rfl rfl]
 have hlen:=aK (w:=ck) l
 have h:=Jf  l (by omega) hb
 try simp at h
 simp -implicitDefEqProofs [ym,h,(by omega : (l.length : Int) * 24≤140737488355328)]
 all_goals (repeat' split) <;> first | rfl | omega | (simp_all; done) | (simp_all; omega) | skip
theorem IY (ps : List (Wr×Wr)) (hb : ps.length≤9223372036854775807) (cS : ∀ x∈ps,ck x.1≤1073741824) : aF (ai (ev LI TT) (aj TT) tF) [(0,.row .af 2 (ps.map (fun x : Wr×Wr=>eW x.1))),(1,.row .af 2 (ps.map (fun x : Wr×Wr=>eW x.2))),(5,.int .i64 0)] = if aI bM (ps) = true then some (.exit 0,[(0,.row .af 2 (ps.map (fun x : Wr×Wr=>eW x.1))),(1,.row .af 2 (ps.map (fun x : Wr×Wr=>eW x.2))),(5,.int .i64 ps.length),(14,.bool false)]) else some (.ret,[(4,.bool false)]):=by
 refine cq (f:=ai (ev LI TT) (aj TT) tF) (ps) (fun i=>[(0,.row .af 2 (ps.map (fun x : Wr×Wr=>eW x.1))),(1,.row .af 2 (ps.map (fun x : Wr×Wr=>eW x.2))),(5,.int .i64 i)]) bM _ _ (fun i b hi hl=>?_) ?_
 ·have hw:=aL i (by first | omega | (simp at hl; omega))
  obtain ⟨_,rfl⟩:=List.getElem?_eq_some_iff.1 hi
  have h:=KN  (ps[i]).1 (ps[i]).2 (cS _ (List.getElem_mem hl)); try simp at h
  simp -implicitDefEqProofs [tF,Cf,hl,hw,bM,h]
 ·simp -implicitDefEqProofs [tF,Cf]
theorem KO (a b : List Wr) (hb : wL ck a≤1073741824) : ev LI TT 132 [.row .af 2 (a.map eW),.row .af 2 (b.map eW)] = some (.bool (decide (a = b)),[.dead,.dead]):=by
 rw [av (b:=xR) (rs:=[.t 4]) (n:=2) rfl rfl]
 simp -implicitDefEqProofs [xR]
 have hlen:=aK (w:=ck) a
 by_cases h : a.length = b.length
 ·obtain ⟨ps,rfl,rfl⟩:=iJ h
  have h1:=IY  ps (by simp at hlen; omega) (fun x hx=>Nat.le_trans (dz (List.mem_map_of_mem hx)) hb)
  have h2:=hU ps
  simp at h1
  rw [← h2]
  cases h3 : aI bM ps <;> rw [h3] at h1 <;> simp [h1,Function.comp_def]
 ·have : ¬ a = b:=fun e=>h (by rw [e])
  simp [this]
  omega
theorem KS (a : eK) (n : Int) (hb : zQ a) (hn : 0≤n) (hm : n≤9223372036854775807) : ev LI TT 44 [.agg ((gm .af) a),.int .i64 n] = some (.int .i64 (ay n (cZ a)),[.dead,.dead]):=by
 rw [av (b:=qh) (rs:=[.t 4]) (n:=2) rfl rfl]
 have hw : cZ a = wL wS a.cells + wL ck a.pending:=rfl
 have ht:=aU n (cZ a)
 have c1:=Ai  a.cells n hb.Rc (by omega) (by omega)
 have s1:=aU n (wL wS a.cells)
 obtain ⟨m1,e1⟩ : ∃ m,m = ay n (wL wS a.cells):=⟨_,rfl⟩
 rw [← e1] at c1 s1
 try simp at c1
 by_cases h1 : m1 < 0
 ·have ef : ay n (cZ a) = -1:=by omega
  simp -implicitDefEqProofs [qh,c1,h1,ef]
 have c2:=K5  a.pending m1 hb.Rk (by omega) (by omega)
 have s2:=aU m1 (wL ck a.pending)
 obtain ⟨m2,e2⟩ : ∃ m,m = ay m1 (wL ck a.pending):=⟨_,rfl⟩
 rw [← e2] at c2 s2
 try simp at c2
 by_cases h2 : m2 < 0
 ·have ef : ay n (cZ a) = -1:=by omega
  simp -implicitDefEqProofs [qh,c1,h1,c2,h2,ef]
 have ef : ay n (cZ a) = m2:=by omega
 simp -implicitDefEqProofs [qh,c1,h1,c2,h2,ef]
 all_goals (repeat' split) <;> first | rfl | omega | (simp_all; done) | (simp_all; omega) | skip
theorem K9 (a : eK) (hb : cZ a≤1048576) : ev LI TT 46 [.agg ((gm .af) a)] = some (.agg ((gm .own) a),[.dead]):=by
 rw [av (b:=xW) (rs:=[.c 2 2 true 39]) (n:=1) rfl rfl]
 have hw : cZ a = wL wS a.cells + wL ck a.pending:=rfl
 have h1:=Am  a.cells (by omega)
 try simp at h1
 have h2:=Ln  a.pending (by omega)
 try simp at h2
 simp -implicitDefEqProofs [xW,h1,h2,hw]
 all_goals (repeat' split) <;> first | rfl | omega | (simp_all; done) | (simp_all; omega) | skip
theorem KB (a b : eK) (hb : cZ a≤1073741824) : ev LI TT 48 [.agg ((gm .af) a),.agg ((gm .af) b)] = some (.bool (decide (a = b)),[.dead,.dead]):=by
 rw [av (b:=qa) (rs:=[.t 4]) (n:=2) rfl rfl]
 have hw : cZ a = wL wS a.cells + wL ck a.pending:=rfl
 rw [Mp]
 have c1:=Ae  a.cells b.cells (by omega)
 cases g1 : decide (a.cells = b.cells)
 ·rw [g1] at c1
  try simp at c1
  simp -implicitDefEqProofs [qa,c1]
 rw [g1] at c1
 try simp at c1
 have c2:=KO  a.pending b.pending (by omega)
 cases g2 : decide (a.pending = b.pending)
 ·rw [g2] at c2
  try simp at c2
  simp -implicitDefEqProofs [qa,c1,c2]
 rw [g2] at c2
 try simp at c2
 simp -implicitDefEqProofs [qa,c1,c2]
 all_goals (repeat' split) <;> first | rfl | omega | (simp_all; done) | (simp_all; omega) | skip
theorem KT (a : aD) (n : Int) (hb : lH a) (hn : 0≤n) (hm : n≤9223372036854775807) : ev LI TT 159 [.agg (aA a),.int .i64 n] = some (.int .i64 (ay n (aC a)),[.dead,.dead]):=by
 rw [av (b:=qj) (rs:=[.t 4]) (n:=2) rfl rfl]
 have hw : aC a = a.name.length + a.value.length:=rfl
 have ht:=aU n (aC a)
 have nH : a.name.length≤9223372036854775807:=hb.Rg
 obtain ⟨m1,e1⟩ : ∃ m,m = n - (a.name.length : Int):=⟨_,rfl⟩
 have c1 : IntKind.i64.wrap (n - (a.name.length : Int)) = m1:=by rw [e1]; exact bV (by omega) (by omega)
 by_cases h1 : m1 < 0
 ·have ef : ay n (aC a) = -1:=by omega
  simp -implicitDefEqProofs [qj,c1,h1,ef]
 have sB : a.value.length≤9223372036854775807:=hb.Rr
 obtain ⟨m2,e2⟩ : ∃ m,m = m1 - (a.value.length : Int):=⟨_,rfl⟩
 have c2 : IntKind.i64.wrap (m1 - (a.value.length : Int)) = m2:=by rw [e2]; exact bV (by omega) (by omega)
 by_cases h2 : m2 < 0
 ·have ef : ay n (aC a) = -1:=by omega
  simp -implicitDefEqProofs [qj,c1,h1,c2,h2,ef]
 have ef : ay n (aC a) = m2:=by omega
 simp -implicitDefEqProofs [qj,c1,h1,c2,h2,ef]
 all_goals (repeat' split) <;> first | rfl | omega | (simp_all; done) | (simp_all; omega) | skip
theorem La (a : aD) (hb : aC a≤1048576) : ev LI TT 167 [.agg (aA a)] = some (.agg (aA a),[.dead]):=by
 rw [av (b:=xY) (rs:=[.c 2 2 true 214]) (n:=1) rfl rfl]
 have hw : aC a = a.name.length + a.value.length:=rfl
 simp -implicitDefEqProofs [xY,hw]
 all_goals (repeat' split) <;> first | rfl | omega | (simp_all; done) | (simp_all; omega) | skip
theorem KC (a b : aD) (hb : aC a≤1073741824) : ev LI TT 171 [.agg (aA a),.agg (aA b)] = some (.bool (decide (a = b)),[.dead,.dead]):=by
 rw [av (b:=qb) (rs:=[.t 4]) (n:=2) rfl rfl]
 have hw : aC a = a.name.length + a.value.length:=rfl
 rw [Mr]
 by_cases g1 : a.name = b.name
 rotate_left
 ·simp -implicitDefEqProofs [qb,eq_false g1]
 by_cases g2 : a.value = b.value
 rotate_left
 ·simp -implicitDefEqProofs [qb,eq_true g1,eq_false g2]
 simp -implicitDefEqProofs [qb,eq_true g1,eq_true g2]
 all_goals (repeat' split) <;> first | rfl | omega | (simp_all; done) | (simp_all; omega) | skip
theorem I0 (l : List aD) (hlen : l.length≤9223372036854775807) (hb : bL lH l) (n : Int) (hn : 0≤n) (hm : n≤9223372036854775807) : aF (ai (ev LI TT) (aj TT) tH) [(0,.row .af 2 (l.map (aA))),(1,.int .i64 n),(5,.int .i64 0)] = if cY (fun b n=>ay n (aC b)) (l) n < 0 then some (.ret,[(4,.int .i64 (-1))]) else some (.exit 0,[(0,.row .af 2 (l.map (aA))),(1,.int .i64 (cY (fun b n=>ay n (aC b)) (l) n)),(5,.int .i64 (l).length),(15,.bool false)]):=by
 refine mI (f:=ai (ev LI TT) (aj TT) tH) (l) (fun i n=>[(0,.row .af 2 (l.map (aA))),(1,.int .i64 n),(5,.int .i64 i)]) (fun b n=>ay n (aC b)) _ (fun n=>[(0,.row .af 2 (l.map (aA))),(1,.int .i64 n),(5,.int .i64 (l).length),(15,.bool false)]) n hn hm (fun b n=>mU _ n) (fun i b n hi hl hn hm=>?_) (fun n=>?_)
 ·have hw:=aL i (by first | omega | (simp at hl; omega))
  obtain ⟨_,rfl⟩:=List.getElem?_eq_some_iff.1 hi
  have h2:=KT  l[i] n (hb.2 _ (List.getElem_mem hl)) hn hm
  obtain ⟨m,e1⟩ : ∃ m,m = ay n (aC l[i]):=⟨_,rfl⟩
  rw [← e1] at h2 ⊢
  try simp at h2
  simp -implicitDefEqProofs [tH,Ch,hl,hw,h2]
 ·simp -implicitDefEqProofs [tH,Ch]
theorem En (l : List aD) (n : Int) (hb : bL lH l) (hn : 0≤n) (hm : n≤9223372036854775807) : ev LI TT 69 [.row .af 2 (l.map (aA)),.int .i64 n] = some (.int .i64 (ay n (wL aC l)),[.dead,.dead]):=by
 rw [av (b:=qi) (rs:=[.t 4]) (n:=2) rfl rfl]
 have hl:=hb.1
 have hw : wL aC l = l.length + (l.map aC).sum:=rfl
 have ht:=aU n (wL aC l)
 obtain ⟨m,e1⟩ : ∃ m,m = n - (l.length : Int):=⟨_,rfl⟩
 have h2 : IntKind.i64.wrap (n - (l.length : Int)) = m:=by rw [e1]; exact bV (by omega) (by omega)
 by_cases h : m < 0
 ·have ef : ay n (wL aC l) = -1:=by omega
  simp -implicitDefEqProofs [qi,h2,h,ef]
 have h3:=I0  l hb.1 hb m (by omega) (by omega)
 rw [ld _ _ _ (by omega)] at h3
 have hs:=aU m (l.map aC).sum
 obtain ⟨q,e2⟩ : ∃ q,q = ay m (l.map aC).sum:=⟨_,rfl⟩
 rw [← e2] at h3 hs
 try simp at h3
 by_cases h4 : q < 0
 ·have ef : ay n (wL aC l) = -1:=by omega
  simp only [h4,if_true] at h3
  simp -implicitDefEqProofs [qi,h2,h,h3,ef]
 have ef : ay n (wL aC l) = q:=by omega
 simp only [h4,if_false] at h3
 simp -implicitDefEqProofs [qi,h2,h,h3,ef]
 all_goals (repeat' split) <;> first | rfl | omega | (simp_all; done) | (simp_all; omega) | skip
theorem I8 (l : List aD) (hlen : l.length≤1048576) (hb : wL aC l≤1048576) : aF (ai (ev LI TT) (aj TT) tR) [(0,.row .af 2 (l.map aA)),(3,.row .own 2 (cL (l.map aA) 0 [.str ⟨#[]⟩,.str ⟨#[]⟩])),(4,.int .i64 0),(6,.int .i64 l.length)] = some (.exit 0,[(0,.row .af 2 (l.map aA)),(3,.row .own 2 (l.map aA)),(4,.int .i64 (l).length),(6,.int .i64 l.length),(11,.bool false)]):=by
 refine jc (f:=ai (ev LI TT) (aj TT) tR) (l) (fun i=>[(0,.row .af 2 (l.map aA)),(3,.row .own 2 (cL (l.map aA) i [.str ⟨#[]⟩,.str ⟨#[]⟩])),(4,.int .i64 i),(6,.int .i64 l.length)]) _ (fun i b hi hl=>?_) ?_
 ·have hw:=aL i (by first | omega | (simp at hl; omega))
  obtain ⟨_,rfl⟩:=List.getElem?_eq_some_iff.1 hi
  have h:=La  l[i] (Nat.le_trans (dz (List.getElem_mem hl)) hb)
  try simp at h
  simp -implicitDefEqProofs [tR,Co,hl,hw,h]
  first | done | (rw [eP _ _ _ _ (by simpa using hl) (by simp)]; done) | (simp only [kV]; rw [eP _ _ _ _ (by simpa using hl) (by simp)])
 ·simp -implicitDefEqProofs [tR,Co]
theorem Eo (l : List aD) (hb : wL aC l≤1048576) : ev LI TT 75 [.row .af 2 (l.map aA)] = some (.row .own 2 (l.map aA),[.dead]):=by
 rw [av (b:=xX) (rs:=[.t 2]) (n:=1) rfl rfl]
 have hlen:=aK (w:=aC) l
 have h:=I8  l (by omega) hb
 try simp at h
 simp -implicitDefEqProofs [xX,h,(by omega : (l.length : Int) * 32≤140737488355328)]
 all_goals (repeat' split) <;> first | rfl | omega | (simp_all; done) | (simp_all; omega) | skip
theorem IM (ps : List (aD×aD)) (hb : ps.length≤9223372036854775807) (cS : ∀ x∈ps,aC x.1≤1073741824) : aF (ai (ev LI TT) (aj TT) tv) [(0,.row .af 2 (ps.map (fun x : aD×aD=>aA x.1))),(1,.row .af 2 (ps.map (fun x : aD×aD=>aA x.2))),(5,.int .i64 0)] = if aI bM (ps) = true then some (.exit 0,[(0,.row .af 2 (ps.map (fun x : aD×aD=>aA x.1))),(1,.row .af 2 (ps.map (fun x : aD×aD=>aA x.2))),(5,.int .i64 ps.length),(14,.bool false)]) else some (.ret,[(4,.bool false)]):=by
 refine cq (f:=ai (ev LI TT) (aj TT) tv) (ps) (fun i=>[(0,.row .af 2 (ps.map (fun x : aD×aD=>aA x.1))),(1,.row .af 2 (ps.map (fun x : aD×aD=>aA x.2))),(5,.int .i64 i)]) bM _ _ (fun i b hi hl=>?_) ?_
 ·have hw:=aL i (by first | omega | (simp at hl; omega))
  obtain ⟨_,rfl⟩:=List.getElem?_eq_some_iff.1 hi
  have h:=KC  (ps[i]).1 (ps[i]).2 (cS _ (List.getElem_mem hl)); try simp at h
  simp -implicitDefEqProofs [tv,B6,hl,hw,bM,h]
 ·simp -implicitDefEqProofs [tv,B6]
theorem Em (a b : List aD) (hb : wL aC a≤1073741824) : ev LI TT 81 [.row .af 2 (a.map aA),.row .af 2 (b.map aA)] = some (.bool (decide (a = b)),[.dead,.dead]):=by
 rw [av (b:=xK) (rs:=[.t 4]) (n:=2) rfl rfl]
 simp -implicitDefEqProofs [xK]
 have hlen:=aK (w:=aC) a
 by_cases h : a.length = b.length
 ·obtain ⟨ps,rfl,rfl⟩:=iJ h
  have h1:=IM  ps (by simp at hlen; omega) (fun x hx=>Nat.le_trans (dz (List.mem_map_of_mem hx)) hb)
  have h2:=hU ps
  simp at h1
  rw [← h2]
  cases h3 : aI bM ps <;> rw [h3] at h1 <;> simp [h1,Function.comp_def]
 ·have : ¬ a = b:=fun e=>h (by rw [e])
  simp [this]
  omega
theorem Ah (a : bY) (n : Int) (hb : oT a) (hn : 0≤n) (hm : n≤9223372036854775807) : ev LI TT 106 [.agg ((cw .af) a),.int .i64 n] = some (.int .i64 (ay n (bk a)),[.dead,.dead]):=by
 rw [av (b:=qn) (rs:=[.t 4]) (n:=2) rfl rfl]
 have hw : bk a = wL aC a.fields + a.body.length:=rfl
 have ht:=aU n (bk a)
 have c1:=En  a.fields n hb.BZ (by omega) (by omega)
 have s1:=aU n (wL aC a.fields)
 obtain ⟨m1,e1⟩ : ∃ m,m = ay n (wL aC a.fields):=⟨_,rfl⟩
 rw [← e1] at c1 s1
 try simp at c1
 by_cases h1 : m1 < 0
 ·have ef : ay n (bk a) = -1:=by omega
  simp -implicitDefEqProofs [qn,c1,h1,ef]
 have sB : a.body.length≤9223372036854775807:=hb.BX
 obtain ⟨m2,e2⟩ : ∃ m,m = m1 - (a.body.length : Int):=⟨_,rfl⟩
 have c2 : IntKind.i64.wrap (m1 - (a.body.length : Int)) = m2:=by rw [e2]; exact bV (by omega) (by omega)
 by_cases h2 : m2 < 0
 ·have ef : ay n (bk a) = -1:=by omega
  simp -implicitDefEqProofs [qn,c1,h1,c2,h2,ef]
 have ef : ay n (bk a) = m2:=by omega
 simp -implicitDefEqProofs [qn,c1,h1,c2,h2,ef]
 all_goals (repeat' split) <;> first | rfl | omega | (simp_all; done) | (simp_all; omega) | skip
theorem Al (a : bY) (hb : bk a≤1048576) : ev LI TT 112 [.agg ((cw .af) a)] = some (.agg ((cw .own) a),[.dead]):=by
 rw [av (b:=yf) (rs:=[.c 2 3 true 59]) (n:=1) rfl rfl]
 have hw : bk a = wL aC a.fields + a.body.length:=rfl
 have h1:=Eo  a.fields (by omega)
 try simp at h1
 simp -implicitDefEqProofs [yf,h1,hw]
 all_goals (repeat' split) <;> first | rfl | omega | (simp_all; done) | (simp_all; omega) | skip
theorem Ac (a b : bY) (hb : bk a≤1073741824) : ev LI TT 78 [.agg ((cw .af) a),.agg ((cw .af) b)] = some (.bool (decide (a = b)),[.dead,.dead]):=by
 rw [av (b:=n5) (rs:=[.t 4]) (n:=2) rfl rfl]
 have hw : bk a = wL aC a.fields + a.body.length:=rfl
 rw [Mw]
 by_cases g1 : a.status = b.status
 rotate_left
 ·simp -implicitDefEqProofs [n5,eq_false g1]
 have c2:=Em  a.fields b.fields (by omega)
 cases g2 : decide (a.fields = b.fields)
 ·rw [g2] at c2
  try simp at c2
  simp -implicitDefEqProofs [n5,eq_true g1,c2]
 rw [g2] at c2
 try simp at c2
 by_cases g3 : a.body = b.body
 rotate_left
 ·simp -implicitDefEqProofs [n5,eq_true g1,c2,eq_false g3]
 simp -implicitDefEqProofs [n5,eq_true g1,c2,eq_true g3]
 all_goals (repeat' split) <;> first | rfl | omega | (simp_all; done) | (simp_all; omega) | skip
theorem Af (a : Ob) (n : Int) (hb : rK a) (hn : 0≤n) (hm : n≤9223372036854775807) : ev LI TT 38 [.agg ((ek .af) a),.int .i64 n] = some (.int .i64 (ay n (bA a)),[.dead,.dead]):=by
 rw [av (b:=mH) (rs:=[.t 4]) (n:=2) rfl rfl]
 have hw : bA a = a.path.length + wL wS a.names + wL wS a.values + bk a.resp:=rfl
 have ht:=aU n (bA a)
 have nH : a.path.length≤9223372036854775807:=hb.B0
 obtain ⟨m1,e1⟩ : ∃ m,m = n - (a.path.length : Int):=⟨_,rfl⟩
 have c1 : IntKind.i64.wrap (n - (a.path.length : Int)) = m1:=by rw [e1]; exact bV (by omega) (by omega)
 by_cases h1 : m1 < 0
 ·have ef : ay n (bA a) = -1:=by omega
  simp -implicitDefEqProofs [mH,c1,h1,ef]
 have c2:=Ai  a.names m1 hb.Rh (by omega) (by omega)
 have s2:=aU m1 (wL wS a.names)
 obtain ⟨m2,e2⟩ : ∃ m,m = ay m1 (wL wS a.names):=⟨_,rfl⟩
 rw [← e2] at c2 s2
 try simp at c2
 by_cases h2 : m2 < 0
 ·have ef : ay n (bA a) = -1:=by omega
  simp -implicitDefEqProofs [mH,c1,h1,c2,h2,ef]
 have c3:=Ai  a.values m2 hb.Rs (by omega) (by omega)
 have s3:=aU m2 (wL wS a.values)
 obtain ⟨m3,e3⟩ : ∃ m,m = ay m2 (wL wS a.values):=⟨_,rfl⟩
 rw [← e3] at c3 s3
 try simp at c3
 by_cases h3 : m3 < 0
 ·have ef : ay n (bA a) = -1:=by omega
  simp -implicitDefEqProofs [mH,c1,h1,c2,h2,c3,h3,ef]
 have c4:=Ah  a.resp m3 hb.p7 (by omega) (by omega)
 have s4:=aU m3 (bk a.resp)
 obtain ⟨m4,e4⟩ : ∃ m,m = ay m3 (bk a.resp):=⟨_,rfl⟩
 rw [← e4] at c4 s4
 try simp at c4
 by_cases h4 : m4 < 0
 ·have ef : ay n (bA a) = -1:=by omega
  simp -implicitDefEqProofs [mH,c1,h1,c2,h2,c3,h3,c4,h4,ef]
 have ef : ay n (bA a) = m4:=by omega
 simp -implicitDefEqProofs [mH,c1,h1,c2,h2,c3,h3,c4,h4,ef]
 all_goals (repeat' split) <;> first | rfl | omega | (simp_all; done) | (simp_all; omega) | skip
theorem Aj (a : Ob) (hb : bA a≤1048576) : ev LI TT 40 [.agg ((ek .af) a)] = some (.agg ((ek .own) a),[.dead]):=by
 rw [av (b:=yb) (rs:=[.c 2 7 true 61]) (n:=1) rfl rfl]
 have hw : bA a = a.path.length + wL wS a.names + wL wS a.values + bk a.resp:=rfl
 have h1:=Am  a.names (by omega)
 try simp at h1
 have h2:=Am  a.values (by omega)
 try simp at h2
 have h3:=Al  a.resp (by omega)
 try simp at h3
 simp -implicitDefEqProofs [yb,h1,h2,h3,hw]
 all_goals (repeat' split) <;> first | rfl | omega | (simp_all; done) | (simp_all; omega) | skip
theorem Aa (a b : Ob) (hb : bA a≤1073741824) : ev LI TT 24 [.agg ((ek .af) a),.agg ((ek .af) b)] = some (.bool (decide (a = b)),[.dead,.dead]):=by
 rw [av (b:=kR) (rs:=[.t 4]) (n:=2) rfl rfl]
 have hw : bA a = a.path.length + wL wS a.names + wL wS a.values + bk a.resp:=rfl
 rw [Mt]
 by_cases g1 : a.path = b.path
 rotate_left
 ·simp -implicitDefEqProofs [kR,eq_false g1]
 have c2:=Ae  a.names b.names (by omega)
 cases g2 : decide (a.names = b.names)
 ·rw [g2] at c2
  try simp at c2
  simp -implicitDefEqProofs [kR,eq_true g1,c2]
 rw [g2] at c2
 try simp at c2
 have c3:=Ae  a.values b.values (by omega)
 cases g3 : decide (a.values = b.values)
 ·rw [g3] at c3
  try simp at c3
  simp -implicitDefEqProofs [kR,eq_true g1,c2,c3]
 rw [g3] at c3
 try simp at c3
 have c4:=Ac  a.resp b.resp (by omega)
 cases g4 : decide (a.resp = b.resp)
 ·rw [g4] at c4
  try simp at c4
  simp -implicitDefEqProofs [kR,eq_true g1,c2,c3,c4]
 rw [g4] at c4
 try simp at c4
 by_cases g5 : a.t = b.t
 rotate_left
 ·simp -implicitDefEqProofs [kR,eq_true g1,c2,c3,c4,eq_false g5]
 simp -implicitDefEqProofs [kR,eq_true g1,c2,c3,c4,eq_true g5]
 all_goals (repeat' split) <;> first | rfl | omega | (simp_all; done) | (simp_all; omega) | skip
theorem KX (a : Kp) (n : Int) (hb : oQ a) (hn : 0≤n) (hm : n≤9223372036854775807) : ev LI TT 158 [.agg ((aZ .af) a),.int .i64 n] = some (.int .i64 (ay n (bF a)),[.dead,.dead]):=by
 rw [av (b:=tL) (rs:=[.t 4]) (n:=2) rfl rfl]
 have hw : bF a = bA a.obj:=rfl
 have ht:=aU n (bF a)
 have c1:=Af  a.obj n hb.tj (by omega) (by omega)
 have s1:=aU n (bA a.obj)
 obtain ⟨m1,e1⟩ : ∃ m,m = ay n (bA a.obj):=⟨_,rfl⟩
 rw [← e1] at c1 s1
 try simp at c1
 by_cases h1 : m1 < 0
 ·have ef : ay n (bF a) = -1:=by omega
  simp -implicitDefEqProofs [tL,c1,h1,ef]
 have ef : ay n (bF a) = m1:=by omega
 simp -implicitDefEqProofs [tL,c1,h1,ef]
 all_goals (repeat' split) <;> first | rfl | omega | (simp_all; done) | (simp_all; omega) | skip
theorem Le (a : Kp) (hb : bF a≤1048576) : ev LI TT 166 [.agg ((aZ .af) a)] = some (.agg ((aZ .own) a),[.dead]):=by
 rw [av (b:=ya) (rs:=[.c 2 9 true 108]) (n:=1) rfl rfl]
 have hw : bF a = bA a.obj:=rfl
 have h1:=Aj  a.obj (by omega)
 try simp at h1
 simp -implicitDefEqProofs [ya,h1,hw]
 all_goals (repeat' split) <;> first | rfl | omega | (simp_all; done) | (simp_all; omega) | skip
theorem KG (a b : Kp) (hb : bF a≤1073741824) : ev LI TT 169 [.agg ((aZ .af) a),.agg ((aZ .af) b)] = some (.bool (decide (a = b)),[.dead,.dead]):=by
 rw [av (b:=n4) (rs:=[.t 4]) (n:=2) rfl rfl]
 have hw : bF a = bA a.obj:=rfl
 rw [Ms]
 have c1:=Aa  a.obj b.obj (by omega)
 cases g1 : decide (a.obj = b.obj)
 ·rw [g1] at c1
  try simp at c1
  simp -implicitDefEqProofs [n4,c1]
 rw [g1] at c1
 try simp at c1
 by_cases g2 : a.at_ = b.at_
 rotate_left
 ·simp -implicitDefEqProofs [n4,c1,eq_false g2]
 by_cases g3 : a.seq = b.seq
 rotate_left
 ·simp -implicitDefEqProofs [n4,c1,eq_true g2,eq_false g3]
 simp -implicitDefEqProofs [n4,c1,eq_true g2,eq_true g3]
 all_goals (repeat' split) <;> first | rfl | omega | (simp_all; done) | (simp_all; omega) | skip
theorem I2 (l : List Kp) (hlen : l.length≤9223372036854775807) (hb : bL oQ l) (n : Int) (hn : 0≤n) (hm : n≤9223372036854775807) : aF (ai (ev LI TT) (aj TT) tK) [(0,.row .af 9 (l.map (aZ .af))),(1,.int .i64 n),(5,.int .i64 0)] = if cY (fun b n=>ay n (bF b)) (l) n < 0 then some (.ret,[(4,.int .i64 (-1))]) else some (.exit 0,[(0,.row .af 9 (l.map (aZ .af))),(1,.int .i64 (cY (fun b n=>ay n (bF b)) (l) n)),(5,.int .i64 (l).length),(15,.bool false)]):=by
 refine mI (f:=ai (ev LI TT) (aj TT) tK) (l) (fun i n=>[(0,.row .af 9 (l.map (aZ .af))),(1,.int .i64 n),(5,.int .i64 i)]) (fun b n=>ay n (bF b)) _ (fun n=>[(0,.row .af 9 (l.map (aZ .af))),(1,.int .i64 n),(5,.int .i64 (l).length),(15,.bool false)]) n hn hm (fun b n=>mU _ n) (fun i b n hi hl hn hm=>?_) (fun n=>?_)
 ·have hw:=aL i (by first | omega | (simp at hl; omega))
  obtain ⟨_,rfl⟩:=List.getElem?_eq_some_iff.1 hi
  have h2:=KX  l[i] n (hb.2 _ (List.getElem_mem hl)) hn hm
  obtain ⟨m,e1⟩ : ∃ m,m = ay n (bF l[i]):=⟨_,rfl⟩
  rw [← e1] at h2 ⊢
  try simp at h2
  simp -implicitDefEqProofs [tK,Cj,hl,hw,h2]
 ·simp -implicitDefEqProofs [tK,Cj]
theorem KY (l : List Kp) (n : Int) (hb : bL oQ l) (hn : 0≤n) (hm : n≤9223372036854775807) : ev LI TT 67 [.row .af 9 (l.map (aZ .af)),.int .i64 n] = some (.int .i64 (ay n (wL bF l)),[.dead,.dead]):=by
 rw [av (b:=ql) (rs:=[.t 4]) (n:=2) rfl rfl]
 have hl:=hb.1
 have hw : wL bF l = l.length + (l.map bF).sum:=rfl
 have ht:=aU n (wL bF l)
 obtain ⟨m,e1⟩ : ∃ m,m = n - (l.length : Int):=⟨_,rfl⟩
 have h2 : IntKind.i64.wrap (n - (l.length : Int)) = m:=by rw [e1]; exact bV (by omega) (by omega)
 by_cases h : m < 0
 ·have ef : ay n (wL bF l) = -1:=by omega
  simp -implicitDefEqProofs [ql,h2,h,ef]
 have h3:=I2  l hb.1 hb m (by omega) (by omega)
 rw [ld _ _ _ (by omega)] at h3
 have hs:=aU m (l.map bF).sum
 obtain ⟨q,e2⟩ : ∃ q,q = ay m (l.map bF).sum:=⟨_,rfl⟩
 rw [← e2] at h3 hs
 try simp at h3
 by_cases h4 : q < 0
 ·have ef : ay n (wL bF l) = -1:=by omega
  simp only [h4,if_true] at h3
  simp -implicitDefEqProofs [ql,h2,h,h3,ef]
 have ef : ay n (wL bF l) = q:=by omega
 simp only [h4,if_false] at h3
 simp -implicitDefEqProofs [ql,h2,h,h3,ef]
 all_goals (repeat' split) <;> first | rfl | omega | (simp_all; done) | (simp_all; omega) | skip
theorem Jb (l : List Kp) (hlen : l.length≤1048576) (hb : wL bF l≤1048576) : aF (ai (ev LI TT) (aj TT) tU) [(0,.row .af 9 (l.map (aZ .af))),(3,.row .own 9 (cL (l.map (aZ .own)) 0 [.str ⟨#[]⟩,.row .own 1 [],.row .own 1 [],.int .i64 0,.row .own 2 [],.str ⟨#[]⟩,.int .i64 0,.int .i64 0,.int .i64 0])),(4,.int .i64 0),(6,.int .i64 l.length)] = some (.exit 0,[(0,.row .af 9 (l.map (aZ .af))),(3,.row .own 9 (l.map (aZ .own))),(4,.int .i64 (l).length),(6,.int .i64 l.length),(11,.bool false)]):=by
 refine jc (f:=ai (ev LI TT) (aj TT) tU) (l) (fun i=>[(0,.row .af 9 (l.map (aZ .af))),(3,.row .own 9 (cL (l.map (aZ .own)) i [.str ⟨#[]⟩,.row .own 1 [],.row .own 1 [],.int .i64 0,.row .own 2 [],.str ⟨#[]⟩,.int .i64 0,.int .i64 0,.int .i64 0])),(4,.int .i64 i),(6,.int .i64 l.length)]) _ (fun i b hi hl=>?_) ?_
 ·have hw:=aL i (by first | omega | (simp at hl; omega))
  obtain ⟨_,rfl⟩:=List.getElem?_eq_some_iff.1 hi
  have h:=Le  l[i] (Nat.le_trans (dz (List.getElem_mem hl)) hb)
  try simp at h
  simp -implicitDefEqProofs [tU,Cr,hl,hw,h]
  first | done | (rw [eP _ _ _ _ (by simpa using hl) (by simp)]; done) | (simp only [kV]; rw [eP _ _ _ _ (by simpa using hl) (by simp)])
 ·simp -implicitDefEqProofs [tU,Cr]
theorem Lf (l : List Kp) (hb : wL bF l≤1048576) : ev LI TT 73 [.row .af 9 (l.map (aZ .af))] = some (.row .own 9 (l.map (aZ .own)),[.dead]):=by
 rw [av (b:=x9) (rs:=[.t 2]) (n:=1) rfl rfl]
 have hlen:=aK (w:=bF) l
 have h:=Jb  l (by omega) hb
 try simp at h
 simp -implicitDefEqProofs [x9,h,(by omega : (l.length : Int) * 136≤140737488355328)]
 all_goals (repeat' split) <;> first | rfl | omega | (simp_all; done) | (simp_all; omega) | skip
theorem IU (ps : List (Kp×Kp)) (hb : ps.length≤9223372036854775807) (cS : ∀ x∈ps,bF x.1≤1073741824) : aF (ai (ev LI TT) (aj TT) tB) [(0,.row .af 9 (ps.map (fun x : Kp×Kp=>(aZ .af) x.1))),(1,.row .af 9 (ps.map (fun x : Kp×Kp=>(aZ .af) x.2))),(5,.int .i64 0)] = if aI bM (ps) = true then some (.exit 0,[(0,.row .af 9 (ps.map (fun x : Kp×Kp=>(aZ .af) x.1))),(1,.row .af 9 (ps.map (fun x : Kp×Kp=>(aZ .af) x.2))),(5,.int .i64 ps.length),(14,.bool false)]) else some (.ret,[(4,.bool false)]):=by
 refine cq (f:=ai (ev LI TT) (aj TT) tB) (ps) (fun i=>[(0,.row .af 9 (ps.map (fun x : Kp×Kp=>(aZ .af) x.1))),(1,.row .af 9 (ps.map (fun x : Kp×Kp=>(aZ .af) x.2))),(5,.int .i64 i)]) bM _ _ (fun i b hi hl=>?_) ?_
 ·have hw:=aL i (by first | omega | (simp at hl; omega))
  obtain ⟨_,rfl⟩:=List.getElem?_eq_some_iff.1 hi
  have h:=KG  (ps[i]).1 (ps[i]).2 (cS _ (List.getElem_mem hl)); try simp at h
  simp -implicitDefEqProofs [tB,B9,hl,hw,bM,h]
 ·simp -implicitDefEqProofs [tB,B9]
theorem KH (a b : List Kp) (hb : wL bF a≤1073741824) : ev LI TT 79 [.row .af 9 (a.map (aZ .af)),.row .af 9 (b.map (aZ .af))] = some (.bool (decide (a = b)),[.dead,.dead]):=by
 rw [av (b:=xN) (rs:=[.t 4]) (n:=2) rfl rfl]
 simp -implicitDefEqProofs [xN]
 have hlen:=aK (w:=bF) a
 by_cases h : a.length = b.length
 ·obtain ⟨ps,rfl,rfl⟩:=iJ h
  have h1:=IU  ps (by simp at hlen; omega) (fun x hx=>Nat.le_trans (dz (List.mem_map_of_mem hx)) hb)
  have h2:=hU ps
  simp at h1
  rw [← h2]
  cases h3 : aI bM ps <;> rw [h3] at h1 <;> simp [h1,Function.comp_def]
 ·have : ¬ a = b:=fun e=>h (by rw [e])
  simp [this]
  omega
theorem KP (a : Bn) (n : Int) (hb : nk a) (hn : 0≤n) (hm : n≤9223372036854775807) : ev LI TT 33 [.agg (cg a),.int .i64 n] = some (.int .i64 (ay n (bq a)),[.dead,.dead]):=by
 rw [av (b:=qg) (rs:=[.t 4]) (n:=2) rfl rfl]
 have hw : bq a = a.a.length + a.b.length:=rfl
 have ht:=aU n (bq a)
 have nH : a.a.length≤9223372036854775807:=hb.Gu
 obtain ⟨m1,e1⟩ : ∃ m,m = n - (a.a.length : Int):=⟨_,rfl⟩
 have c1 : IntKind.i64.wrap (n - (a.a.length : Int)) = m1:=by rw [e1]; exact bV (by omega) (by omega)
 by_cases h1 : m1 < 0
 ·have ef : ay n (bq a) = -1:=by omega
  simp -implicitDefEqProofs [qg,c1,h1,ef]
 have sB : a.b.length≤9223372036854775807:=hb.Rb
 obtain ⟨m2,e2⟩ : ∃ m,m = m1 - (a.b.length : Int):=⟨_,rfl⟩
 have c2 : IntKind.i64.wrap (m1 - (a.b.length : Int)) = m2:=by rw [e2]; exact bV (by omega) (by omega)
 by_cases h2 : m2 < 0
 ·have ef : ay n (bq a) = -1:=by omega
  simp -implicitDefEqProofs [qg,c1,h1,c2,h2,ef]
 have ef : ay n (bq a) = m2:=by omega
 simp -implicitDefEqProofs [qg,c1,h1,c2,h2,ef]
 all_goals (repeat' split) <;> first | rfl | omega | (simp_all; done) | (simp_all; omega) | skip
theorem K6 (a : Bn) (hb : bq a≤1048576) : ev LI TT 35 [.agg (cg a)] = some (.agg (cg a),[.dead]):=by
 rw [av (b:=xU) (rs:=[.c 2 4 true 83]) (n:=1) rfl rfl]
 have hw : bq a = a.a.length + a.b.length:=rfl
 simp -implicitDefEqProofs [xU,hw]
 all_goals (repeat' split) <;> first | rfl | omega | (simp_all; done) | (simp_all; omega) | skip
theorem Ky (a b : Bn) (hb : bq a≤1073741824) : ev LI TT 170 [.agg (cg a),.agg (cg b)] = some (.bool (decide (a = b)),[.dead,.dead]):=by
 rw [av (b:=mD) (rs:=[.t 4]) (n:=2) rfl rfl]
 have hw : bq a = a.a.length + a.b.length:=rfl
 rw [Mn]
 by_cases g1 : a.kind = b.kind
 rotate_left
 ·simp -implicitDefEqProofs [mD,eq_false g1]
 by_cases g2 : a.a = b.a
 rotate_left
 ·simp -implicitDefEqProofs [mD,eq_true g1,eq_false g2]
 by_cases g3 : a.b = b.b
 rotate_left
 ·simp -implicitDefEqProofs [mD,eq_true g1,eq_true g2,eq_false g3]
 by_cases g4 : a.t = b.t
 rotate_left
 ·simp -implicitDefEqProofs [mD,eq_true g1,eq_true g2,eq_true g3,eq_false g4]
 simp -implicitDefEqProofs [mD,eq_true g1,eq_true g2,eq_true g3,eq_true g4]
 all_goals (repeat' split) <;> first | rfl | omega | (simp_all; done) | (simp_all; omega) | skip
theorem IZ (l : List Bn) (hlen : l.length≤9223372036854775807) (hb : bL nk l) (n : Int) (hn : 0≤n) (hm : n≤9223372036854775807) : aF (ai (ev LI TT) (aj TT) tG) [(0,.row .af 4 (l.map (cg))),(1,.int .i64 n),(5,.int .i64 0)] = if cY (fun b n=>ay n (bq b)) (l) n < 0 then some (.ret,[(4,.int .i64 (-1))]) else some (.exit 0,[(0,.row .af 4 (l.map (cg))),(1,.int .i64 (cY (fun b n=>ay n (bq b)) (l) n)),(5,.int .i64 (l).length),(15,.bool false)]):=by
 refine mI (f:=ai (ev LI TT) (aj TT) tG) (l) (fun i n=>[(0,.row .af 4 (l.map (cg))),(1,.int .i64 n),(5,.int .i64 i)]) (fun b n=>ay n (bq b)) _ (fun n=>[(0,.row .af 4 (l.map (cg))),(1,.int .i64 n),(5,.int .i64 (l).length),(15,.bool false)]) n hn hm (fun b n=>mU _ n) (fun i b n hi hl hn hm=>?_) (fun n=>?_)
 ·have hw:=aL i (by first | omega | (simp at hl; omega))
  obtain ⟨_,rfl⟩:=List.getElem?_eq_some_iff.1 hi
  have h2:=KP  l[i] n (hb.2 _ (List.getElem_mem hl)) hn hm
  obtain ⟨m,e1⟩ : ∃ m,m = ay n (bq l[i]):=⟨_,rfl⟩
  rw [← e1] at h2 ⊢
  try simp at h2
  simp -implicitDefEqProofs [tG,Cg,hl,hw,h2]
 ·simp -implicitDefEqProofs [tG,Cg]
theorem KQ (l : List Bn) (n : Int) (hb : bL nk l) (hn : 0≤n) (hm : n≤9223372036854775807) : ev LI TT 68 [.row .af 4 (l.map (cg)),.int .i64 n] = some (.int .i64 (ay n (wL bq l)),[.dead,.dead]):=by
 rw [av (b:=qd) (rs:=[.t 4]) (n:=2) rfl rfl]
 have hl:=hb.1
 have hw : wL bq l = l.length + (l.map bq).sum:=rfl
 have ht:=aU n (wL bq l)
 obtain ⟨m,e1⟩ : ∃ m,m = n - (l.length : Int):=⟨_,rfl⟩
 have h2 : IntKind.i64.wrap (n - (l.length : Int)) = m:=by rw [e1]; exact bV (by omega) (by omega)
 by_cases h : m < 0
 ·have ef : ay n (wL bq l) = -1:=by omega
  simp -implicitDefEqProofs [qd,h2,h,ef]
 have h3:=IZ  l hb.1 hb m (by omega) (by omega)
 rw [ld _ _ _ (by omega)] at h3
 have hs:=aU m (l.map bq).sum
 obtain ⟨q,e2⟩ : ∃ q,q = ay m (l.map bq).sum:=⟨_,rfl⟩
 rw [← e2] at h3 hs
 try simp at h3
 by_cases h4 : q < 0
 ·have ef : ay n (wL bq l) = -1:=by omega
  simp only [h4,if_true] at h3
  simp -implicitDefEqProofs [qd,h2,h,h3,ef]
 have ef : ay n (wL bq l) = q:=by omega
 simp only [h4,if_false] at h3
 simp -implicitDefEqProofs [qd,h2,h,h3,ef]
 all_goals (repeat' split) <;> first | rfl | omega | (simp_all; done) | (simp_all; omega) | skip
theorem I7 (l : List Bn) (hlen : l.length≤1048576) (hb : wL bq l≤1048576) : aF (ai (ev LI TT) (aj TT) tQ) [(0,.row .af 4 (l.map cg)),(3,.row .own 4 (cL (l.map cg) 0 [.int .i64 0,.str ⟨#[]⟩,.str ⟨#[]⟩,.int .i64 0])),(4,.int .i64 0),(6,.int .i64 l.length)] = some (.exit 0,[(0,.row .af 4 (l.map cg)),(3,.row .own 4 (l.map cg)),(4,.int .i64 (l).length),(6,.int .i64 l.length),(11,.bool false)]):=by
 refine jc (f:=ai (ev LI TT) (aj TT) tQ) (l) (fun i=>[(0,.row .af 4 (l.map cg)),(3,.row .own 4 (cL (l.map cg) i [.int .i64 0,.str ⟨#[]⟩,.str ⟨#[]⟩,.int .i64 0])),(4,.int .i64 i),(6,.int .i64 l.length)]) _ (fun i b hi hl=>?_) ?_
 ·have hw:=aL i (by first | omega | (simp at hl; omega))
  obtain ⟨_,rfl⟩:=List.getElem?_eq_some_iff.1 hi
  have h:=K6  l[i] (Nat.le_trans (dz (List.getElem_mem hl)) hb)
  try simp at h
  simp -implicitDefEqProofs [tQ,Cn,hl,hw,h]
  first | done | (rw [eP _ _ _ _ (by simpa using hl) (by simp)]; done) | (simp only [kV]; rw [eP _ _ _ _ (by simpa using hl) (by simp)])
 ·simp -implicitDefEqProofs [tQ,Cn]
theorem K7 (l : List Bn) (hb : wL bq l≤1048576) : ev LI TT 74 [.row .af 4 (l.map cg)] = some (.row .own 4 (l.map cg),[.dead]):=by
 rw [av (b:=xT) (rs:=[.t 2]) (n:=1) rfl rfl]
 have hlen:=aK (w:=bq) l
 have h:=I7  l (by omega) hb
 try simp at h
 simp -implicitDefEqProofs [xT,h,(by omega : (l.length : Int) * 48≤140737488355328)]
 all_goals (repeat' split) <;> first | rfl | omega | (simp_all; done) | (simp_all; omega) | skip
theorem IL (ps : List (Bn×Bn)) (hb : ps.length≤9223372036854775807) (cS : ∀ x∈ps,bq x.1≤1073741824) : aF (ai (ev LI TT) (aj TT) tu) [(0,.row .af 4 (ps.map (fun x : Bn×Bn=>cg x.1))),(1,.row .af 4 (ps.map (fun x : Bn×Bn=>cg x.2))),(5,.int .i64 0)] = if aI bM (ps) = true then some (.exit 0,[(0,.row .af 4 (ps.map (fun x : Bn×Bn=>cg x.1))),(1,.row .af 4 (ps.map (fun x : Bn×Bn=>cg x.2))),(5,.int .i64 ps.length),(14,.bool false)]) else some (.ret,[(4,.bool false)]):=by
 refine cq (f:=ai (ev LI TT) (aj TT) tu) (ps) (fun i=>[(0,.row .af 4 (ps.map (fun x : Bn×Bn=>cg x.1))),(1,.row .af 4 (ps.map (fun x : Bn×Bn=>cg x.2))),(5,.int .i64 i)]) bM _ _ (fun i b hi hl=>?_) ?_
 ·have hw:=aL i (by first | omega | (simp at hl; omega))
  obtain ⟨_,rfl⟩:=List.getElem?_eq_some_iff.1 hi
  have h:=Ky  (ps[i]).1 (ps[i]).2 (cS _ (List.getElem_mem hl)); try simp at h
  simp -implicitDefEqProofs [tu,B5,hl,hw,bM,h]
 ·simp -implicitDefEqProofs [tu,B5]
theorem Kz (a b : List Bn) (hb : wL bq a≤1073741824) : ev LI TT 80 [.row .af 4 (a.map cg),.row .af 4 (b.map cg)] = some (.bool (decide (a = b)),[.dead,.dead]):=by
 rw [av (b:=xJ) (rs:=[.t 4]) (n:=2) rfl rfl]
 simp -implicitDefEqProofs [xJ]
 have hlen:=aK (w:=bq) a
 by_cases h : a.length = b.length
 ·obtain ⟨ps,rfl,rfl⟩:=iJ h
  have h1:=IL  ps (by simp at hlen; omega) (fun x hx=>Nat.le_trans (dz (List.mem_map_of_mem hx)) hb)
  have h2:=hU ps
  simp at h1
  rw [← h2]
  cases h3 : aI bM ps <;> rw [h3] at h1 <;> simp [h1,Function.comp_def]
 ·have : ¬ a = b:=fun e=>h (by rw [e])
  simp [this]
  omega
theorem K3 (a : Sh) (n : Int) (hb : zR a) (hn : 0≤n) (hm : n≤9223372036854775807) : ev LI TT 18 [.agg ((cl .af) a),.int .i64 n] = some (.int .i64 (ay n (cv a)),[.dead,.dead]):=by
 rw [av (b:=oa) (rs:=[.t 4]) (n:=2) rfl rfl]
 have hw : cv a = cZ a.bJ + wL bF a.aG + wL bq a.aX:=rfl
 have ht:=aU n (cv a)
 have c1:=KS  a.bJ n hb.Re (by omega) (by omega)
 have s1:=aU n (cZ a.bJ)
 obtain ⟨m1,e1⟩ : ∃ m,m = ay n (cZ a.bJ):=⟨_,rfl⟩
 rw [← e1] at c1 s1
 try simp at c1
 by_cases h1 : m1 < 0
 ·have ef : ay n (cv a) = -1:=by omega
  simp -implicitDefEqProofs [oa,c1,h1,ef]
 have c2:=KY  a.aG m1 hb.Ri (by omega) (by omega)
 have s2:=aU m1 (wL bF a.aG)
 obtain ⟨m2,e2⟩ : ∃ m,m = ay m1 (wL bF a.aG):=⟨_,rfl⟩
 rw [← e2] at c2 s2
 try simp at c2
 by_cases h2 : m2 < 0
 ·have ef : ay n (cv a) = -1:=by omega
  simp -implicitDefEqProofs [oa,c1,h1,c2,h2,ef]
 have c3:=KQ  a.aX m2 hb.Gv (by omega) (by omega)
 have s3:=aU m2 (wL bq a.aX)
 obtain ⟨m3,e3⟩ : ∃ m,m = ay m2 (wL bq a.aX):=⟨_,rfl⟩
 rw [← e3] at c3 s3
 try simp at c3
 by_cases h3 : m3 < 0
 ·have ef : ay n (cv a) = -1:=by omega
  simp -implicitDefEqProofs [oa,c1,h1,c2,h2,c3,h3,ef]
 have ef : ay n (cv a) = m3:=by omega
 simp -implicitDefEqProofs [oa,c1,h1,c2,h2,c3,h3,ef]
 all_goals (repeat' split) <;> first | rfl | omega | (simp_all; done) | (simp_all; omega) | skip
theorem Ll (a : Sh) (hb : cv a≤1048576) : ev LI TT 21 [.agg ((cl .af) a)] = some (.agg ((cl .own) a),[.dead]):=by
 rw [av (b:=yj) (rs:=[.c 2 6 true 43]) (n:=1) rfl rfl]
 have hw : cv a = cZ a.bJ + wL bF a.aG + wL bq a.aX:=rfl
 have h1:=K9  a.bJ (by omega)
 try simp at h1
 have h2:=Lf  a.aG (by omega)
 try simp at h2
 have h3:=K7  a.aX (by omega)
 try simp at h3
 simp -implicitDefEqProofs [yj,h1,h2,h3,hw]
 all_goals (repeat' split) <;> first | rfl | omega | (simp_all; done) | (simp_all; omega) | skip
theorem KM (a b : Sh) (hb : cv a≤1073741824) : ev LI TT 25 [.agg ((cl .af) a),.agg ((cl .af) b)] = some (.bool (decide (a = b)),[.dead,.dead]):=by
 rw [av (b:=kS) (rs:=[.t 4]) (n:=2) rfl rfl]
 have hw : cv a = cZ a.bJ + wL bF a.aG + wL bq a.aX:=rfl
 rw [My]
 have c1:=KB  a.bJ b.bJ (by omega)
 cases g1 : decide (a.bJ = b.bJ)
 ·rw [g1] at c1
  try simp at c1
  simp -implicitDefEqProofs [kS,c1]
 rw [g1] at c1
 try simp at c1
 have c2:=KH  a.aG b.aG (by omega)
 cases g2 : decide (a.aG = b.aG)
 ·rw [g2] at c2
  try simp at c2
  simp -implicitDefEqProofs [kS,c1,c2]
 rw [g2] at c2
 try simp at c2
 have c3:=Kz  a.aX b.aX (by omega)
 cases g3 : decide (a.aX = b.aX)
 ·rw [g3] at c3
  try simp at c3
  simp -implicitDefEqProofs [kS,c1,c2,c3]
 rw [g3] at c3
 try simp at c3
 by_cases g4 : a.next = b.next
 rotate_left
 ·simp -implicitDefEqProofs [kS,c1,c2,c3,eq_false g4]
 by_cases g5 : a.seq = b.seq
 rotate_left
 ·simp -implicitDefEqProofs [kS,c1,c2,c3,eq_true g4,eq_false g5]
 simp -implicitDefEqProofs [kS,c1,c2,c3,eq_true g4,eq_true g5]
 all_goals (repeat' split) <;> first | rfl | omega | (simp_all; done) | (simp_all; omega) | skip
theorem Ag (a : Rq) (n : Int) (hb : oS a) (hn : 0≤n) (hm : n≤9223372036854775807) : ev LI TT 19 [.agg ((dQ .af) a),.int .i64 n] = some (.int .i64 (ay n (bh a)),[.dead,.dead]):=by
 rw [av (b:=n9) (rs:=[.t 4]) (n:=2) rfl rfl]
 have hw : bh a = a.path.length + wL aC a.fields + a.body.length:=rfl
 have ht:=aU n (bh a)
 have nH : a.path.length≤9223372036854775807:=hb.B0
 obtain ⟨m1,e1⟩ : ∃ m,m = n - (a.path.length : Int):=⟨_,rfl⟩
 have c1 : IntKind.i64.wrap (n - (a.path.length : Int)) = m1:=by rw [e1]; exact bV (by omega) (by omega)
 by_cases h1 : m1 < 0
 ·have ef : ay n (bh a) = -1:=by omega
  simp -implicitDefEqProofs [n9,c1,h1,ef]
 have c2:=En  a.fields m1 hb.BZ (by omega) (by omega)
 have s2:=aU m1 (wL aC a.fields)
 obtain ⟨m2,e2⟩ : ∃ m,m = ay m1 (wL aC a.fields):=⟨_,rfl⟩
 rw [← e2] at c2 s2
 try simp at c2
 by_cases h2 : m2 < 0
 ·have ef : ay n (bh a) = -1:=by omega
  simp -implicitDefEqProofs [n9,c1,h1,c2,h2,ef]
 have Y3 : a.body.length≤9223372036854775807:=hb.BX
 obtain ⟨m3,e3⟩ : ∃ m,m = m2 - (a.body.length : Int):=⟨_,rfl⟩
 have c3 : IntKind.i64.wrap (m2 - (a.body.length : Int)) = m3:=by rw [e3]; exact bV (by omega) (by omega)
 by_cases h3 : m3 < 0
 ·have ef : ay n (bh a) = -1:=by omega
  simp -implicitDefEqProofs [n9,c1,h1,c2,h2,c3,h3,ef]
 have ef : ay n (bh a) = m3:=by omega
 simp -implicitDefEqProofs [n9,c1,h1,c2,h2,c3,h3,ef]
 all_goals (repeat' split) <;> first | rfl | omega | (simp_all; done) | (simp_all; omega) | skip
theorem Ak (a : Rq) (hb : bh a≤1048576) : ev LI TT 22 [.agg ((dQ .af) a)] = some (.agg ((dQ .own) a),[.dead]):=by
 rw [av (b:=ye) (rs:=[.c 2 4 true 66]) (n:=1) rfl rfl]
 have hw : bh a = a.path.length + wL aC a.fields + a.body.length:=rfl
 have h1:=Eo  a.fields (by omega)
 try simp at h1
 simp -implicitDefEqProofs [ye,h1,hw]
 all_goals (repeat' split) <;> first | rfl | omega | (simp_all; done) | (simp_all; omega) | skip
theorem Ab (a b : Rq) (hb : bh a≤1073741824) : ev LI TT 26 [.agg ((dQ .af) a),.agg ((dQ .af) b)] = some (.bool (decide (a = b)),[.dead,.dead]):=by
 rw [av (b:=mF) (rs:=[.t 4]) (n:=2) rfl rfl]
 have hw : bh a = a.path.length + wL aC a.fields + a.body.length:=rfl
 rw [Mv]
 by_cases g1 : a.method = b.method
 rotate_left
 ·simp -implicitDefEqProofs [mF,eq_false g1]
 by_cases g2 : a.path = b.path
 rotate_left
 ·simp -implicitDefEqProofs [mF,eq_true g1,eq_false g2]
 have c3:=Em  a.fields b.fields (by omega)
 cases g3 : decide (a.fields = b.fields)
 ·rw [g3] at c3
  try simp at c3
  simp -implicitDefEqProofs [mF,eq_true g1,eq_true g2,c3]
 rw [g3] at c3
 try simp at c3
 by_cases g4 : a.body = b.body
 rotate_left
 ·simp -implicitDefEqProofs [mF,eq_true g1,eq_true g2,c3,eq_false g4]
 simp -implicitDefEqProofs [mF,eq_true g1,eq_true g2,c3,eq_true g4]
 all_goals (repeat' split) <;> first | rfl | omega | (simp_all; done) | (simp_all; omega) | skip
theorem KW (l : List Int) (n : Int) (hb : l.length≤9223372036854775807) (hn : 0≤n) (hm : n≤9223372036854775807) : ev LI TT 228 [.row .af 1 (l.map eI),.int .i64 n] = some (.int .i64 (ay n (wL wO l)),[.dead,.dead]):=by
 rw [av (b:=tJ) (rs:=[.t 4]) (n:=2) rfl rfl]
 have hw : wL wO l = l.length:=by simp [wL,wO]; clear hb; induction l <;> simp_all [wO]
 have ht:=aU n (wL wO l)
 obtain ⟨m,e1⟩ : ∃ m,m = n - (l.length : Int):=⟨_,rfl⟩
 have h2 : IntKind.i64.wrap (n - (l.length : Int)) = m:=by rw [e1]; exact bV (by omega) (by omega)
 by_cases h : m < 0
 ·have ef : ay n (wL wO l) = -1:=by omega
  simp -implicitDefEqProofs [tJ,h2,h,ef]
 have ef : ay n (wL wO l) = m:=by omega
 simp -implicitDefEqProofs [tJ,h2,h,ef]
 all_goals (repeat' split) <;> first | rfl | omega | (simp_all; done) | (simp_all; omega) | skip
theorem Ja (l : List Int) (hlen : l.length≤1048576) (hb : wL wO l≤1048576) : aF (ai (ev LI TT) (aj TT) tT) [(0,.row .af 1 (l.map eI)),(3,.row .own 1 (cL (l.map eI) 0 [.int .i64 0])),(4,.int .i64 0),(6,.int .i64 l.length)] = some (.exit 0,[(0,.row .af 1 (l.map eI)),(3,.row .own 1 (l.map eI)),(4,.int .i64 (l).length),(6,.int .i64 l.length),(11,.bool false)]):=by
 refine jc (f:=ai (ev LI TT) (aj TT) tT) (l) (fun i=>[(0,.row .af 1 (l.map eI)),(3,.row .own 1 (cL (l.map eI) i [.int .i64 0])),(4,.int .i64 i),(6,.int .i64 l.length)]) _ (fun i b hi hl=>?_) ?_
 ·have hw:=aL i (by first | omega | (simp at hl; omega))
  obtain ⟨_,rfl⟩:=List.getElem?_eq_some_iff.1 hi
  skip
  simp -implicitDefEqProofs [tT,Cq,hl,hw]
  first | done | (rw [eP _ _ _ _ (by simpa using hl) (by simp)]; done) | (simp only [kV]; rw [eP _ _ _ _ (by simpa using hl) (by simp)])
 ·simp -implicitDefEqProofs [tT,Cq]
theorem Ld (l : List Int) (hb : wL wO l≤1048576) : ev LI TT 230 [.row .af 1 (l.map eI)] = some (.row .own 1 (l.map eI),[.dead]):=by
 rw [av (b:=x8) (rs:=[.t 2]) (n:=1) rfl rfl]
 have hlen:=aK (w:=wO) l
 have h:=Ja  l (by omega) hb
 try simp at h
 simp -implicitDefEqProofs [x8,h,(by omega : (l.length : Int) * 8≤140737488355328)]
 all_goals (repeat' split) <;> first | rfl | omega | (simp_all; done) | (simp_all; omega) | skip
theorem IQ (ps : List (Int×Int)) (hb : ps.length≤9223372036854775807) (cS : ∀ x∈ps,wO x.1≤1073741824) : aF (ai (ev LI TT) (aj TT) tA) [(0,.row .af 1 (ps.map (fun x : Int×Int=>eI x.1))),(1,.row .af 1 (ps.map (fun x : Int×Int=>eI x.2))),(5,.int .i64 0)] = if aI bM (ps) = true then some (.exit 0,[(0,.row .af 1 (ps.map (fun x : Int×Int=>eI x.1))),(1,.row .af 1 (ps.map (fun x : Int×Int=>eI x.2))),(5,.int .i64 ps.length),(14,.bool false)]) else some (.ret,[(4,.bool false)]):=by
 refine cq (f:=ai (ev LI TT) (aj TT) tA) (ps) (fun i=>[(0,.row .af 1 (ps.map (fun x : Int×Int=>eI x.1))),(1,.row .af 1 (ps.map (fun x : Int×Int=>eI x.2))),(5,.int .i64 i)]) bM _ _ (fun i b hi hl=>?_) ?_
 ·have hw:=aL i (by first | omega | (simp at hl; omega))
  obtain ⟨_,rfl⟩:=List.getElem?_eq_some_iff.1 hi
  simp -implicitDefEqProofs [tA,B8,hl,hw,bM]
  first | done | (split <;> simp_all)
 ·simp -implicitDefEqProofs [tA,B8]
theorem KF (a b : List Int) (hb : wL wO a≤1073741824) : ev LI TT 235 [.row .af 1 (a.map eI),.row .af 1 (b.map eI)] = some (.bool (decide (a = b)),[.dead,.dead]):=by
 rw [av (b:=xM) (rs:=[.t 4]) (n:=2) rfl rfl]
 simp -implicitDefEqProofs [xM]
 have hlen:=aK (w:=wO) a
 by_cases h : a.length = b.length
 ·obtain ⟨ps,rfl,rfl⟩:=iJ h
  have h1:=IQ  ps (by simp at hlen; omega) (fun x hx=>Nat.le_trans (dz (List.mem_map_of_mem hx)) hb)
  have h2:=hU ps
  simp at h1
  rw [← h2]
  cases h3 : aI bM ps <;> rw [h3] at h1 <;> simp [h1,Function.comp_def]
 ·have : ¬ a = b:=fun e=>h (by rw [e])
  simp [this]
  omega
theorem KU (a : Fl) (n : Int) (hb : oP a) (hn : 0≤n) (hm : n≤9223372036854775807) : ev LI TT 134 [.agg ((aY .af) a),.int .i64 n] = some (.int .i64 (ay n (bE a)),[.dead,.dead]):=by
 rw [av (b:=n7) (rs:=[.t 4]) (n:=2) rfl rfl]
 have hw : bE a = bh a.q + wL wO a.who + bA a.old:=rfl
 have ht:=aU n (bE a)
 have c1:=Ag  a.q n hb.p6 (by omega) (by omega)
 have s1:=aU n (bh a.q)
 obtain ⟨m1,e1⟩ : ∃ m,m = ay n (bh a.q):=⟨_,rfl⟩
 rw [← e1] at c1 s1
 try simp at c1
 by_cases h1 : m1 < 0
 ·have ef : ay n (bE a) = -1:=by omega
  simp -implicitDefEqProofs [n7,c1,h1,ef]
 have c2:=KW  a.who m1 hb.Rt.1 (by omega) (by omega)
 have s2:=aU m1 (wL wO a.who)
 obtain ⟨m2,e2⟩ : ∃ m,m = ay m1 (wL wO a.who):=⟨_,rfl⟩
 rw [← e2] at c2 s2
 try simp at c2
 by_cases h2 : m2 < 0
 ·have ef : ay n (bE a) = -1:=by omega
  simp -implicitDefEqProofs [n7,c1,h1,c2,h2,ef]
 have c3:=Af  a.old m2 hb.Rj (by omega) (by omega)
 have s3:=aU m2 (bA a.old)
 obtain ⟨m3,e3⟩ : ∃ m,m = ay m2 (bA a.old):=⟨_,rfl⟩
 rw [← e3] at c3 s3
 try simp at c3
 by_cases h3 : m3 < 0
 ·have ef : ay n (bE a) = -1:=by omega
  simp -implicitDefEqProofs [n7,c1,h1,c2,h2,c3,h3,ef]
 have ef : ay n (bE a) = m3:=by omega
 simp -implicitDefEqProofs [n7,c1,h1,c2,h2,c3,h3,ef]
 all_goals (repeat' split) <;> first | rfl | omega | (simp_all; done) | (simp_all; omega) | skip
theorem Lb (a : Fl) (hb : bE a≤1048576) : ev LI TT 140 [.agg ((aY .af) a)] = some (.agg ((aY .own) a),[.dead]):=by
 rw [av (b:=x7) (rs:=[.c 2 13 true 184]) (n:=1) rfl rfl]
 have hw : bE a = bh a.q + wL wO a.who + bA a.old:=rfl
 have h1:=Ak  a.q (by omega)
 try simp at h1
 have h2:=Ld  a.who (by omega)
 try simp at h2
 have h3:=Aj  a.old (by omega)
 try simp at h3
 simp -implicitDefEqProofs [x7,h1,h2,h3,hw]
 all_goals (repeat' split) <;> first | rfl | omega | (simp_all; done) | (simp_all; omega) | skip
theorem KD (a b : Fl) (hb : bE a≤1073741824) : ev LI TT 146 [.agg ((aY .af) a),.agg ((aY .af) b)] = some (.bool (decide (a = b)),[.dead,.dead]):=by
 rw [av (b:=mE) (rs:=[.t 4]) (n:=2) rfl rfl]
 have hw : bE a = bh a.q + wL wO a.who + bA a.old:=rfl
 rw [Mq]
 have c1:=Ab  a.q b.q (by omega)
 cases g1 : decide (a.q = b.q)
 ·rw [g1] at c1
  try simp at c1
  simp -implicitDefEqProofs [mE,c1]
 rw [g1] at c1
 try simp at c1
 have c2:=KF  a.who b.who (by omega)
 cases g2 : decide (a.who = b.who)
 ·rw [g2] at c2
  try simp at c2
  simp -implicitDefEqProofs [mE,c1,c2]
 rw [g2] at c2
 try simp at c2
 have c3:=Aa  a.old b.old (by omega)
 cases g3 : decide (a.old = b.old)
 ·rw [g3] at c3
  try simp at c3
  simp -implicitDefEqProofs [mE,c1,c2,c3]
 rw [g3] at c3
 try simp at c3
 by_cases g4 : a.jD = b.jD
 rotate_left
 ·simp -implicitDefEqProofs [mE,c1,c2,c3,eq_false g4]
 simp -implicitDefEqProofs [mE,c1,c2,c3,eq_true g4]
 all_goals (repeat' split) <;> first | rfl | omega | (simp_all; done) | (simp_all; omega) | skip
theorem I1 (l : List Fl) (hlen : l.length≤9223372036854775807) (hb : bL oP l) (n : Int) (hn : 0≤n) (hm : n≤9223372036854775807) : aF (ai (ev LI TT) (aj TT) tI) [(0,.row .af 13 (l.map (aY .af))),(1,.int .i64 n),(5,.int .i64 0)] = if cY (fun b n=>ay n (bE b)) (l) n < 0 then some (.ret,[(4,.int .i64 (-1))]) else some (.exit 0,[(0,.row .af 13 (l.map (aY .af))),(1,.int .i64 (cY (fun b n=>ay n (bE b)) (l) n)),(5,.int .i64 (l).length),(15,.bool false)]):=by
 refine mI (f:=ai (ev LI TT) (aj TT) tI) (l) (fun i n=>[(0,.row .af 13 (l.map (aY .af))),(1,.int .i64 n),(5,.int .i64 i)]) (fun b n=>ay n (bE b)) _ (fun n=>[(0,.row .af 13 (l.map (aY .af))),(1,.int .i64 n),(5,.int .i64 (l).length),(15,.bool false)]) n hn hm (fun b n=>mU _ n) (fun i b n hi hl hn hm=>?_) (fun n=>?_)
 ·have hw:=aL i (by first | omega | (simp at hl; omega))
  obtain ⟨_,rfl⟩:=List.getElem?_eq_some_iff.1 hi
  have h2:=KU  l[i] n (hb.2 _ (List.getElem_mem hl)) hn hm
  obtain ⟨m,e1⟩ : ∃ m,m = ay n (bE l[i]):=⟨_,rfl⟩
  rw [← e1] at h2 ⊢
  try simp at h2
  simp -implicitDefEqProofs [tI,Ci,hl,hw,h2]
 ·simp -implicitDefEqProofs [tI,Ci]
theorem KV (l : List Fl) (n : Int) (hb : bL oP l) (hn : 0≤n) (hm : n≤9223372036854775807) : ev LI TT 50 [.row .af 13 (l.map (aY .af)),.int .i64 n] = some (.int .i64 (ay n (wL bE l)),[.dead,.dead]):=by
 rw [av (b:=qk) (rs:=[.t 4]) (n:=2) rfl rfl]
 have hl:=hb.1
 have hw : wL bE l = l.length + (l.map bE).sum:=rfl
 have ht:=aU n (wL bE l)
 obtain ⟨m,e1⟩ : ∃ m,m = n - (l.length : Int):=⟨_,rfl⟩
 have h2 : IntKind.i64.wrap (n - (l.length : Int)) = m:=by rw [e1]; exact bV (by omega) (by omega)
 by_cases h : m < 0
 ·have ef : ay n (wL bE l) = -1:=by omega
  simp -implicitDefEqProofs [qk,h2,h,ef]
 have h3:=I1  l hb.1 hb m (by omega) (by omega)
 rw [ld _ _ _ (by omega)] at h3
 have hs:=aU m (l.map bE).sum
 obtain ⟨q,e2⟩ : ∃ q,q = ay m (l.map bE).sum:=⟨_,rfl⟩
 rw [← e2] at h3 hs
 try simp at h3
 by_cases h4 : q < 0
 ·have ef : ay n (wL bE l) = -1:=by omega
  simp only [h4,if_true] at h3
  simp -implicitDefEqProofs [qk,h2,h,h3,ef]
 have ef : ay n (wL bE l) = q:=by omega
 simp only [h4,if_false] at h3
 simp -implicitDefEqProofs [qk,h2,h,h3,ef]
 all_goals (repeat' split) <;> first | rfl | omega | (simp_all; done) | (simp_all; omega) | skip
theorem I9 (l : List Fl) (hlen : l.length≤1048576) (hb : wL bE l≤1048576) : aF (ai (ev LI TT) (aj TT) tS) [(0,.row .af 13 (l.map (aY .af))),(3,.row .own 13 (cL (l.map (aY .own)) 0 [.int .i64 0,.str ⟨#[]⟩,.row .own 2 [],.str ⟨#[]⟩,.row .own 1 [],.str ⟨#[]⟩,.row .own 1 [],.row .own 1 [],.int .i64 0,.row .own 2 [],.str ⟨#[]⟩,.int .i64 0,.bool false])),(4,.int .i64 0),(6,.int .i64 l.length)] = some (.exit 0,[(0,.row .af 13 (l.map (aY .af))),(3,.row .own 13 (l.map (aY .own))),(4,.int .i64 (l).length),(6,.int .i64 l.length),(11,.bool false)]):=by
 refine jc (f:=ai (ev LI TT) (aj TT) tS) (l) (fun i=>[(0,.row .af 13 (l.map (aY .af))),(3,.row .own 13 (cL (l.map (aY .own)) i [.int .i64 0,.str ⟨#[]⟩,.row .own 2 [],.str ⟨#[]⟩,.row .own 1 [],.str ⟨#[]⟩,.row .own 1 [],.row .own 1 [],.int .i64 0,.row .own 2 [],.str ⟨#[]⟩,.int .i64 0,.bool false])),(4,.int .i64 i),(6,.int .i64 l.length)]) _ (fun i b hi hl=>?_) ?_
 ·have hw:=aL i (by first | omega | (simp at hl; omega))
  obtain ⟨_,rfl⟩:=List.getElem?_eq_some_iff.1 hi
  have h:=Lb  l[i] (Nat.le_trans (dz (List.getElem_mem hl)) hb)
  try simp at h
  simp -implicitDefEqProofs [tS,Cp,hl,hw,h]
  first | done | (rw [eP _ _ _ _ (by simpa using hl) (by simp)]; done) | (simp only [kV]; rw [eP _ _ _ _ (by simpa using hl) (by simp)])
 ·simp -implicitDefEqProofs [tS,Cp]
theorem Lc (l : List Fl) (hb : wL bE l≤1048576) : ev LI TT 57 [.row .af 13 (l.map (aY .af))] = some (.row .own 13 (l.map (aY .own)),[.dead]):=by
 rw [av (b:=xZ) (rs:=[.t 2]) (n:=1) rfl rfl]
 have hlen:=aK (w:=bE) l
 have h:=I9  l (by omega) hb
 try simp at h
 simp -implicitDefEqProofs [xZ,h,(by omega : (l.length : Int) * 216≤140737488355328)]
 all_goals (repeat' split) <;> first | rfl | omega | (simp_all; done) | (simp_all; omega) | skip
theorem IP (ps : List (Fl×Fl)) (hb : ps.length≤9223372036854775807) (cS : ∀ x∈ps,bE x.1≤1073741824) : aF (ai (ev LI TT) (aj TT) tw) [(0,.row .af 13 (ps.map (fun x : Fl×Fl=>(aY .af) x.1))),(1,.row .af 13 (ps.map (fun x : Fl×Fl=>(aY .af) x.2))),(5,.int .i64 0)] = if aI bM (ps) = true then some (.exit 0,[(0,.row .af 13 (ps.map (fun x : Fl×Fl=>(aY .af) x.1))),(1,.row .af 13 (ps.map (fun x : Fl×Fl=>(aY .af) x.2))),(5,.int .i64 ps.length),(14,.bool false)]) else some (.ret,[(4,.bool false)]):=by
 refine cq (f:=ai (ev LI TT) (aj TT) tw) (ps) (fun i=>[(0,.row .af 13 (ps.map (fun x : Fl×Fl=>(aY .af) x.1))),(1,.row .af 13 (ps.map (fun x : Fl×Fl=>(aY .af) x.2))),(5,.int .i64 i)]) bM _ _ (fun i b hi hl=>?_) ?_
 ·have hw:=aL i (by first | omega | (simp at hl; omega))
  obtain ⟨_,rfl⟩:=List.getElem?_eq_some_iff.1 hi
  have h:=KD  (ps[i]).1 (ps[i]).2 (cS _ (List.getElem_mem hl)); try simp at h
  simp -implicitDefEqProofs [tw,B7,hl,hw,bM,h]
 ·simp -implicitDefEqProofs [tw,B7]
theorem KE (a b : List Fl) (hb : wL bE a≤1073741824) : ev LI TT 62 [.row .af 13 (a.map (aY .af)),.row .af 13 (b.map (aY .af))] = some (.bool (decide (a = b)),[.dead,.dead]):=by
 rw [av (b:=xL) (rs:=[.t 4]) (n:=2) rfl rfl]
 simp -implicitDefEqProofs [xL]
 have hlen:=aK (w:=bE) a
 by_cases h : a.length = b.length
 ·obtain ⟨ps,rfl,rfl⟩:=iJ h
  have h1:=IP  ps (by simp at hlen; omega) (fun x hx=>Nat.le_trans (dz (List.mem_map_of_mem hx)) hb)
  have h2:=hU ps
  simp at h1
  rw [← h2]
  cases h3 : aI bM ps <;> rw [h3] at h1 <;> simp [h1,Function.comp_def]
 ·have : ¬ a = b:=fun e=>h (by rw [e])
  simp [this]
  omega
theorem K1 (a : Se) (n : Int) (hb : oU a) (hn : 0≤n) (hm : n≤9223372036854775807) : ev LI TT 135 [.agg ((cE .af) a),.int .i64 n] = some (.int .i64 (ay n (bX a)),[.dead,.dead]):=by
 rw [av (b:=qp) (rs:=[.t 4]) (n:=2) rfl rfl]
 have hw : bX a = bh a.q + bk a.resp:=rfl
 have ht:=aU n (bX a)
 have c1:=Ag  a.q n hb.p6 (by omega) (by omega)
 have s1:=aU n (bh a.q)
 obtain ⟨m1,e1⟩ : ∃ m,m = ay n (bh a.q):=⟨_,rfl⟩
 rw [← e1] at c1 s1
 try simp at c1
 by_cases h1 : m1 < 0
 ·have ef : ay n (bX a) = -1:=by omega
  simp -implicitDefEqProofs [qp,c1,h1,ef]
 have c2:=Ah  a.resp m1 hb.p7 (by omega) (by omega)
 have s2:=aU m1 (bk a.resp)
 obtain ⟨m2,e2⟩ : ∃ m,m = ay m1 (bk a.resp):=⟨_,rfl⟩
 rw [← e2] at c2 s2
 try simp at c2
 by_cases h2 : m2 < 0
 ·have ef : ay n (bX a) = -1:=by omega
  simp -implicitDefEqProofs [qp,c1,h1,c2,h2,ef]
 have ef : ay n (bX a) = m2:=by omega
 simp -implicitDefEqProofs [qp,c1,h1,c2,h2,ef]
 all_goals (repeat' split) <;> first | rfl | omega | (simp_all; done) | (simp_all; omega) | skip
theorem Li (a : Se) (hb : bX a≤1048576) : ev LI TT 141 [.agg ((cE .af) a)] = some (.agg ((cE .own) a),[.dead]):=by
 rw [av (b:=yh) (rs:=[.c 2 8 true 188]) (n:=1) rfl rfl]
 have hw : bX a = bh a.q + bk a.resp:=rfl
 have h1:=Ak  a.q (by omega)
 try simp at h1
 have h2:=Al  a.resp (by omega)
 try simp at h2
 simp -implicitDefEqProofs [yh,h1,h2,hw]
 all_goals (repeat' split) <;> first | rfl | omega | (simp_all; done) | (simp_all; omega) | skip
theorem KK (a b : Se) (hb : bX a≤1073741824) : ev LI TT 147 [.agg ((cE .af) a),.agg ((cE .af) b)] = some (.bool (decide (a = b)),[.dead,.dead]):=by
 rw [av (b:=n6) (rs:=[.t 4]) (n:=2) rfl rfl]
 have hw : bX a = bh a.q + bk a.resp:=rfl
 rw [Mx]
 have c1:=Ab  a.q b.q (by omega)
 cases g1 : decide (a.q = b.q)
 ·rw [g1] at c1
  try simp at c1
  simp -implicitDefEqProofs [n6,c1]
 rw [g1] at c1
 try simp at c1
 have c2:=Ac  a.resp b.resp (by omega)
 cases g2 : decide (a.resp = b.resp)
 ·rw [g2] at c2
  try simp at c2
  simp -implicitDefEqProofs [n6,c1,c2]
 rw [g2] at c2
 try simp at c2
 by_cases g3 : a.t = b.t
 rotate_left
 ·simp -implicitDefEqProofs [n6,c1,c2,eq_false g3]
 simp -implicitDefEqProofs [n6,c1,c2,eq_true g3]
 all_goals (repeat' split) <;> first | rfl | omega | (simp_all; done) | (simp_all; omega) | skip
theorem I4 (l : List Se) (hlen : l.length≤9223372036854775807) (hb : bL oU l) (n : Int) (hn : 0≤n) (hm : n≤9223372036854775807) : aF (ai (ev LI TT) (aj TT) tN) [(0,.row .af 8 (l.map (cE .af))),(1,.int .i64 n),(5,.int .i64 0)] = if cY (fun b n=>ay n (bX b)) (l) n < 0 then some (.ret,[(4,.int .i64 (-1))]) else some (.exit 0,[(0,.row .af 8 (l.map (cE .af))),(1,.int .i64 (cY (fun b n=>ay n (bX b)) (l) n)),(5,.int .i64 (l).length),(15,.bool false)]):=by
 refine mI (f:=ai (ev LI TT) (aj TT) tN) (l) (fun i n=>[(0,.row .af 8 (l.map (cE .af))),(1,.int .i64 n),(5,.int .i64 i)]) (fun b n=>ay n (bX b)) _ (fun n=>[(0,.row .af 8 (l.map (cE .af))),(1,.int .i64 n),(5,.int .i64 (l).length),(15,.bool false)]) n hn hm (fun b n=>mU _ n) (fun i b n hi hl hn hm=>?_) (fun n=>?_)
 ·have hw:=aL i (by first | omega | (simp at hl; omega))
  obtain ⟨_,rfl⟩:=List.getElem?_eq_some_iff.1 hi
  have h2:=K1  l[i] n (hb.2 _ (List.getElem_mem hl)) hn hm
  obtain ⟨m,e1⟩ : ∃ m,m = ay n (bX l[i]):=⟨_,rfl⟩
  rw [← e1] at h2 ⊢
  try simp at h2
  simp -implicitDefEqProofs [tN,Cl,hl,hw,h2]
 ·simp -implicitDefEqProofs [tN,Cl]
theorem K2 (l : List Se) (n : Int) (hb : bL oU l) (hn : 0≤n) (hm : n≤9223372036854775807) : ev LI TT 51 [.row .af 8 (l.map (cE .af)),.int .i64 n] = some (.int .i64 (ay n (wL bX l)),[.dead,.dead]):=by
 rw [av (b:=qo) (rs:=[.t 4]) (n:=2) rfl rfl]
 have hl:=hb.1
 have hw : wL bX l = l.length + (l.map bX).sum:=rfl
 have ht:=aU n (wL bX l)
 obtain ⟨m,e1⟩ : ∃ m,m = n - (l.length : Int):=⟨_,rfl⟩
 have h2 : IntKind.i64.wrap (n - (l.length : Int)) = m:=by rw [e1]; exact bV (by omega) (by omega)
 by_cases h : m < 0
 ·have ef : ay n (wL bX l) = -1:=by omega
  simp -implicitDefEqProofs [qo,h2,h,ef]
 have h3:=I4  l hb.1 hb m (by omega) (by omega)
 rw [ld _ _ _ (by omega)] at h3
 have hs:=aU m (l.map bX).sum
 obtain ⟨q,e2⟩ : ∃ q,q = ay m (l.map bX).sum:=⟨_,rfl⟩
 rw [← e2] at h3 hs
 try simp at h3
 by_cases h4 : q < 0
 ·have ef : ay n (wL bX l) = -1:=by omega
  simp only [h4,if_true] at h3
  simp -implicitDefEqProofs [qo,h2,h,h3,ef]
 have ef : ay n (wL bX l) = q:=by omega
 simp only [h4,if_false] at h3
 simp -implicitDefEqProofs [qo,h2,h,h3,ef]
 all_goals (repeat' split) <;> first | rfl | omega | (simp_all; done) | (simp_all; omega) | skip
theorem Jd (l : List Se) (hlen : l.length≤1048576) (hb : wL bX l≤1048576) : aF (ai (ev LI TT) (aj TT) tW) [(0,.row .af 8 (l.map (cE .af))),(3,.row .own 8 (cL (l.map (cE .own)) 0 [.int .i64 0,.str ⟨#[]⟩,.row .own 2 [],.str ⟨#[]⟩,.int .i64 0,.row .own 2 [],.str ⟨#[]⟩,.int .i64 0])),(4,.int .i64 0),(6,.int .i64 l.length)] = some (.exit 0,[(0,.row .af 8 (l.map (cE .af))),(3,.row .own 8 (l.map (cE .own))),(4,.int .i64 (l).length),(6,.int .i64 l.length),(11,.bool false)]):=by
 refine jc (f:=ai (ev LI TT) (aj TT) tW) (l) (fun i=>[(0,.row .af 8 (l.map (cE .af))),(3,.row .own 8 (cL (l.map (cE .own)) i [.int .i64 0,.str ⟨#[]⟩,.row .own 2 [],.str ⟨#[]⟩,.int .i64 0,.row .own 2 [],.str ⟨#[]⟩,.int .i64 0])),(4,.int .i64 i),(6,.int .i64 l.length)]) _ (fun i b hi hl=>?_) ?_
 ·have hw:=aL i (by first | omega | (simp at hl; omega))
  obtain ⟨_,rfl⟩:=List.getElem?_eq_some_iff.1 hi
  have h:=Li  l[i] (Nat.le_trans (dz (List.getElem_mem hl)) hb)
  try simp at h
  simp -implicitDefEqProofs [tW,Cu,hl,hw,h]
  first | done | (rw [eP _ _ _ _ (by simpa using hl) (by simp)]; done) | (simp only [kV]; rw [eP _ _ _ _ (by simpa using hl) (by simp)])
 ·simp -implicitDefEqProofs [tW,Cu]
theorem Lj (l : List Se) (hb : wL bX l≤1048576) : ev LI TT 58 [.row .af 8 (l.map (cE .af))] = some (.row .own 8 (l.map (cE .own)),[.dead]):=by
 rw [av (b:=yg) (rs:=[.t 2]) (n:=1) rfl rfl]
 have hlen:=aK (w:=bX) l
 have h:=Jd  l (by omega) hb
 try simp at h
 simp -implicitDefEqProofs [yg,h,(by omega : (l.length : Int) * 120≤140737488355328)]
 all_goals (repeat' split) <;> first | rfl | omega | (simp_all; done) | (simp_all; omega) | skip
theorem IW (ps : List (Se×Se)) (hb : ps.length≤9223372036854775807) (cS : ∀ x∈ps,bX x.1≤1073741824) : aF (ai (ev LI TT) (aj TT) tD) [(0,.row .af 8 (ps.map (fun x : Se×Se=>(cE .af) x.1))),(1,.row .af 8 (ps.map (fun x : Se×Se=>(cE .af) x.2))),(5,.int .i64 0)] = if aI bM (ps) = true then some (.exit 0,[(0,.row .af 8 (ps.map (fun x : Se×Se=>(cE .af) x.1))),(1,.row .af 8 (ps.map (fun x : Se×Se=>(cE .af) x.2))),(5,.int .i64 ps.length),(14,.bool false)]) else some (.ret,[(4,.bool false)]):=by
 refine cq (f:=ai (ev LI TT) (aj TT) tD) (ps) (fun i=>[(0,.row .af 8 (ps.map (fun x : Se×Se=>(cE .af) x.1))),(1,.row .af 8 (ps.map (fun x : Se×Se=>(cE .af) x.2))),(5,.int .i64 i)]) bM _ _ (fun i b hi hl=>?_) ?_
 ·have hw:=aL i (by first | omega | (simp at hl; omega))
  obtain ⟨_,rfl⟩:=List.getElem?_eq_some_iff.1 hi
  have h:=KK  (ps[i]).1 (ps[i]).2 (cS _ (List.getElem_mem hl)); try simp at h
  simp -implicitDefEqProofs [tD,Cd,hl,hw,bM,h]
 ·simp -implicitDefEqProofs [tD,Cd]
theorem KL (a b : List Se) (hb : wL bX a≤1073741824) : ev LI TT 63 [.row .af 8 (a.map (cE .af)),.row .af 8 (b.map (cE .af))] = some (.bool (decide (a = b)),[.dead,.dead]):=by
 rw [av (b:=xP) (rs:=[.t 4]) (n:=2) rfl rfl]
 simp -implicitDefEqProofs [xP]
 have hlen:=aK (w:=bX) a
 by_cases h : a.length = b.length
 ·obtain ⟨ps,rfl,rfl⟩:=iJ h
  have h1:=IW  ps (by simp at hlen; omega) (fun x hx=>Nat.le_trans (dz (List.mem_map_of_mem hx)) hb)
  have h2:=hU ps
  simp at h1
  rw [← h2]
  cases h3 : aI bM ps <;> rw [h3] at h1 <;> simp [h1,Function.comp_def]
 ·have : ¬ a = b:=fun e=>h (by rw [e])
  simp [this]
  omega
theorem KZ (a : Rp) (n : Int) (hb : oR a) (hn : 0≤n) (hm : n≤9223372036854775807) : ev LI TT 136 [.agg ((bK .af) a),.int .i64 n] = some (.int .i64 (ay n (bx a)),[.dead,.dead]):=by
 rw [av (b:=n8) (rs:=[.t 4]) (n:=2) rfl rfl]
 have hw : bx a = bh a.q + bk a.resp + bA a.obj:=rfl
 have ht:=aU n (bx a)
 have c1:=Ag  a.q n hb.p6 (by omega) (by omega)
 have s1:=aU n (bh a.q)
 obtain ⟨m1,e1⟩ : ∃ m,m = ay n (bh a.q):=⟨_,rfl⟩
 rw [← e1] at c1 s1
 try simp at c1
 by_cases h1 : m1 < 0
 ·have ef : ay n (bx a) = -1:=by omega
  simp -implicitDefEqProofs [n8,c1,h1,ef]
 have c2:=Ah  a.resp m1 hb.p7 (by omega) (by omega)
 have s2:=aU m1 (bk a.resp)
 obtain ⟨m2,e2⟩ : ∃ m,m = ay m1 (bk a.resp):=⟨_,rfl⟩
 rw [← e2] at c2 s2
 try simp at c2
 by_cases h2 : m2 < 0
 ·have ef : ay n (bx a) = -1:=by omega
  simp -implicitDefEqProofs [n8,c1,h1,c2,h2,ef]
 have c3:=Af  a.obj m2 hb.tj (by omega) (by omega)
 have s3:=aU m2 (bA a.obj)
 obtain ⟨m3,e3⟩ : ∃ m,m = ay m2 (bA a.obj):=⟨_,rfl⟩
 rw [← e3] at c3 s3
 try simp at c3
 by_cases h3 : m3 < 0
 ·have ef : ay n (bx a) = -1:=by omega
  simp -implicitDefEqProofs [n8,c1,h1,c2,h2,c3,h3,ef]
 have ef : ay n (bx a) = m3:=by omega
 simp -implicitDefEqProofs [n8,c1,h1,c2,h2,c3,h3,ef]
 all_goals (repeat' split) <;> first | rfl | omega | (simp_all; done) | (simp_all; omega) | skip
theorem Lg (a : Rp) (hb : bx a≤1048576) : ev LI TT 142 [.agg ((bK .af) a)] = some (.agg ((bK .own) a),[.dead]):=by
 rw [av (b:=yd) (rs:=[.c 2 18 true 104]) (n:=1) rfl rfl]
 have hw : bx a = bh a.q + bk a.resp + bA a.obj:=rfl
 have h1:=Ak  a.q (by omega)
 try simp at h1
 have h2:=Al  a.resp (by omega)
 try simp at h2
 have h3:=Aj  a.obj (by omega)
 try simp at h3
 simp -implicitDefEqProofs [yd,h1,h2,h3,hw]
 all_goals (repeat' split) <;> first | rfl | omega | (simp_all; done) | (simp_all; omega) | skip
theorem KI (a b : Rp) (hb : bx a≤1073741824) : ev LI TT 148 [.agg ((bK .af) a),.agg ((bK .af) b)] = some (.bool (decide (a = b)),[.dead,.dead]):=by
 rw [av (b:=jb) (rs:=[.t 4]) (n:=2) rfl rfl]
 have hw : bx a = bh a.q + bk a.resp + bA a.obj:=rfl
 rw [Mu]
 by_cases g1 : a.client = b.client
 rotate_left
 ·simp -implicitDefEqProofs [jb,eq_false g1]
 have c2:=Ab  a.q b.q (by omega)
 cases g2 : decide (a.q = b.q)
 ·rw [g2] at c2
  try simp at c2
  simp -implicitDefEqProofs [jb,eq_true g1,c2]
 rw [g2] at c2
 try simp at c2
 have c3:=Ac  a.resp b.resp (by omega)
 cases g3 : decide (a.resp = b.resp)
 ·rw [g3] at c3
  try simp at c3
  simp -implicitDefEqProofs [jb,eq_true g1,c2,c3]
 rw [g3] at c3
 try simp at c3
 by_cases g4 : a.kind = b.kind
 rotate_left
 ·simp -implicitDefEqProofs [jb,eq_true g1,c2,c3,eq_false g4]
 by_cases g5 : a.t = b.t
 rotate_left
 ·simp -implicitDefEqProofs [jb,eq_true g1,c2,c3,eq_true g4,eq_false g5]
 have c6:=Aa  a.obj b.obj (by omega)
 cases g6 : decide (a.obj = b.obj)
 ·rw [g6] at c6
  try simp at c6
  simp -implicitDefEqProofs [jb,eq_true g1,c2,c3,eq_true g4,eq_true g5,c6]
 rw [g6] at c6
 try simp at c6
 by_cases g7 : a.aX = b.aX
 rotate_left
 ·simp -implicitDefEqProofs [jb,eq_true g1,c2,c3,eq_true g4,eq_true g5,c6,eq_false g7]
 simp -implicitDefEqProofs [jb,eq_true g1,c2,c3,eq_true g4,eq_true g5,c6,eq_true g7]
 all_goals (repeat' split) <;> first | rfl | omega | (simp_all; done) | (simp_all; omega) | skip
theorem I3 (l : List Rp) (hlen : l.length≤9223372036854775807) (hb : bL oR l) (n : Int) (hn : 0≤n) (hm : n≤9223372036854775807) : aF (ai (ev LI TT) (aj TT) tM) [(0,.row .af 18 (l.map (bK .af))),(1,.int .i64 n),(5,.int .i64 0)] = if cY (fun b n=>ay n (bx b)) (l) n < 0 then some (.ret,[(4,.int .i64 (-1))]) else some (.exit 0,[(0,.row .af 18 (l.map (bK .af))),(1,.int .i64 (cY (fun b n=>ay n (bx b)) (l) n)),(5,.int .i64 (l).length),(15,.bool false)]):=by
 refine mI (f:=ai (ev LI TT) (aj TT) tM) (l) (fun i n=>[(0,.row .af 18 (l.map (bK .af))),(1,.int .i64 n),(5,.int .i64 i)]) (fun b n=>ay n (bx b)) _ (fun n=>[(0,.row .af 18 (l.map (bK .af))),(1,.int .i64 n),(5,.int .i64 (l).length),(15,.bool false)]) n hn hm (fun b n=>mU _ n) (fun i b n hi hl hn hm=>?_) (fun n=>?_)
 ·have hw:=aL i (by first | omega | (simp at hl; omega))
  obtain ⟨_,rfl⟩:=List.getElem?_eq_some_iff.1 hi
  have h2:=KZ  l[i] n (hb.2 _ (List.getElem_mem hl)) hn hm
  obtain ⟨m,e1⟩ : ∃ m,m = ay n (bx l[i]):=⟨_,rfl⟩
  rw [← e1] at h2 ⊢
  try simp at h2
  simp -implicitDefEqProofs [tM,Ck,hl,hw,h2]
 ·simp -implicitDefEqProofs [tM,Ck]
theorem K0 (l : List Rp) (n : Int) (hb : bL oR l) (hn : 0≤n) (hm : n≤9223372036854775807) : ev LI TT 52 [.row .af 18 (l.map (bK .af)),.int .i64 n] = some (.int .i64 (ay n (wL bx l)),[.dead,.dead]):=by
 rw [av (b:=qm) (rs:=[.t 4]) (n:=2) rfl rfl]
 have hl:=hb.1
 have hw : wL bx l = l.length + (l.map bx).sum:=rfl
 have ht:=aU n (wL bx l)
 obtain ⟨m,e1⟩ : ∃ m,m = n - (l.length : Int):=⟨_,rfl⟩
 have h2 : IntKind.i64.wrap (n - (l.length : Int)) = m:=by rw [e1]; exact bV (by omega) (by omega)
 by_cases h : m < 0
 ·have ef : ay n (wL bx l) = -1:=by omega
  simp -implicitDefEqProofs [qm,h2,h,ef]
 have h3:=I3  l hb.1 hb m (by omega) (by omega)
 rw [ld _ _ _ (by omega)] at h3
 have hs:=aU m (l.map bx).sum
 obtain ⟨q,e2⟩ : ∃ q,q = ay m (l.map bx).sum:=⟨_,rfl⟩
 rw [← e2] at h3 hs
 try simp at h3
 by_cases h4 : q < 0
 ·have ef : ay n (wL bx l) = -1:=by omega
  simp only [h4,if_true] at h3
  simp -implicitDefEqProofs [qm,h2,h,h3,ef]
 have ef : ay n (wL bx l) = q:=by omega
 simp only [h4,if_false] at h3
 simp -implicitDefEqProofs [qm,h2,h,h3,ef]
 all_goals (repeat' split) <;> first | rfl | omega | (simp_all; done) | (simp_all; omega) | skip
theorem Jc (l : List Rp) (hlen : l.length≤1048576) (hb : wL bx l≤1048576) : aF (ai (ev LI TT) (aj TT) tV) [(0,.row .af 18 (l.map (bK .af))),(3,.row .own 18 (cL (l.map (bK .own)) 0 [.int .i64 0,.int .i64 0,.str ⟨#[]⟩,.row .own 2 [],.str ⟨#[]⟩,.int .i64 0,.row .own 2 [],.str ⟨#[]⟩,.int .i64 0,.int .i64 0,.str ⟨#[]⟩,.row .own 1 [],.row .own 1 [],.int .i64 0,.row .own 2 [],.str ⟨#[]⟩,.int .i64 0,.int .i64 0])),(4,.int .i64 0),(6,.int .i64 l.length)] = some (.exit 0,[(0,.row .af 18 (l.map (bK .af))),(3,.row .own 18 (l.map (bK .own))),(4,.int .i64 (l).length),(6,.int .i64 l.length),(11,.bool false)]):=by
 refine jc (f:=ai (ev LI TT) (aj TT) tV) (l) (fun i=>[(0,.row .af 18 (l.map (bK .af))),(3,.row .own 18 (cL (l.map (bK .own)) i [.int .i64 0,.int .i64 0,.str ⟨#[]⟩,.row .own 2 [],.str ⟨#[]⟩,.int .i64 0,.row .own 2 [],.str ⟨#[]⟩,.int .i64 0,.int .i64 0,.str ⟨#[]⟩,.row .own 1 [],.row .own 1 [],.int .i64 0,.row .own 2 [],.str ⟨#[]⟩,.int .i64 0,.int .i64 0])),(4,.int .i64 i),(6,.int .i64 l.length)]) _ (fun i b hi hl=>?_) ?_
 ·have hw:=aL i (by first | omega | (simp at hl; omega))
  obtain ⟨_,rfl⟩:=List.getElem?_eq_some_iff.1 hi
  have h:=Lg  l[i] (Nat.le_trans (dz (List.getElem_mem hl)) hb)
  try simp at h
  simp -implicitDefEqProofs [tV,Ct,hl,hw,h]
  first | done | (rw [eP _ _ _ _ (by simpa using hl) (by simp)]; done) | (simp only [kV]; rw [eP _ _ _ _ (by simpa using hl) (by simp)])
 ·simp -implicitDefEqProofs [tV,Ct]
theorem Lh (l : List Rp) (hb : wL bx l≤1048576) : ev LI TT 59 [.row .af 18 (l.map (bK .af))] = some (.row .own 18 (l.map (bK .own)),[.dead]):=by
 rw [av (b:=yc) (rs:=[.t 2]) (n:=1) rfl rfl]
 have hlen:=aK (w:=bx) l
 have h:=Jc  l (by omega) hb
 try simp at h
 simp -implicitDefEqProofs [yc,h,(by omega : (l.length : Int) * 264≤140737488355328)]
 all_goals (repeat' split) <;> first | rfl | omega | (simp_all; done) | (simp_all; omega) | skip
theorem IV (ps : List (Rp×Rp)) (hb : ps.length≤9223372036854775807) (cS : ∀ x∈ps,bx x.1≤1073741824) : aF (ai (ev LI TT) (aj TT) tC) [(0,.row .af 18 (ps.map (fun x : Rp×Rp=>(bK .af) x.1))),(1,.row .af 18 (ps.map (fun x : Rp×Rp=>(bK .af) x.2))),(5,.int .i64 0)] = if aI bM (ps) = true then some (.exit 0,[(0,.row .af 18 (ps.map (fun x : Rp×Rp=>(bK .af) x.1))),(1,.row .af 18 (ps.map (fun x : Rp×Rp=>(bK .af) x.2))),(5,.int .i64 ps.length),(14,.bool false)]) else some (.ret,[(4,.bool false)]):=by
 refine cq (f:=ai (ev LI TT) (aj TT) tC) (ps) (fun i=>[(0,.row .af 18 (ps.map (fun x : Rp×Rp=>(bK .af) x.1))),(1,.row .af 18 (ps.map (fun x : Rp×Rp=>(bK .af) x.2))),(5,.int .i64 i)]) bM _ _ (fun i b hi hl=>?_) ?_
 ·have hw:=aL i (by first | omega | (simp at hl; omega))
  obtain ⟨_,rfl⟩:=List.getElem?_eq_some_iff.1 hi
  have h:=KI  (ps[i]).1 (ps[i]).2 (cS _ (List.getElem_mem hl)); try simp at h
  simp -implicitDefEqProofs [tC,Cb,hl,hw,bM,h]
 ·simp -implicitDefEqProofs [tC,Cb]
theorem KJ (a b : List Rp) (hb : wL bx a≤1073741824) : ev LI TT 64 [.row .af 18 (a.map (bK .af)),.row .af 18 (b.map (bK .af))] = some (.bool (decide (a = b)),[.dead,.dead]):=by
 rw [av (b:=xO) (rs:=[.t 4]) (n:=2) rfl rfl]
 simp -implicitDefEqProofs [xO]
 have hlen:=aK (w:=bx) a
 by_cases h : a.length = b.length
 ·obtain ⟨ps,rfl,rfl⟩:=iJ h
  have h1:=IV  ps (by simp at hlen; omega) (fun x hx=>Nat.le_trans (dz (List.mem_map_of_mem hx)) hb)
  have h2:=hU ps
  simp at h1
  rw [← h2]
  cases h3 : aI bM ps <;> rw [h3] at h1 <;> simp [h1,Function.comp_def]
 ·have : ¬ a = b:=fun e=>h (by rw [e])
  simp [this]
  omega
theorem KR (a : Ca) (n : Int) (hb : lG a) (hn : 0≤n) (hm : n≤9223372036854775807) : ev LI TT 11 [.agg ((bZ .af) a),.int .i64 n] = some (.int .i64 (ay n (bU a)),[.dead,.dead]):=by
 rw [av (b:=mG) (rs:=[.t 4]) (n:=2) rfl rfl]
 have hw : bU a = cv a.cz + wL bE a.aT + wL bX a.seen + wL bx a.sent:=rfl
 have ht:=aU n (bU a)
 have c1:=K3  a.cz n hb.Rn (by omega) (by omega)
 have s1:=aU n (cv a.cz)
 obtain ⟨m1,e1⟩ : ∃ m,m = ay n (cv a.cz):=⟨_,rfl⟩
 rw [← e1] at c1 s1
 try simp at c1
 by_cases h1 : m1 < 0
 ·have ef : ay n (bU a) = -1:=by omega
  simp -implicitDefEqProofs [mG,c1,h1,ef]
 have c2:=KV  a.aT m1 hb.Rf (by omega) (by omega)
 have s2:=aU m1 (wL bE a.aT)
 obtain ⟨m2,e2⟩ : ∃ m,m = ay m1 (wL bE a.aT):=⟨_,rfl⟩
 rw [← e2] at c2 s2
 try simp at c2
 by_cases h2 : m2 < 0
 ·have ef : ay n (bU a) = -1:=by omega
  simp -implicitDefEqProofs [mG,c1,h1,c2,h2,ef]
 have c3:=K2  a.seen m2 hb.Rl (by omega) (by omega)
 have s3:=aU m2 (wL bX a.seen)
 obtain ⟨m3,e3⟩ : ∃ m,m = ay m2 (wL bX a.seen):=⟨_,rfl⟩
 rw [← e3] at c3 s3
 try simp at c3
 by_cases h3 : m3 < 0
 ·have ef : ay n (bU a) = -1:=by omega
  simp -implicitDefEqProofs [mG,c1,h1,c2,h2,c3,h3,ef]
 have c4:=K0  a.sent m3 hb.B1 (by omega) (by omega)
 have s4:=aU m3 (wL bx a.sent)
 obtain ⟨m4,e4⟩ : ∃ m,m = ay m3 (wL bx a.sent):=⟨_,rfl⟩
 rw [← e4] at c4 s4
 try simp at c4
 by_cases h4 : m4 < 0
 ·have ef : ay n (bU a) = -1:=by omega
  simp -implicitDefEqProofs [mG,c1,h1,c2,h2,c3,h3,c4,h4,ef]
 have ef : ay n (bU a) = m4:=by omega
 simp -implicitDefEqProofs [mG,c1,h1,c2,h2,c3,h3,c4,h4,ef]
 all_goals (repeat' split) <;> first | rfl | omega | (simp_all; done) | (simp_all; omega) | skip
theorem K8 (a : Ca) (hb : bU a≤1048576) : ev LI TT 13 [.agg ((bZ .af) a)] = some (.agg ((bZ .own) a),[.dead]):=by
 rw [av (b:=xV) (rs:=[.c 2 10 true 48]) (n:=1) rfl rfl]
 have hw : bU a = cv a.cz + wL bE a.aT + wL bX a.seen + wL bx a.sent:=rfl
 have h1:=Ll  a.cz (by omega)
 try simp at h1
 have h2:=Lc  a.aT (by omega)
 try simp at h2
 have h3:=Lj  a.seen (by omega)
 try simp at h3
 have h4:=Lh  a.sent (by omega)
 try simp at h4
 simp -implicitDefEqProofs [xV,h1,h2,h3,h4,hw]
 all_goals (repeat' split) <;> first | rfl | omega | (simp_all; done) | (simp_all; omega) | skip
theorem KA (a b : Ca) (hb : bU a≤1073741824) : ev LI TT 15 [.agg ((bZ .af) a),.agg ((bZ .af) b)] = some (.bool (decide (a = b)),[.dead,.dead]):=by
 rw [av (b:=kQ) (rs:=[.t 4]) (n:=2) rfl rfl]
 have hw : bU a = cv a.cz + wL bE a.aT + wL bX a.seen + wL bx a.sent:=rfl
 rw [Mo]
 have c1:=KM  a.cz b.cz (by omega)
 cases g1 : decide (a.cz = b.cz)
 ·rw [g1] at c1
  try simp at c1
  simp -implicitDefEqProofs [kQ,c1]
 rw [g1] at c1
 try simp at c1
 have c2:=KE  a.aT b.aT (by omega)
 cases g2 : decide (a.aT = b.aT)
 ·rw [g2] at c2
  try simp at c2
  simp -implicitDefEqProofs [kQ,c1,c2]
 rw [g2] at c2
 try simp at c2
 by_cases g3 : a.now = b.now
 rotate_left
 ·simp -implicitDefEqProofs [kQ,c1,c2,eq_false g3]
 have c4:=KL  a.seen b.seen (by omega)
 cases g4 : decide (a.seen = b.seen)
 ·rw [g4] at c4
  try simp at c4
  simp -implicitDefEqProofs [kQ,c1,c2,eq_true g3,c4]
 rw [g4] at c4
 try simp at c4
 have c5:=KJ  a.sent b.sent (by omega)
 cases g5 : decide (a.sent = b.sent)
 ·rw [g5] at c5
  try simp at c5
  simp -implicitDefEqProofs [kQ,c1,c2,eq_true g3,c4,c5]
 rw [g5] at c5
 try simp at c5
 simp -implicitDefEqProofs [kQ,c1,c2,eq_true g3,c4,c5]
 all_goals (repeat' split) <;> first | rfl | omega | (simp_all; done) | (simp_all; omega) | skip
end M
namespace M
open Go
@[simp] theorem XB (x : Int) (lo : Int) (hi : Int) : ev LI TT 137 [.int .i64 x,.int .i64 lo,.int .i64 hi] = some (.bool ((decide (lo≤x∧x≤hi))),[.dead,.dead,.dead]):=by
 rw [av (b:=za) (rs:=[.t 6]) (n:=3) rfl rfl]
 simp -implicitDefEqProofs [za]
 try (by_cases h1 : lo≤x <;> by_cases h2 : x≤hi <;> simp [h1,h2])
@[simp] theorem Xw (x : Int) (lo : Int) (hi : Int) : ev LI TT 180 [.int .i64 x,.int .i64 lo,.int .i64 hi] = some (.bool ((decide (lo≤x∧x≤hi))),[.dead,.dead,.dead]):=by
 rw [av (b:=xx) (rs:=[.t 6]) (n:=3) rfl rfl]
 simp -implicitDefEqProofs [xx]
 try (by_cases h1 : lo≤x <;> by_cases h2 : x≤hi <;> simp [h1,h2])
theorem Jx (s : ah) (hb : s.length≤9223372036854775807) : aF (ai (ev LI TT) (aj TT) uO) [(0,.str ⟨s.toArray⟩),(3,.int .i64 0)] = if aI oJ (s) = true then some (.exit 0,[(0,.str ⟨s.toArray⟩),(3,.int .i64 (s).length),(8,.bool false)]) else some (.ret,[(2,.bool false)]):=by
 refine cq (f:=ai (ev LI TT) (aj TT) uO) (s) (fun i=>[(0,.str ⟨s.toArray⟩),(3,.int .i64 i)]) oJ _ _ (fun i b hi hl=>?_) ?_
 ·have hw:=aL i (by first | omega | (simp at hl; omega))
  obtain ⟨_,rfl⟩:=List.getElem?_eq_some_iff.1 hi
  unfold oJ
  simp -implicitDefEqProofs [uO,C9,hl,hw]
  all_goals (repeat' split) <;> first | rfl | omega | (simp_all; done) | (simp_all; omega) | skip
 ·simp -implicitDefEqProofs [uO,C9]
theorem Ap (s : ah) (hb : s.length≤9223372036854775807) : ev LI TT 184 [.str ⟨s.toArray⟩] = some (.bool ((eH s)),[.dead]):=by
 rw [av (b:=yX) (rs:=[.t 2]) (n:=1) rfl rfl]
 unfold eH
 have u1:=Jx  s hb
 try simp at u1
 simp -implicitDefEqProofs [yX,u1]
 all_goals (repeat' split) <;> first | rfl | omega | (simp_all; done) | (simp_all; omega) | skip
theorem IC (s : ah) (hb : s.length≤9223372036854775807) : aF (ai (ev LI TT) (aj TT) s5) [(0,.str ⟨s.toArray⟩),(3,.int .i64 0)] = if aI oJ (s) = true then some (.exit 0,[(0,.str ⟨s.toArray⟩),(3,.int .i64 (s).length),(7,.bool false)]) else some (.ret,[(2,.bool false)]):=by
 refine cq (f:=ai (ev LI TT) (aj TT) s5) (s) (fun i=>[(0,.str ⟨s.toArray⟩),(3,.int .i64 i)]) oJ _ _ (fun i b hi hl=>?_) ?_
 ·have hw:=aL i (by first | omega | (simp at hl; omega))
  obtain ⟨_,rfl⟩:=List.getElem?_eq_some_iff.1 hi
  unfold oJ
  simp -implicitDefEqProofs [s5,BL,hl,hw]
  all_goals (repeat' split) <;> first | rfl | omega | (simp_all; done) | (simp_all; omega) | skip
 ·simp -implicitDefEqProofs [s5,BL]
theorem zZ (s : ah) (hb : s.length≤9223372036854775807) : ev LI TT 260 [.str ⟨s.toArray⟩] = some (.bool ((eH s)),[.dead]):=by
 rw [av (b:=xj) (rs:=[.t 2]) (n:=1) rfl rfl]
 unfold eH
 have u1:=IC  s hb
 try simp at u1
 simp -implicitDefEqProofs [xj,u1]
 all_goals (repeat' split) <;> first | rfl | omega | (simp_all; done) | (simp_all; omega) | skip
theorem IF (s : ah) (lo : UInt8) (hb : s.length≤9223372036854775807) : aF (ai (ev LI TT) (aj TT) s8) [(0,.str ⟨s.toArray⟩),(1,.int .u8 (lo.toNat : Int)),(5,.int .i64 0)] = if aI (gd lo.toNat) (s) = true then some (.exit 0,[(0,.str ⟨s.toArray⟩),(1,.int .u8 (lo.toNat : Int)),(5,.int .i64 (s).length),(9,.bool false)]) else some (.ret,[(4,.bool false)]):=by
 refine cq (f:=ai (ev LI TT) (aj TT) s8) (s) (fun i=>[(0,.str ⟨s.toArray⟩),(1,.int .u8 (lo.toNat : Int)),(5,.int .i64 i)]) (gd lo.toNat) _ _ (fun i b hi hl=>?_) ?_
 ·have hw:=aL i (by first | omega | (simp at hl; omega))
  obtain ⟨_,rfl⟩:=List.getElem?_eq_some_iff.1 hi
  unfold gd
  simp -implicitDefEqProofs [s8,BO,hl,hw]
  all_goals (repeat' split) <;> first | rfl | omega | (simp_all; done) | (simp_all; omega) | skip
 ·simp -implicitDefEqProofs [s8,BO]
theorem Ej (s : ah) (lo : UInt8) (hb : s.length≤9223372036854775807) : ev LI TT 305 [.str ⟨s.toArray⟩,.int .u8 (lo.toNat : Int)] = some (.bool ((aI (gd lo.toNat) s)),[.dead,.dead]):=by
 rw [av (b:=xo) (rs:=[.t 4]) (n:=2) rfl rfl]
 have u1:=IF  s lo hb
 try simp at u1
 simp -implicitDefEqProofs [xo,u1]
 all_goals (repeat' split) <;> first | rfl | omega | (simp_all; done) | (simp_all; omega) | skip
end M
namespace M
open Go
def dB (b : UInt8) : Bool:=decide ¬ (b.toNat : Int) = 32
theorem Jy (s : ah) (hb : s.length≤9223372036854775807) : aF (ai (ev LI TT) (aj TT) uP) [(0,.str ⟨s.toArray⟩),(3,.int .i64 0),(4,.int .i64 s.length)] = some (.exit 0,(fun (i : Nat)=>[(0,.str ⟨s.toArray⟩),(3,.int .i64 i),(4,.int .i64 s.length),(15,.bool false)]) (cR dB (s))):=by
 refine GG (f:=ai (ev LI TT) (aj TT) uP) (s) (fun i=>[(0,.str ⟨s.toArray⟩),(3,.int .i64 i),(4,.int .i64 s.length)]) dB (fun (i : Nat)=>[(0,.str ⟨s.toArray⟩),(3,.int .i64 i),(4,.int .i64 s.length),(15,.bool false)]) (fun i b hi hl=>?_) ?_
 ·have hw:=aL i (by first | omega | (simp at hl; omega))
  obtain ⟨_,rfl⟩:=List.getElem?_eq_some_iff.1 hi
  simp -implicitDefEqProofs [uP,Da,hl,hw,dB]
  all_goals (repeat' split) <;> first | rfl | omega | (simp_all; done) | (simp_all; omega) | skip
 ·simp -implicitDefEqProofs [uP,Da]
theorem Jz (s : ah) (k : Nat) (hk : k≤s.length) (hb : s.length≤9223372036854775807) : aF (ai (ev LI TT) (aj TT) uQ) [(0,.str ⟨s.toArray⟩),(3,.int .i64 k),(4,.int .i64 ((s.length - 0 : Nat) : Int))] = some (.exit 2,(fun (i : Nat)=>[(0,.str ⟨s.toArray⟩),(3,.int .i64 k),(4,.int .i64 ((s.length - i : Nat) : Int)),(27,.bool false)]) (cR dB ((s.drop k).reverse))):=by
 refine GG (f:=ai (ev LI TT) (aj TT) uQ) ((s.drop k).reverse) (fun i=>[(0,.str ⟨s.toArray⟩),(3,.int .i64 k),(4,.int .i64 ((s.length - i : Nat) : Int))]) dB (fun (i : Nat)=>[(0,.str ⟨s.toArray⟩),(3,.int .i64 k),(4,.int .i64 ((s.length - i : Nat) : Int)),(27,.bool false)]) (fun i b hi hl=>?_) ?_
 ·have hw:=aL i (by first | omega | (simp at hl; omega))
  obtain ⟨_,rfl⟩:=List.getElem?_eq_some_iff.1 hi
  simp at hl
  obtain ⟨m,hm⟩ : ∃ m,s.length - i = m + 1:=⟨s.length - i - 1,by omega⟩
  have e1 : s.length - (i + 1) = m:=by omega
  have e2 : IntKind.i64.wrap (m : Int) = m:=bV (by omega) (by omega)
  have e3 : m < s.length:=by omega
  have e4 : ((s.drop k).reverse)[i] = s[m]:=by simp; congr 1; omega
  have e5 : (k : Int) < (m : Int) + 1:=by omega
  rw [e4,hm,e1]
  simp -implicitDefEqProofs [uQ,Db,hl,hw,dB,e2,e3,e5]
  try (rw [List.getElem?_eq_getElem e3]; simp [e2])
  all_goals (repeat' split) <;> first | rfl | omega | (simp_all; done) | (simp_all; omega) | skip
 ·simp only [List.length_reverse,List.length_drop,show s.length - (s.length - k) = k by omega]
  simp -implicitDefEqProofs [uQ,Db]
end M
namespace M
open Go
theorem GP (b : UInt8) : dB b = true↔b≠32:=by
 unfold dB
 have : ((b.toNat : Int) = 32)↔b = 32:=by
  constructor
  ·intro h; exact UInt8.toNat_inj.1 (by have e : (32 : UInt8).toNat = 32:=rfl; omega)
  ·rintro rfl; rfl
 simp [this]
theorem HT (s : ah) : Lib.trimLeftB s 32 = s.drop (cR dB s):=by
 refine Lib.trimLeftB_drop s 32 _ (zC _ _) (fun j b hj hb=>?_) fun b hb=>(GP b).1 (H6 _ _ _ hb)
 have:=H7 _ _ _ _ hj hb
 by_cases h : b = 32
 ·exact h
 ·rw [(GP b).2 h] at this; cases this
theorem WO (s : ah) : Lib.trimRightB s 32 = s.take (s.length - cR dB s.reverse):=by
 have h:=HT s.reverse
 unfold Lib.trimLeftB at h
 unfold Lib.trimRightB
 rw [h,List.drop_reverse,List.reverse_reverse]
theorem WQ (s : ah) : (s.drop (cR dB s)).take (s.length - cR dB (s.drop (cR dB s)).reverse - cR dB s) = dL s:=by
 rw [WR,HT,WO,List.length_drop]
 congr 1
 omega
theorem Aq (s : ah) (hb : s.length≤9223372036854775807) : ev LI TT 264 [.str ⟨s.toArray⟩] = some (.str ⟨(dL s).toArray⟩,[.dead]):=by
 rw [av (b:=yY) (rs:=[.t 2]) (n:=1) rfl rfl]
 have h1:=zC dB s
 have h2:=zC dB (s.drop (cR dB s)).reverse
 simp only [List.length_reverse,List.length_drop] at h2
 have h3:=WQ s
 have u1:=Jy  s hb
 try simp at u1
 have u2:=Jz  s (cR dB s) (zC _ _) hb
 try simp at u2
 simp -implicitDefEqProofs [yY,u1,u2,(by omega : (cR dB s : Int)≤((s.length - cR dB (s.drop (cR dB s)).reverse : Nat) : Int)),(by omega : ((s.length - cR dB (s.drop (cR dB s)).reverse : Nat) : Int)≤s.length),Lib.extract_mk,h3]
 all_goals (repeat' split) <;> first | rfl | omega | (simp_all; done) | (simp_all; omega) | skip
theorem Ei (s : ah) (hb : s.length≤9223372036854775807) : ev LI TT 306 [.str ⟨s.toArray⟩] = some (.str ⟨(dL s).toArray⟩,[.dead]):=by
 rw [av (b:=xk) (rs:=[.t 2]) (n:=1) rfl rfl]
 have u1:=LY  s hb
 try simp at u1
 simp -implicitDefEqProofs [xk,u1]
 all_goals (repeat' split) <;> first | rfl | omega | (simp_all; done) | (simp_all; omega) | skip
theorem JA (s : ah) (hb : s.length≤9223372036854775807) : aF (ai (ev LI TT) (aj TT) uR) [(0,.str ⟨s.toArray⟩),(3,.int .i64 0)] = if aI (gd 32) (s) = true then some (.exit 0,[(0,.str ⟨s.toArray⟩),(3,.int .i64 (s).length),(7,.bool false)]) else some (.ret,[(2,.bool false)]):=by
 refine cq (f:=ai (ev LI TT) (aj TT) uR) (s) (fun i=>[(0,.str ⟨s.toArray⟩),(3,.int .i64 i)]) (gd 32) _ _ (fun i b hi hl=>?_) ?_
 ·have hw:=aL i (by first | omega | (simp at hl; omega))
  obtain ⟨_,rfl⟩:=List.getElem?_eq_some_iff.1 hi
  unfold gd
  simp -implicitDefEqProofs [uR,Dc,hl,hw]
  all_goals (repeat' split) <;> first | rfl | omega | (simp_all; done) | (simp_all; omega) | skip
 ·simp -implicitDefEqProofs [uR,Dc]
theorem Ar (s : ah) (hb : s.length≤9223372036854775807) : ev LI TT 185 [.str ⟨s.toArray⟩] = some (.bool ((gF s)),[.dead]):=by
 rw [av (b:=oC) (rs:=[.t 2]) (n:=1) rfl rfl]
 unfold gF
 have u1:=JA  s hb
 try simp at u1
 have u2:=Aq  s hb
 try simp at u2
 by_cases g1 : aI (gd 32) s = true
 rotate_left
 ·simp -implicitDefEqProofs [oC,u1,u2,g1]
 by_cases g2 : 1≤(s.length : Int)
 rotate_left
 ·simp -implicitDefEqProofs [oC,u1,u2,g1,eq_false g2]
 by_cases g3 : (s.length : Int)≤60
 rotate_left
 ·simp -implicitDefEqProofs [oC,u1,u2,g1,eq_true g2,eq_false g3]
 simp -implicitDefEqProofs [oC,u1,u2,g1,eq_true g2,eq_true g3]
 all_goals (repeat' split) <;> first | rfl | omega | (simp_all; done) | (simp_all; omega) | skip
theorem z6 (s : ah) (hb : s.length≤9223372036854775807) : ev LI TT 261 [.str ⟨s.toArray⟩] = some (.bool ((gF s)),[.dead]):=by
 rw [av (b:=nU) (rs:=[.t 2]) (n:=1) rfl rfl]
 unfold gF
 have Yk : (32 : UInt8).toNat = 32:=rfl
 have u1:=Ej  s 32 hb
 try simp at u1
 have u2:=Ei  s hb
 try simp at u2
 by_cases g1 : 1≤(s.length : Int)
 rotate_left
 ·simp -implicitDefEqProofs [nU,u1,u2,eq_false g1]
 by_cases g2 : (s.length : Int)≤60
 rotate_left
 ·simp -implicitDefEqProofs [nU,u1,u2,eq_true g1,eq_false g2]
 by_cases g3 : aI (gd 32) s = true
 rotate_left
 ·simp -implicitDefEqProofs [nU,u1,u2,eq_true g1,eq_true g2,g3]
 simp -implicitDefEqProofs [nU,u1,u2,eq_true g1,eq_true g2,g3]
 all_goals (repeat' split) <;> first | rfl | omega | (simp_all; done) | (simp_all; omega) | skip
theorem JF (s : ah) (hb : s.length≤9223372036854775807) : aF (ai (ev LI TT) (aj TT) uW) [(0,.str ⟨s.toArray⟩),(3,.int .i64 0)] = if aI (gd 33) (s) = true then some (.exit 0,[(0,.str ⟨s.toArray⟩),(3,.int .i64 (s).length),(7,.bool false)]) else some (.ret,[(2,.bool false)]):=by
 refine cq (f:=ai (ev LI TT) (aj TT) uW) (s) (fun i=>[(0,.str ⟨s.toArray⟩),(3,.int .i64 i)]) (gd 33) _ _ (fun i b hi hl=>?_) ?_
 ·have hw:=aL i (by first | omega | (simp at hl; omega))
  obtain ⟨_,rfl⟩:=List.getElem?_eq_some_iff.1 hi
  unfold gd
  simp -implicitDefEqProofs [uW,Dh,hl,hw]
  all_goals (repeat' split) <;> first | rfl | omega | (simp_all; done) | (simp_all; omega) | skip
 ·simp -implicitDefEqProofs [uW,Dh]
theorem At (s : ah) (hb : s.length≤9223372036854775807) : ev LI TT 160 [.str ⟨s.toArray⟩] = some (.bool ((gb s)),[.dead]):=by
 rw [av (b:=oD) (rs:=[.t 2]) (n:=1) rfl rfl]
 unfold gb
 have u1:=JF  s hb
 try simp at u1
 by_cases g1 : aI (gd 33) s = true
 rotate_left
 ·simp -implicitDefEqProofs [oD,u1,g1]
 by_cases g2 : 1≤(s.length : Int)
 rotate_left
 ·simp -implicitDefEqProofs [oD,u1,g1,eq_false g2]
 by_cases g3 : (s.length : Int)≤60
 rotate_left
 ·simp -implicitDefEqProofs [oD,u1,g1,eq_true g2,eq_false g3]
 obtain ⟨b,hb0⟩ : ∃ b,s[0]? = some b:=⟨s[0]'(by omega),by simp⟩
 simp -implicitDefEqProofs [oD,u1,g1,eq_true g2,eq_true g3,hb0]
 all_goals (repeat' split) <;> first | rfl | omega | (simp_all; done) | (simp_all; omega) | skip
theorem z8 (s : ah) (hb : s.length≤9223372036854775807) : ev LI TT 259 [.str ⟨s.toArray⟩] = some (.bool ((gb s)),[.dead]):=by
 rw [av (b:=pX) (rs:=[.t 2]) (n:=1) rfl rfl]
 unfold gb
 have Yl : (33 : UInt8).toNat = 33:=rfl
 have u1:=Ej  s 33 hb
 try simp at u1
 by_cases g1 : 1≤(s.length : Int)
 rotate_left
 ·simp -implicitDefEqProofs [pX,u1,eq_false g1]
 by_cases g2 : (s.length : Int)≤60
 rotate_left
 ·simp -implicitDefEqProofs [pX,u1,eq_true g1,eq_false g2]
 obtain ⟨b,hb0⟩ : ∃ b,s[0]? = some b:=⟨s[0]'(by omega),by simp⟩
 by_cases P5 : (b.toNat : Int) = 47
 all_goals
 simp -implicitDefEqProofs [pX,u1,eq_true g1,eq_true g2,hb0,P5]
 all_goals (repeat' split) <;> first | rfl | omega | (simp_all; done) | (simp_all; omega) | skip
@[simp] theorem Xz (t : Int) : ev LI TT 143 [.int .i64 t] = some (.bool ((decide (0≤t∧t≤1000000))),[.dead]):=by
 rw [av (b:=xC) (rs:=[.t 2]) (n:=1) rfl rfl]
 simp -implicitDefEqProofs [xC]
 all_goals (repeat' split) <;> first | rfl | omega | (simp_all; done) | (simp_all; omega) | skip
theorem Ki (n : Int) : ev LI TT 250 [.int .i64 n] = some (.str ⟨(cJ n).toArray⟩,[.dead]):=by
 rw [av (b:=sW) (rs:=[.t 2]) (n:=1) rfl rfl]
 unfold cJ
 by_cases hn : 0≤n∧n≤1000000
 rotate_left
 ·have hf : (decide (0≤n) && decide (n≤1000000)) = false:=by simp; omega
  simp -implicitDefEqProofs [sW,hn,hf]
 obtain ⟨k,rfl⟩ : ∃ k : Nat,n = k:=⟨n.toNat,by omega⟩
 have u1:=LV  k (by omega)
 try simp at u1
 simp -implicitDefEqProofs [sW,u1,hn]
 all_goals (repeat' split) <;> first | rfl | omega | (simp_all; done) | (simp_all; omega) | skip
end M
namespace M
open Go
theorem Jn (s : ah) (hb : s.length≤1073741824) : aF (ai (ev LI TT) (aj TT) oy) [(0,.str ⟨s.toArray⟩),(3,.row .own 1 (([]).map eU)),(4,.int .i64 0)] = some (.exit 0,[(0,.str ⟨s.toArray⟩),(3,.row .own 1 ((((s).flatMap (fun b=>[jd b]))).map eU)),(4,.int .i64 (s).length),(10,.bool false)]):=by
 refine od (f:=ai (ev LI TT) (aj TT) oy) (s) (fun b=>[jd b]) (fun i out=>[(0,.str ⟨s.toArray⟩),(3,.row .own 1 ((out).map eU)),(4,.int .i64 i)]) (fun out=>[(0,.str ⟨s.toArray⟩),(3,.row .own 1 ((out).map eU)),(4,.int .i64 (s).length),(10,.bool false)]) (fun i b out hi hl hout=>?_) (fun out hout=>?_)
 ·have hw:=aL i (by first | omega | (simp at hl; omega))
  obtain ⟨_,rfl⟩:=List.getElem?_eq_some_iff.1 hi
  have hlo : out.length = i:=by rw [hout]; exact wv _ _ _ (by omega)
  have hx:=s[i].toNat_lt
  unfold jd
  by_cases h1 : 65≤(s[i]).toNat
  rotate_left
  ·have h1' : ¬ (65 : Int)≤(s[i]).toNat:=by omega
   simp -implicitDefEqProofs [oy,uJ,hl,hw,h1,h1',hlo,dj]
   omega
  by_cases h2 : (s[i]).toNat≤90
  rotate_left
  ·have h1' : (65 : Int)≤(s[i]).toNat:=by omega
   have nE : ¬ ((s[i]).toNat : Int)≤90:=by omega
   have Be : 90 < ((s[i]).toNat : Int):=by omega
   simp -implicitDefEqProofs [oy,uJ,hl,hw,h1,h1',h2,nE,Be,hlo,dj]
   omega
  have h1' : (65 : Int)≤(s[i]).toNat:=by omega
  have nE : ((s[i]).toNat : Int)≤90:=by omega
  have h3:=GH s[i] ⟨h1,h2⟩
  have h4 : IntKind.u8.wrap ((s[i]).toNat + 32) = (s[i]).toNat + 32:=Ij (by omega) (by omega)
  simp -implicitDefEqProofs [oy,uJ,hl,hw,h1,h1',h2,nE,hlo,dj,h3,h4]
  omega
 ·simp -implicitDefEqProofs [oy,uJ]
theorem Es (s : ah) (hb : s.length≤1073741824) : ev LI TT 254 [.str ⟨s.toArray⟩] = some (.str ⟨(bw s).toArray⟩,[.dead]):=by
 rw [av (b:=yR) (rs:=[.t 2]) (n:=1) rfl rfl]
 have hl : (bw s).length = s.length:=by simp [bw]
 have e : s.flatMap (fun b=>[jd b]) = bw s:=rV jd s
 have u1:=Jn  s hb
 try simp at u1
 simp -implicitDefEqProofs [yR,u1,e,hl,rowAt,(by omega : s.length≤9223372036854775807)]
 all_goals (repeat' split) <;> first | rfl | omega | (simp_all; done) | (simp_all; omega) | skip
theorem Tx (s : ah) (i : Nat) (h : i < s.length) (x : UInt8) (hx : x = jd s[i]) : (bw (s.take i) ++ s.drop i).set i x = bw (s.take (i + 1)) ++ s.drop (i + 1):=by
 subst hx
 rw [List.set_append_right _ _ (by simp [bw]; omega),List.drop_eq_getElem_cons h]
 have : i - (bw (s.take i)).length = 0:=by simp [bw]; omega
 rw [this,List.take_succ_eq_append_getElem h]
 simp only [List.set_cons_zero,bw,List.map_append,List.map_cons,List.map_nil,List.append_assoc,List.cons_append,List.nil_append]
theorem Hz (s : ah) (i : Nat) (h : i < s.length) (hx : jd s[i] = s[i]) : bw (s.take i) ++ s.drop i = bw (s.take (i + 1)) ++ s.drop (i + 1):=by
 rw [List.take_succ_eq_append_getElem h,List.drop_eq_getElem_cons h]
 simp only [bw,hx,List.map_append,List.map_cons,List.map_nil,List.append_assoc,List.cons_append,List.nil_append]
theorem ME (l : ah) (i : Nat) (x : Int) (b : UInt8) (hx : x = (b.toNat : Int)) : (l.map eU).modify i (fun e=>e.set 0 (X.int .u8 x)) = (l.set i b).map eU:=by
 subst hx
 apply List.ext_getElem?
 intro j
 rw [List.getElem?_modify,List.getElem?_map,List.getElem?_map,List.getElem?_set]
 by_cases h : i = j
 ·subst h
  by_cases h2 : i < l.length
  ·simp [h2]
  ·simp [h2,List.getElem?_eq_none (Nat.le_of_not_lt h2)]
 ·simp only [h,if_false]
  cases l[j]? <;> rfl
theorem Ix (s : ah) (hb : s.length≤1073741824) : aF (ai (ev LI TT) (aj TT) nS) [(3,.row .own 1 ((bw (s.take 0) ++ s.drop 0).map eU)),(6,.str ⟨s.toArray⟩),(8,.ref 3 []),(9,.int .i64 s.length),(10,.int .i64 0)] = some (.exit 0,[(3,.row .own 1 ((bw s).map eU)),(6,.str ⟨s.toArray⟩),(8,.ref 3 []),(9,.int .i64 s.length),(10,.int .i64 (s).length),(11,.bool false)]):=by
 refine jc (f:=ai (ev LI TT) (aj TT) nS) (s) (fun i=>[(3,.row .own 1 ((bw (s.take i) ++ s.drop i).map eU)),(6,.str ⟨s.toArray⟩),(8,.ref 3 []),(9,.int .i64 s.length),(10,.int .i64 i)]) _ (fun i b hi hl=>?_) ?_
 ·have hw:=aL i (by first | omega | (simp at hl; omega))
  obtain ⟨_,rfl⟩:=List.getElem?_eq_some_iff.1 hi
  have hk : (bw (s.take i) ++ s.drop i).length = s.length:=by simp [bw]; omega
  have hx:=s[i].toNat_lt
  have hg : (bw (s.take i) ++ s.drop i)[i]? = some s[i]:=by rw [List.getElem?_append_right (by simp [bw]; omega)]; simp [bw,Nat.min_eq_left (Nat.le_of_lt hl)]
  have hg' : ∀ h,(bw (s.take i) ++ s.drop i)[i]'h = s[i]:=fun h=>by rw [List.getElem?_eq_getElem h] at hg; exact Option.some.inj hg
  generalize hq : bw (s.take i) ++ s.drop i = q at hk hg hg' ⊢
  have nI : i < q.length:=by omega
  by_cases h1 : 65≤(s[i]).toNat
  rotate_left
  ·have h1' : ¬ (65 : Int)≤(s[i]).toNat:=by omega
   have e:=Hz s i hl (by unfold jd; rw [if_neg (by omega)])
   rw [hq] at e
   simp -implicitDefEqProofs [nS,sV,hl,hw,hg,hg',nI,h1',← e]
  by_cases h2 : (s[i]).toNat≤90
  rotate_left
  ·have h1' : (65 : Int)≤(s[i]).toNat:=by omega
   have Be : 90 < ((s[i]).toNat : Int):=by omega
   have nE : ¬ ((s[i]).toNat : Int)≤90:=by omega
   have e:=Hz s i hl (by unfold jd; rw [if_neg (by omega)])
   rw [hq] at e
   simp -implicitDefEqProofs [nS,sV,hl,hw,hg,hg',nI,h1',nE,Be,← e]
  have h1' : (65 : Int)≤(s[i]).toNat:=by omega
  have nE : ((s[i]).toNat : Int)≤90:=by omega
  have h3:=GH s[i] ⟨h1,h2⟩
  have h4 : IntKind.u8.wrap ((s[i]).toNat + 32) = (s[i]).toNat + 32:=Ij (by omega) (by omega)
  have e:=Tx s i hl (s[i] + 32) (by unfold jd; rw [if_pos ⟨h1,h2⟩])
  rw [hq] at e
  have e2:=ME q i _ (s[i] + 32) (show ((s[i]).toNat : Int) + 32 = _ by rw [h3]; rfl)
  rw [e] at e2
  simp -implicitDefEqProofs [nS,sV,hl,hw,hg,hg',nI,h1',nE,h4,e2]
  all_goals (repeat' split) <;> first | rfl | omega | (simp_all; done) | (simp_all; omega) | skip
 ·simp only [List.take_length,List.drop_length,List.append_nil]
  simp -implicitDefEqProofs [nS,sV]
theorem Eb (s : ah) (hb : s.length≤1073741824) : ev LI TT 299 [.str ⟨s.toArray⟩] = some (.str ⟨(bw s).toArray⟩,[.dead]):=by
 rw [av (b:=w7) (rs:=[.t 2]) (n:=1) rfl rfl]
 have hl : (bw s).length = s.length:=by simp [bw]
 have e0 : bw (s.take 0) ++ s.drop 0 = s:=by simp [bw]
 have u1:=Ix  s hb
 try simp at u1
 simp -implicitDefEqProofs [w7,u1,hl,rowAt,(by omega : s.length≤9223372036854775807)]
 all_goals (repeat' split) <;> first | rfl | omega | (simp_all; done) | (simp_all; omega) | skip
@[simp] theorem XD (x : Int) (y : Int) : ev LI TT 55 [.int .i64 x,.int .i64 y] = some (.int .i64 ((if x < y then x else y)),[.dead,.dead]):=by
 rw [av (b:=zd) (rs:=[.t 4]) (n:=2) rfl rfl]
 simp -implicitDefEqProofs [zd]
 all_goals (repeat' split) <;> first | rfl | omega | (simp_all; done) | (simp_all; omega) | skip
@[simp] theorem XC (x : Int) (y : Int) : ev LI TT 54 [.int .i64 x,.int .i64 y] = some (.int .i64 ((if y < x then x else y)),[.dead,.dead]):=by
 rw [av (b:=zc) (rs:=[.t 4]) (n:=2) rfl rfl]
 simp -implicitDefEqProofs [zc]
 all_goals (repeat' split) <;> first | rfl | omega | (simp_all; done) | (simp_all; omega) | skip
@[simp] theorem XA (n : Int) : ev LI TT 324 [.int .i64 n] = some (.int .i64 ((max 0 (min n 1000000))),[.dead]):=by
 rw [av (b:=xF) (rs:=[.t 2]) (n:=1) rfl rfl]
 simp -implicitDefEqProofs [xF]
 (repeat' split) <;> omega
end M
namespace M
open Go
theorem Jq (n : Nat) (out : ah) (hn : out.length + n≤9223372036854775807) : aF (ai (ev LI TT) (aj TT) C5) [(0,.int .i64 n),(3,.str ⟨out.toArray⟩)] = some (.exit 0,[(0,.int .i64 0),(3,.str ⟨(og n out).toArray⟩),(10,.bool false)]):=by
 have hs : ∀ s,ai (ev LI TT) (aj TT) C5 s = ai (ev LI TT) (aj TT) yS s:=fun _=>rfl
 induction n using Nat.strongRecOn generalizing out with
 | ind n ih =>
  rw [gS,hs]
  unfold og
  by_cases h : n = 0
  ·subst h
   simp -implicitDefEqProofs [yS]
  ·have hp : 0 < n:=by omega
   have:=ih (n / 10) (by omega) (UInt8.ofNat (48 + n % 10) :: out) (by rw [List.length_cons]; omega)
   have e1 : ((n : Int)).tmod 10 = ((n % 10 : Nat) : Int):=by rw [Int.tmod_eq_emod_of_nonneg (by omega)]; omega
   have e4 : ((n : Int)).tdiv 10 = ((n / 10 : Nat) : Int):=by rw [Int.tdiv_eq_ediv_of_nonneg (by omega)]; omega
   have e2 : IntKind.i64.wrap (48 + ((n % 10 : Nat) : Int)) = ((48 + n % 10 : Nat) : Int):=by rw [bV (by omega) (by omega)]; omega
   have e3 : IntKind.u8.wrap ((48 + n % 10 : Nat) : Int) = ((48 + n % 10 : Nat) : Int):=Ik (by omega) (by omega)
   have e5:=WU (48 + n % 10) (by omega)
   have e6 : IntKind.i64.wrap ((n / 10 : Nat) : Int) = ((n / 10 : Nat) : Int):=bV (by omega) (by omega)
   simp only [h,dite_false]
   rw [← this]
   simp -implicitDefEqProofs [yS,hp,Cy,e1,e2,e3,e4,e5,e6,-Int.natCast_emod,-Int.natCast_ediv,-Int.natCast_add,-UInt8.ofNat_add,TL,(by omega : 1 + out.length≤9223372036854775807)]
theorem Eu (n : Int) : ev LI TT 189 [.int .i64 n] = some (.str ⟨(cJ n).toArray⟩,[.dead]):=by
 rw [av (b:=qQ) (rs:=[.t 2]) (n:=1) rfl rfl]
 unfold cJ
 by_cases hn : 0≤n∧n≤1000000
 rotate_left
 ·have hf : (decide (0≤n) && decide (n≤1000000)) = false:=by simp; omega
  simp -implicitDefEqProofs [qQ,hn,hf]
 obtain ⟨k,rfl⟩ : ∃ k : Nat,n = k:=⟨n.toNat,by omega⟩
 by_cases h : k = 0
 ·subst h; simp -implicitDefEqProofs [qQ,AL]
 have h1:=Jq k [] (by simp; omega)
 rw [RF k [] h,List.append_nil] at h1
 simp -implicitDefEqProofs [qQ,hn,h,h1]
 all_goals (repeat' split) <;> first | rfl | omega | (simp_all; done) | (simp_all; omega) | skip
theorem CJ (n : Int) : (cJ n).length≤7:=by
 unfold cJ
 split
 ·exact E1 _ (by omega)
 ·simp
theorem Jo (s : ah) (hb : s.length≤7) (hd : aI eM s = true) (g : Nat) (hinv : g < 10 ^ 0) : aF (ai (ev LI TT) (aj TT) jm) [(0,.str ⟨s.toArray⟩),(4,.int .i64 (g : Nat)),(5,.int .i64 0)] = some (.exit 0,[(0,.str ⟨s.toArray⟩),(4,.int .i64 ((foldI (fun _ g b=>10 * g + b.toNat - 48) 0 (s) g) : Nat)),(5,.int .i64 (s).length),(16,.bool false)]):=by
 refine CB (f:=ai (ev LI TT) (aj TT) jm) (s) (fun i (g : Nat)=>[(0,.str ⟨s.toArray⟩),(4,.int .i64 (g : Nat)),(5,.int .i64 i)]) (fun _ g b=>10 * g + b.toNat - 48) (fun g=>[(0,.str ⟨s.toArray⟩),(4,.int .i64 (g : Nat)),(5,.int .i64 (s).length),(16,.bool false)]) (fun i (g : Nat)=>g < 10 ^ i) g hinv (fun i b g hi hl hinv=>?_) (fun i b g hi hinv=>?_) (fun g hinv=>?_)
 ·have hw:=aL i (by first | omega | (simp at hl; omega))
  obtain ⟨_,rfl⟩:=List.getElem?_eq_some_iff.1 hi
  have hx:=lE.1 hd s[i] (List.getElem_mem hl)
  simp only [eM,decide_eq_true_eq] at hx
  have hp : 10 ^ i≤10 ^ 6:=Nat.pow_le_pow_right (by omega) (by omega)
  have h1 : ¬ ((s[i]).toNat : Int) < 48:=by omega
  have h2 : ¬ 57 < ((s[i]).toNat : Int):=by omega
  have e1 : IntKind.i64.wrap (10 * (g : Int)) = 10 * g:=bV (by omega) (by omega)
  have e0 : IntKind.i64.wrap ((s[i]).toNat : Int) = (s[i]).toNat:=bV (by omega) (by omega)
  have e2 : IntKind.i64.wrap (10 * (g : Int) + (s[i]).toNat) = 10 * g + (s[i]).toNat:=bV (by omega) (by omega)
  have e3 : IntKind.i64.wrap (10 * (g : Int) + (s[i]).toNat - 48) = ((10 * g + (s[i]).toNat - 48 : Nat) : Int):=by rw [bV (by omega) (by omega)]; omega
  simp -implicitDefEqProofs [jm,oz,hl,hw,h1,h2,e0,e1,e2,e3]
 ·obtain ⟨hl,rfl⟩:=List.getElem?_eq_some_iff.1 hi
  have hx:=lE.1 hd s[i] (List.getElem_mem hl)
  simp only [eM,decide_eq_true_eq] at hx
  rw [Nat.pow_succ]; omega
 ·simp -implicitDefEqProofs [jm,oz]
theorem Jp (s : ah) (hb : s.length≤7) (hd : ¬ aI eM s = true) : aF (ai (ev LI TT) (aj TT) jm) [(0,.str ⟨s.toArray⟩),(4,.int .i64 0),(5,.int .i64 0)] = some (.ret,[(2,.int .i64 0),(3,.bool false)]):=by
 have key:=yq (xt:=0) (f:=ai (ev LI TT) (aj TT) jm) s (fun i (g : Nat)=>[(0,.str ⟨s.toArray⟩),(4,.int .i64 (g : Int)),(5,.int .i64 i)]) (fun b g=>if eM b = true then .inl (10 * g + b.toNat - 48) else .inr (.ret,[(2,.int .i64 0),(3,.bool false)])) (fun g=>[(0,.str ⟨s.toArray⟩),(4,.int .i64 (g : Int)),(5,.int .i64 s.length),(16,.bool false)]) (fun i g=>g < 10 ^ i) 0 (by decide) (fun i b g hi hl hinv=>?_) (fun i b g g' hi hinv hg=>?_) (fun g hg=>?_)
 ·have hr : ∀ (r : ah) (g : Nat),¬ aI eM r = true→iG (fun (b : UInt8) (g : Nat)=>if eM b = true then (.inl (10 * g + b.toNat - 48) : Nat ⊕ (Ex×ag)) else .inr (.ret,[(2,.int .i64 0),(3,.bool false)])) r g = .inr (.ret,[(2,.int .i64 0),(3,.bool false)]):=by
   intro r
   induction r with
   | nil=>intro g h; exact absurd rfl h
   | cons b r ih =>
    intro g h
    simp only [iG]
    by_cases hb : eM b = true
    ·simp only [hb,if_true]
     exact ih _ fun h'=>h (by rw [lE] at h' ⊢; intro x hx; rcases List.mem_cons.1 hx with rfl | hx; exact hb; exact h' x hx)
    ·simp [hb]
  rw [hr s 0 hd] at key
  simpa [lv] using key
 ·have hw:=aL i (by omega)
  obtain ⟨_,rfl⟩:=List.getElem?_eq_some_iff.1 hi
  by_cases h : eM s[i] = true
  ·have hx:=h
   simp only [eM,decide_eq_true_eq] at hx
   have hp : 10 ^ i≤10 ^ 6:=Nat.pow_le_pow_right (by omega) (by omega)
   have h1 : ¬ ((s[i]).toNat : Int) < 48:=by omega
   have h2 : ¬ 57 < ((s[i]).toNat : Int):=by omega
   have e1 : IntKind.i64.wrap (10 * (g : Int)) = 10 * g:=bV (by omega) (by omega)
   have e0 : IntKind.i64.wrap ((s[i]).toNat : Int) = (s[i]).toNat:=bV (by omega) (by omega)
   have e2 : IntKind.i64.wrap (10 * (g : Int) + (s[i]).toNat) = 10 * g + (s[i]).toNat:=bV (by omega) (by omega)
   have e3 : IntKind.i64.wrap (10 * (g : Int) + (s[i]).toNat - 48) = ((10 * g + (s[i]).toNat - 48 : Nat) : Int):=by rw [bV (by omega) (by omega)]; omega
   simp -implicitDefEqProofs [jm,oz,hl,hw,h,h1,h2,e0,e1,e2,e3]
  ·have hx:=h
   simp only [eM,decide_eq_true_eq] at hx
   by_cases h1 : ((s[i]).toNat : Int) < 48
   ·simp -implicitDefEqProofs [jm,oz,hl,hw,h,h1,lv]
   ·have h2 : 57 < ((s[i]).toNat : Int):=by omega
    simp -implicitDefEqProofs [jm,oz,hl,hw,h,h1,h2,lv]
 ·obtain ⟨hl,rfl⟩:=List.getElem?_eq_some_iff.1 hi
  split at hg
  ·rename_i hx
   simp only [eM,decide_eq_true_eq] at hx
   injection hg with hg
   rw [Nat.pow_succ]; omega
  ·cases hg
 ·simp -implicitDefEqProofs [jm,oz]
theorem FA {β γ : Type} (go : γ→β→γ) : ∀ (l : List β) (i : Nat) (g : γ),foldI (fun _ g b=>go g b) i l g = l.foldl go g
 | [],_,_=>rfl
 | b :: l,i,g=>by rw [foldI,FA go l,List.foldl_cons]
theorem Et (s : ah) (hb : s.length≤9223372036854775807) : ev LI TT 216 [.str ⟨s.toArray⟩] = some (.ax [.int .i64 ((((cr s).getD 0 : Nat) : Int)),.bool ((cr s).isSome)],[.dead]):=by
 rw [av (b:=mQ) (rs:=[.t 2,.t 3]) (n:=1) rfl rfl]
 by_cases h7 : 7 < s.length
 ·have rZ : 7 < (s.length : Int):=by omega
  have hn : ¬ s = []:=by rintro rfl; simp at h7
  simp -implicitDefEqProofs [mQ,GQ s h7,rZ,hn]
 have rZ : ¬ 7 < (s.length : Int):=by omega
 rw [R7 s (by omega)]
 by_cases h0 : s = []
 ·subst h0; simp -implicitDefEqProofs [mQ]
 by_cases hd : aI eM s = true
 rotate_left
 ·have u1:=Jp s (by omega) hd
  simp -implicitDefEqProofs [mQ,rZ,h0,hd,u1]
 have u1:=Jo s (by omega) hd 0 (by decide)
 rw [show foldI (fun _ (g : Nat) (b : UInt8)=>10 * g + b.toNat - 48) 0 s 0 = gE s from FA _ s 0 0] at u1
 simp only [Int.ofNat_zero] at u1
 have u2:=Eu (gE s)
 by_cases ht : cJ (gE s) = s
 rotate_left
 ·simp -implicitDefEqProofs [mQ,rZ,h0,hd,u1,u2,eq_false ht]
 simp -implicitDefEqProofs [mQ,rZ,h0,hd,u1,u2,eq_true ht]
 all_goals (repeat' split) <;> first | rfl | omega | (simp_all; done) | (simp_all; omega) | skip
end M
namespace M
open Go
def fN (w : ah) : List ah:=if dL w≠[] then [dL w] else []
theorem S0 (s : ah) (i : Nat) (h : i < (s.map some ++ [none]).length) : (∃ hi : i < s.length,(s.map some ++ [none])[i] = some s[i])∨(i = s.length∧(s.map some ++ [none])[i] = none):=by
 by_cases hi : i < s.length
 ·refine .inl ⟨hi,?_⟩
  rw [List.getElem_append_left (by simpa using hi)]
  simp
 ·simp at h
  obtain rfl : i = s.length:=by omega
  refine .inr ⟨rfl,?_⟩
  rw [List.getElem_append_right (by simp)]
  simp
theorem HC (w : ah) : (fN w).length≤1:=by unfold fN; split <;> simp
theorem P0 (c : UInt8) (f : ah→List ah) (hf : ∀ w,(f w).length≤1) (s : ah) (i : Nat) (g : List ah×Nat) (b : Option UInt8) (h : g.2≤i∧g.1.length≤i) : (fF c f s i g b).2≤i + 1∧(fF c f s i g b).1.length≤i + 1:=by
 unfold fF
 have:=hf ((s.take i).drop g.2)
 split
 ·split
  ·simp; omega
  ·omega
 ·simp; omega
theorem Jw (s : ah) (hb : s.length≤1073741824) (g : List ah×Nat) (hinv : g.2≤0∧g.1.length≤0) : aF (ai (ev LI TT) (aj TT) k9) [(0,.str ⟨s.toArray⟩),(3,.row .own 1 ((g).1.map eS)),(4,.int .i64 ((g).2 : Nat)),(5,.int .i64 0)] = some (.exit 0,[(0,.str ⟨s.toArray⟩),(3,.row .own 1 (((foldI (fF 44 fN s) 0 (s.map some ++ [none]) g)).1.map eS)),(4,.int .i64 (((foldI (fF 44 fN s) 0 (s.map some ++ [none]) g)).2 : Nat)),(5,.int .i64 (s.map some ++ [none]).length),(11,.bool false)]):=by
 refine CB (f:=ai (ev LI TT) (aj TT) k9) (s.map some ++ [none]) (fun i (g : List ah×Nat)=>[(0,.str ⟨s.toArray⟩),(3,.row .own 1 ((g).1.map eS)),(4,.int .i64 ((g).2 : Nat)),(5,.int .i64 i)]) (fF 44 fN s) (fun g=>[(0,.str ⟨s.toArray⟩),(3,.row .own 1 ((g).1.map eS)),(4,.int .i64 ((g).2 : Nat)),(5,.int .i64 (s.map some ++ [none]).length),(11,.bool false)]) (fun i (g : List ah×Nat)=>g.2≤i∧g.1.length≤i) g hinv (fun i b g hi hl hinv=>?_) (fun i b g hi hinv=>?_) (fun g hinv=>?_)
 ·have hw:=aL i (by first | omega | (simp at hl; omega))
  obtain ⟨_,rfl⟩:=List.getElem?_eq_some_iff.1 hi
  have hlz : (g.1.length + 1) * 16≤140737488355328:=by simp at hl; omega
  have FU : ∀ b : UInt8,((b.toNat : Int) = 44)↔b = 44:=fun b=>⟨fun h=>UInt8.toNat_inj.1 (by have e : (44 : UInt8).toNat = 44:=rfl; omega),fun h=>by subst h; rfl⟩
  rcases S0 s i hl with ⟨hi',e⟩ | ⟨rfl,e⟩
  ·rw [e]
   have k1 : (i : Int)≤s.length:=by omega
   have k2 : i≤s.length:=by omega
   have hc:=Aq ((s.drop g.2).take (i - g.2)) (by simp; omega)
   by_cases hx : s[i] = 44
   rotate_left
   ·have hx':=mt (FU s[i]).1 hx
    simp -implicitDefEqProofs [k9,oB,k1,k2,hi',hw,fF,hx,hx']
   have hx':=(FU s[i]).2 hx
   have e3 : (s.take i).drop g.2 = (s.drop g.2).take (i - g.2):=List.drop_take ..
   by_cases ht : dL ((s.drop g.2).take (i - g.2)) = []
   ·simp -implicitDefEqProofs [k9,oB,k1,k2,hi',hw,fF,eq_true hx,hx',hinv,hc,Lib.extract_mk,fN,e3,eq_true ht]
   ·simp -implicitDefEqProofs [k9,oB,k1,k2,hi',hw,fF,eq_true hx,hx',hinv,hc,Lib.extract_mk,fN,e3,eq_false ht,dj,hlz]
  rw [e]
  have hc:=Aq ((s.drop g.2).take (s.length - g.2)) (by simp; omega)
  have e3 : (s.take s.length).drop g.2 = (s.drop g.2).take (s.length - g.2):=List.drop_take ..
  by_cases ht : dL ((s.drop g.2).take (s.length - g.2)) = []
  ·simp only [fF,e3,fN,eq_true ht]
   simp -implicitDefEqProofs [k9,oB,hw,hinv,hc,Lib.extract_mk,eq_true ht]
  simp only [fF,e3,fN,eq_false ht]
  simp -implicitDefEqProofs [k9,oB,hl,hw,hinv,hc,Lib.extract_mk,eq_false ht,dj,hlz]
 ·exact P0 44 fN HC s i g b hinv
 ·have Qs : ¬ ((s.length : Int) + 1≤s.length):=by omega
  simp -implicitDefEqProofs [k9,oB,Qs]
theorem Ey (s : ah) (hb : s.length≤1073741824) : ev LI TT 253 [.str ⟨s.toArray⟩] = some (.row .own 1 ((eJ s).map eS),[.dead]):=by
 rw [av (b:=yV) (rs:=[.t 2]) (n:=1) rfl rfl]
 have u1:=Jw s hb ([],0) ⟨by omega,by simp⟩
 rw [PS,show (ct 44 s).flatMap fN = eJ s from (Ih s).symm] at u1
 simp at u1
 simp -implicitDefEqProofs [yV,u1]
 all_goals (repeat' split) <;> first | rfl | omega | (simp_all; done) | (simp_all; omega) | skip
theorem IB (s : ah) (ws : List ah) (hb : ∀ w∈ws,w.length≤1073741824) (hl0 : ws.length≤1073741825) : aF (ai (ev LI TT) (aj TT) pV) [(3,.row .own 1 (([]).map eS)),(8,.row .own 1 (ws.map eS)),(9,.int .i64 ws.length),(10,.int .i64 0)] = some (.exit 0,[(3,.row .own 1 ((((ws).flatMap fN)).map eS)),(8,.row .own 1 (ws.map eS)),(9,.int .i64 ws.length),(10,.int .i64 (ws).length),(11,.bool false)]):=by
 refine od (f:=ai (ev LI TT) (aj TT) pV) (ws) fN (fun i out=>[(3,.row .own 1 ((out).map eS)),(8,.row .own 1 (ws.map eS)),(9,.int .i64 ws.length),(10,.int .i64 i)]) (fun out=>[(3,.row .own 1 ((out).map eS)),(8,.row .own 1 (ws.map eS)),(9,.int .i64 ws.length),(10,.int .i64 (ws).length),(11,.bool false)]) (fun i b out hi hl hout=>?_) (fun out hout=>?_)
 ·have hw:=aL i (by first | omega | (simp at hl; omega))
  obtain ⟨_,rfl⟩:=List.getElem?_eq_some_iff.1 hi
  have hlo : out.length≤i:=by rw [hout]; exact A5 fN HC ws i
  have hlz : (out.length + 1) * 16≤140737488355328:=by omega
  have hc:=Ei ws[i] (by have:=hb _ (List.getElem_mem hl); omega)
  unfold fN
  by_cases ht : dL ws[i] = []
  ·simp -implicitDefEqProofs [pV,xe,hl,hw,hc,eq_true ht]
  simp -implicitDefEqProofs [pV,xe,hl,hw,hc,eq_false ht,dj,hlz]
 ·simp -implicitDefEqProofs [pV,xe]
theorem Eg (s : ah) (hb : s.length≤1073741824) : ev LI TT 297 [.str ⟨s.toArray⟩] = some (.row .own 1 ((eJ s).map eS),[.dead]):=by
 rw [av (b:=xg) (rs:=[.t 2]) (n:=1) rfl rfl]
 rw [Ih s,show (fun w=>if dL w≠[] then [dL w] else []) = fN from rfl]
 have u1:=LX  s 44 (by omega)
 try simp at u1
 have u2:=IB  s (ct 44 s) (fun w hw=>by have:=HF 44 s w hw; omega) (by have:=HE 44 s; omega)
 try simp at u2
 simp -implicitDefEqProofs [xg,u1,u2]
 all_goals (repeat' split) <;> first | rfl | omega | (simp_all; done) | (simp_all; omega) | skip
theorem JI (l : List ah) (hl0 : l.length≤1073741824) (hb : ∀ w∈l,w.length≤1073741824) : aF (ai (ev LI TT) (aj TT) uZ) [(0,.row .af 1 (l.map eS)),(3,.int .i64 0)] = if aI eH (l) = true then some (.exit 0,[(0,.row .af 1 (l.map eS)),(3,.int .i64 (l).length),(7,.bool false)]) else some (.ret,[(2,.bool false)]):=by
 refine cq (f:=ai (ev LI TT) (aj TT) uZ) (l) (fun i=>[(0,.row .af 1 (l.map eS)),(3,.int .i64 i)]) eH _ _ (fun i b hi hl=>?_) ?_
 ·have hw:=aL i (by first | omega | (simp at hl; omega))
  obtain ⟨_,rfl⟩:=List.getElem?_eq_some_iff.1 hi
  have u1:=Ap  l[i] (by have:=hb _ (List.getElem_mem hl); omega)
  try simp at u1
  simp -implicitDefEqProofs [uZ,Dj,hl,hw,u1]
  all_goals (repeat' split) <;> first | rfl | omega | (simp_all; done) | (simp_all; omega) | skip
 ·simp -implicitDefEqProofs [uZ,Dj]
theorem LM (l : List ah) (hl0 : l.length≤1073741824) (hb : ∀ w∈l,w.length≤1073741824) : ev LI TT 202 [.row .af 1 (l.map eS)] = some (.bool ((aI eH l && decide ((l.length : Int)≤4))),[.dead]):=by
 rw [av (b:=zg) (rs:=[.t 2]) (n:=1) rfl rfl]
 have u1:=JI  l hl0 hb
 try simp at u1
 simp -implicitDefEqProofs [zg,u1]
 all_goals (repeat' split) <;> first | rfl | omega | (simp_all; done) | (simp_all; omega) | skip
theorem IJ (l : List ah) (hl0 : l.length≤1073741824) (hb : ∀ w∈l,w.length≤1073741824) : aF (ai (ev LI TT) (aj TT) tc) [(0,.row .af 1 (l.map eS)),(5,.row .af 1 (l.map eS)),(6,.int .i64 l.length),(7,.int .i64 0)] = if aI eH (l) = true then some (.exit 0,[(0,.row .af 1 (l.map eS)),(5,.row .af 1 (l.map eS)),(6,.int .i64 l.length),(7,.int .i64 (l).length),(8,.bool false)]) else some (.ret,[(2,.bool false)]):=by
 refine cq (f:=ai (ev LI TT) (aj TT) tc) (l) (fun i=>[(0,.row .af 1 (l.map eS)),(5,.row .af 1 (l.map eS)),(6,.int .i64 l.length),(7,.int .i64 i)]) eH _ _ (fun i b hi hl=>?_) ?_
 ·have hw:=aL i (by first | omega | (simp at hl; omega))
  obtain ⟨_,rfl⟩:=List.getElem?_eq_some_iff.1 hi
  have u1:=zZ  l[i] (by have:=hb _ (List.getElem_mem hl); omega)
  try simp at u1
  simp -implicitDefEqProofs [tc,BQ,hl,hw,u1]
  all_goals (repeat' split) <;> first | rfl | omega | (simp_all; done) | (simp_all; omega) | skip
 ·simp -implicitDefEqProofs [tc,BQ]
theorem Ku (l : List ah) (hl0 : l.length≤1073741824) (hb : ∀ w∈l,w.length≤1073741824) : ev LI TT 271 [.row .af 1 (l.map eS)] = some (.bool ((aI eH l && decide ((l.length : Int)≤4))),[.dead]):=by
 rw [av (b:=xD) (rs:=[.t 2]) (n:=1) rfl rfl]
 have u1:=IJ  l hl0 hb
 try simp at u1
 simp -implicitDefEqProofs [xD,u1]
 all_goals (repeat' split) <;> first | rfl | omega | (simp_all; done) | (simp_all; omega) | skip
end M
namespace M
open Go
theorem JE (fs : List aD) (n : ah) (hb : fs.length≤9223372036854775807) : aF (ai (ev LI TT) (aj TT) uU) [(0,.row .af 2 (fs.map aA)),(1,.str ⟨n.toArray⟩),(5,.int .i64 0)] = (cF (fun f=>decide (f.name = n)) 0 (fs)).elim (some (.exit 0,[(0,.row .af 2 (fs.map aA)),(1,.str ⟨n.toArray⟩),(5,.int .i64 (fs).length),(9,.bool false)])) fun x=>some (.ret,(fun (i : Nat) b=>[(4,.int .i64 i)]) x.1 x.2):=by
 refine oc (f:=ai (ev LI TT) (aj TT) uU) (fs) (fun i=>[(0,.row .af 2 (fs.map aA)),(1,.str ⟨n.toArray⟩),(5,.int .i64 i)]) (fun f=>decide (f.name = n)) (fun (i : Nat) b=>[(4,.int .i64 i)]) _ (fun i b hi hl=>?_) ?_
 ·have hw:=aL i (by first | omega | (simp at hl; omega))
  obtain ⟨_,rfl⟩:=List.getElem?_eq_some_iff.1 hi
  simp -implicitDefEqProofs [uU,Dg,hl,hw]
 ·simp -implicitDefEqProofs [uU,Dg]
theorem As (fs : List aD) (n : ah) (hb : fs.length≤9223372036854775807) : ev LI TT 252 [.row .af 2 (fs.map aA),.str ⟨n.toArray⟩] = some (.int .i64 (eL (ey fs n)),[.dead,.dead]):=by
 rw [av (b:=uV) (rs:=[.t 4]) (n:=2) rfl rfl]
 have h:=JE  fs n hb
 rw [show cF (fun f=>decide (f.name = n)) 0 fs = ey fs n from rfl] at h
 simp at h
 cases g : ey fs n with
 | none=>rw [g] at h; simp at h; simp -implicitDefEqProofs [uV,h,eL]
 | some x =>
 rw [g] at h
 simp at h
 simp -implicitDefEqProofs [uV,h,eL]
 all_goals (repeat' split) <;> first | rfl | omega | (simp_all; done) | (simp_all; omega) | skip
theorem jw (fs : List aD) (n : ah) (hb : fs.length≤9223372036854775807) : ev LI TT 162 [.row .af 2 (fs.map aA),.str ⟨n.toArray⟩] = some (.ax [.str ⟨((b8 fs n).getD []).toArray⟩,.bool (b8 fs n).isSome],[.dead,.dead]):=by
 rw [av (b:=uH) (rs:=[.t 4,.t 5]) (n:=2) rfl rfl]
 have h:=As  fs n hb
 unfold b8
 cases g : ey fs n with
 | none=>rw [g] at h; simp [eL] at h; simp -implicitDefEqProofs [uH,h]
 | some x =>
 obtain ⟨i,b⟩:=x
 rw [g] at h
 obtain ⟨h1,h2,h3⟩:=pF g
 simp at h2
 simp [eL] at h
 have hi : i < fs.length:=(List.getElem?_eq_some_iff.1 h2).1
 obtain ⟨_,rfl⟩:=List.getElem?_eq_some_iff.1 h2
 simp -implicitDefEqProofs [uH,h,hi]
 all_goals (repeat' split) <;> first | rfl | omega | (simp_all; done) | (simp_all; omega) | skip
theorem Ks (f : aD) (n : ah) : ev LI TT 321 [.agg (aA f),.ptr .af [.str ⟨n.toArray⟩]] = some (.bool (decide (f.name = n)),[.dead,.dead]):=by
 rw [av (b:=xq) (rs:=[.t 3]) (n:=2) rfl rfl]
 simp -implicitDefEqProofs [xq]
 all_goals (repeat' split) <;> first | rfl | omega | (simp_all; done) | (simp_all; omega) | skip
theorem JL (fs : List aD) (n : ah) (hb : fs.length≤9223372036854775807) : aF (ai (ev LI TT) (aj TT) vt) [(0,.row .af 2 (fs.map aA)),(1,.fn 321 [.ptr .af [.str ⟨n.toArray⟩]]),(7,.int .i64 fs.length),(8,.int .i64 0)] = (cF (fun f=>decide (f.name = n)) 0 (fs)).elim (some (.exit 0,[(0,.row .af 2 (fs.map aA)),(1,.fn 321 [.ptr .af [.str ⟨n.toArray⟩]]),(7,.int .i64 fs.length),(8,.int .i64 (fs).length),(9,.bool false)])) fun x=>some (.ret,(fun (i : Nat) b=>[(4,.int .i64 i)]) x.1 x.2):=by
 refine oc (f:=ai (ev LI TT) (aj TT) vt) (fs) (fun i=>[(0,.row .af 2 (fs.map aA)),(1,.fn 321 [.ptr .af [.str ⟨n.toArray⟩]]),(7,.int .i64 fs.length),(8,.int .i64 i)]) (fun f=>decide (f.name = n)) (fun (i : Nat) b=>[(4,.int .i64 i)]) _ (fun i b hi hl=>?_) ?_
 ·have hw:=aL i (by first | omega | (simp at hl; omega))
  obtain ⟨_,rfl⟩:=List.getElem?_eq_some_iff.1 hi
  have ho : aj TT 321 = true:=rfl
  have hf:=Ks  fs[i] n
  simp at hf
  simp -implicitDefEqProofs [vt,DH,hl,hw,ho,xH,hf]
 ·simp -implicitDefEqProofs [vt,DH]
theorem LR (fs : List aD) (n : ah) (hb : fs.length≤9223372036854775807) : ev LI TT 320 [.row .af 2 (fs.map aA),.fn 321 [.ptr .af [.str ⟨n.toArray⟩]]] = some (.int .i64 (eL (ey fs n)),[.dead,.dead]):=by
 rw [av (b:=vu) (rs:=[.t 4]) (n:=2) rfl rfl]
 have h:=JL  fs n hb
 rw [show cF (fun f=>decide (f.name = n)) 0 fs = ey fs n from rfl] at h
 simp at h
 cases g : ey fs n with
 | none=>rw [g] at h; simp at h; simp -implicitDefEqProofs [vu,h,eL]
 | some x =>
 rw [g] at h
 simp at h
 simp -implicitDefEqProofs [vu,h,eL]
 all_goals (repeat' split) <;> first | rfl | omega | (simp_all; done) | (simp_all; omega) | skip
theorem z7 (fs : List aD) (n : ah) (hb : fs.length≤9223372036854775807) : ev LI TT 296 [.row .af 2 (fs.map aA),.str ⟨n.toArray⟩] = some (.int .i64 (eL (ey fs n)),[.dead,.dead]):=by
 rw [av (b:=xu) (rs:=[.t 4]) (n:=2) rfl rfl]
 have h:=LR  fs n hb
 simp -implicitDefEqProofs [xu,h,gY,eV]
 all_goals (repeat' split) <;> first | rfl | omega | (simp_all; done) | (simp_all; omega) | skip
theorem jv (fs : List aD) (n : ah) (hb : fs.length≤9223372036854775807) : ev LI TT 234 [.row .af 2 (fs.map aA),.str ⟨n.toArray⟩] = some (.ax [.str ⟨((b8 fs n).getD []).toArray⟩,.bool (b8 fs n).isSome],[.dead,.dead]):=by
 rw [av (b:=sS) (rs:=[.t 4,.t 5]) (n:=2) rfl rfl]
 have h:=z7  fs n hb
 unfold b8
 cases g : ey fs n with
 | none=>rw [g] at h; simp [eL] at h; simp -implicitDefEqProofs [sS,h]
 | some x =>
 obtain ⟨i,b⟩:=x
 rw [g] at h
 obtain ⟨h1,h2,h3⟩:=pF g
 simp at h2
 simp [eL] at h
 have hi : i < fs.length:=(List.getElem?_eq_some_iff.1 h2).1
 obtain ⟨_,rfl⟩:=List.getElem?_eq_some_iff.1 h2
 simp -implicitDefEqProofs [sS,h,hi]
 all_goals (repeat' split) <;> first | rfl | omega | (simp_all; done) | (simp_all; omega) | skip
end M
namespace M
open Go
theorem uj : (⟨#[99,111,110,116,101,110,116,45,108,101,110,103,116,104]⟩ : ByteArray) = ⟨yA.toArray⟩:=rfl
theorem Jl (fs : List aD) (hb : wL aC fs≤1073741824) : aF (ai (ev LI TT) (aj TT) k8) [(0,.row .af 2 (fs.map aA)),(3,.int .i64 0)] = if aI (fT fs) (fs.zipIdx) = true then some (.exit 0,[(0,.row .af 2 (fs.map aA)),(3,.int .i64 (fs.zipIdx).length),(7,.bool false)]) else some (.ret,[(2,.bool false)]):=by
 refine cq (f:=ai (ev LI TT) (aj TT) k8) (fs.zipIdx) (fun i=>[(0,.row .af 2 (fs.map aA)),(3,.int .i64 i)]) (fT fs) _ _ (fun i b hi hl=>?_) ?_
 ·have hw:=aL i (by have:=aK (w:=aC) fs; simp at hl; omega)
  obtain ⟨_,rfl⟩:=List.getElem?_eq_some_iff.1 hi
  simp only [List.length_zipIdx] at hl
  have hz : fs.zipIdx[i]'(by simpa using hl) = (fs[i],i):=by simp
  have hm:=DC (List.getElem_mem hl)
  have hfl:=aK (w:=aC) fs
  rw [hz]
  have u1:=Ap  fs[i].name (by omega)
  try simp at u1
  have u2:=Ar  fs[i].value (by omega)
  try simp at u2
  have u3:=As  fs fs[i].name (by omega)
  try simp at u3
  by_cases g1 : eH fs[i].name = true
  rotate_left
  ·simp -implicitDefEqProofs [k8,ox,hl,hw,u1,u2,u3,fT,g1]
  by_cases g2 : gF fs[i].value = true
  rotate_left
  ·simp -implicitDefEqProofs [k8,ox,hl,hw,u1,u2,u3,fT,g1,g2]
  by_cases g3 : eL (ey fs fs[i].name) = i
  rotate_left
  ·simp -implicitDefEqProofs [k8,ox,hl,hw,u1,u2,u3,fT,g1,g2,eq_false g3]
  by_cases hcl : fs[i].name = yA
  ·simp -implicitDefEqProofs [k8,ox,hl,hw,u1,u2,u3,g1,g2,eq_true g3,fT,uj,eq_true hcl]
  simp -implicitDefEqProofs [k8,ox,hl,hw,u1,u2,u3,fT,g1,g2,eq_true g3,uj,eq_false hcl]
  all_goals (repeat' split) <;> first | rfl | omega | (simp_all; done) | (simp_all; omega) | skip
 ·simp -implicitDefEqProofs [k8,ox]
theorem Er (fs : List aD) (hb : wL aC fs≤1073741824) : ev LI TT 161 [.row .af 2 (fs.map aA)] = some (.bool ((ku fs)),[.dead]):=by
 rw [av (b:=yN) (rs:=[.t 2]) (n:=1) rfl rfl]
 unfold ku
 have hfl:=aK (w:=aC) fs
 have u1:=Jl  fs hb
 try simp at u1
 simp -implicitDefEqProofs [yN,u1]
 all_goals (repeat' split) <;> first | rfl | omega | (simp_all; done) | (simp_all; omega) | skip
theorem Iv (fs : List aD) (hb : wL aC fs≤1073741824) : aF (ai (ev LI TT) (aj TT) kM) [(0,.row .af 2 (fs.map aA)),(5,.row .af 2 (fs.map aA)),(6,.int .i64 fs.length),(7,.int .i64 0)] = if aI (fT fs) (fs.zipIdx) = true then some (.exit 0,[(0,.row .af 2 (fs.map aA)),(5,.row .af 2 (fs.map aA)),(6,.int .i64 fs.length),(7,.int .i64 (fs.zipIdx).length),(8,.bool false)]) else some (.ret,[(2,.bool false)]):=by
 refine cq (f:=ai (ev LI TT) (aj TT) kM) (fs.zipIdx) (fun i=>[(0,.row .af 2 (fs.map aA)),(5,.row .af 2 (fs.map aA)),(6,.int .i64 fs.length),(7,.int .i64 i)]) (fT fs) _ _ (fun i b hi hl=>?_) ?_
 ·have hw:=aL i (by have:=aK (w:=aC) fs; simp at hl; omega)
  obtain ⟨_,rfl⟩:=List.getElem?_eq_some_iff.1 hi
  simp only [List.length_zipIdx] at hl
  have hz : fs.zipIdx[i]'(by simpa using hl) = (fs[i],i):=by simp
  have hm:=DC (List.getElem_mem hl)
  have hfl:=aK (w:=aC) fs
  rw [hz]
  have u1:=zZ  fs[i].name (by omega)
  try simp at u1
  have u2:=z6  fs[i].value (by omega)
  try simp at u2
  have u3:=z7  fs fs[i].name (by omega)
  try simp at u3
  by_cases g1 : eH fs[i].name = true
  rotate_left
  ·simp -implicitDefEqProofs [kM,nR,hl,hw,u1,u2,u3,fT,g1]
  by_cases g2 : gF fs[i].value = true
  rotate_left
  ·simp -implicitDefEqProofs [kM,nR,hl,hw,u1,u2,u3,fT,g1,g2]
  by_cases hcl : fs[i].name = yA
  ·simp -implicitDefEqProofs [kM,nR,hl,hw,u1,u2,u3,g1,g2,fT,uj,eq_true hcl]
  by_cases g3 : eL (ey fs fs[i].name) = i
  rotate_left
  ·simp -implicitDefEqProofs [kM,nR,hl,hw,u1,u2,u3,g1,g2,fT,uj,eq_false hcl,eq_false g3]
  simp -implicitDefEqProofs [kM,nR,hl,hw,u1,u2,u3,fT,g1,g2,uj,eq_false hcl,eq_true g3]
  all_goals (repeat' split) <;> first | rfl | omega | (simp_all; done) | (simp_all; omega) | skip
 ·simp -implicitDefEqProofs [kM,nR]
theorem Ea (fs : List aD) (hb : wL aC fs≤1073741824) : ev LI TT 294 [.row .af 2 (fs.map aA)] = some (.bool ((ku fs)),[.dead]):=by
 rw [av (b:=wY) (rs:=[.t 2]) (n:=1) rfl rfl]
 unfold ku
 have hfl:=aK (w:=aC) fs
 have u1:=Iv  fs hb
 try simp at u1
 simp -implicitDefEqProofs [wY,u1]
 all_goals (repeat' split) <;> first | rfl | omega | (simp_all; done) | (simp_all; omega) | skip
theorem Fy (fs : List aD) (i : Nat) (h : i < fs.length) (v : ah) : (fs.map aA).modify i (fun e=>e.set 1 (X.str ⟨v.toArray⟩)) = (fs.set i ⟨fs[i].name,v⟩).map aA:=by
 apply List.ext_getElem?
 intro j
 rw [List.getElem?_modify,List.getElem?_map,List.getElem?_map,List.getElem?_set]
 by_cases hij : i = j
 ·subst hij
  simp [h]
 ·simp only [hij,if_false]
  cases fs[j]? <;> rfl
theorem Fz (fs : List aD) : eY (fs.map aA) = true:=by induction fs <;> simp_all [eY,scalar]
theorem Ew (fs : List aD) (n : ah) (v : ah) (hb : fs.length≤1073741824) : ev LI TT 238 [.row .af 2 (fs.map aA),.str ⟨n.toArray⟩,.str ⟨v.toArray⟩] = some (.row .own 2 ((fq fs n v).map aA),[.dead,.dead,.dead]):=by
 rw [av (b:=uL) (rs:=[.t 6]) (n:=3) rfl rfl]
 unfold fq
 have hk : fs.length * 32≤140737488355328:=by omega
 have hk2 : (fs.length + 1) * 32≤140737488355328:=by omega
 have hsc:=Fz fs
 have u1:=As  fs n (by omega)
 try simp at u1
 cases g : ey fs n with
 | none=>rw [g] at u1; simp [eL] at u1; simp -implicitDefEqProofs [uL,u1,rowAt,hk,hk2,hsc,dj]
 | some x =>
 obtain ⟨i,f⟩:=x
 obtain ⟨hi,rfl,_⟩:=vN g
 rw [g] at u1
 simp [eL] at u1
 simp -implicitDefEqProofs [uL,u1,hk,hk2,hsc,hi,rowAt,Fy fs i hi v,-List.map_set]
 all_goals (repeat' split) <;> first | rfl | omega | (simp_all; done) | (simp_all; omega) | skip
theorem Ee (fs : List aD) (n : ah) (v : ah) (hb : fs.length≤1073741824) : ev LI TT 249 [.row .af 2 (fs.map aA),.str ⟨n.toArray⟩,.str ⟨v.toArray⟩] = some (.row .own 2 ((fq fs n v).map aA),[.dead,.dead,.dead]):=by
 rw [av (b:=sY) (rs:=[.t 6]) (n:=3) rfl rfl]
 unfold fq
 have hk2 : (fs.length + 1) * 32≤140737488355328:=by omega
 have u1:=z7  fs n (by omega)
 try simp at u1
 have u2:=Gx fs hb
 try simp at u2
 cases g : ey fs n with
 | none=>rw [g] at u1; simp [eL] at u1; simp -implicitDefEqProofs [sY,u1,u2,rowAt,hk2,dj]
 | some x =>
 obtain ⟨i,f⟩:=x
 obtain ⟨hi,rfl,_⟩:=vN g
 rw [g] at u1
 simp [eL] at u1
 simp -implicitDefEqProofs [sY,u1,u2,hk2,hi,rowAt,Fy fs i hi v,-List.map_set]
 all_goals (repeat' split) <;> first | rfl | omega | (simp_all; done) | (simp_all; omega) | skip
theorem Ao (r : bY) (hb : bk r≤1073741824) : ev LI TT 201 [.agg (cw .af r)] = some (.bool ((iF r)),[.dead]):=by
 rw [av (b:=oA) (rs:=[.t 2]) (n:=1) rfl rfl]
 have hw : bk r = wL aC r.fields + r.body.length:=rfl
 unfold iF
 have u1:=Er  r.fields (by omega)
 try simp at u1
 by_cases g1 : 100≤r.status
 rotate_left
 ·simp -implicitDefEqProofs [oA,u1,eq_false g1]
 by_cases g2 : r.status≤599
 rotate_left
 ·simp -implicitDefEqProofs [oA,u1,eq_true g1,eq_false g2]
 by_cases g3 : ku r.fields = true
 rotate_left
 ·simp -implicitDefEqProofs [oA,u1,eq_true g1,eq_true g2,g3]
 simp -implicitDefEqProofs [oA,u1,eq_true g1,eq_true g2,g3]
 all_goals (repeat' split) <;> first | rfl | omega | (simp_all; done) | (simp_all; omega) | skip
theorem zY (r : bY) (hb : bk r≤1073741824) : ev LI TT 251 [.agg (cw .af r)] = some (.bool ((iF r)),[.dead]):=by
 rw [av (b:=nT) (rs:=[.t 2]) (n:=1) rfl rfl]
 have hw : bk r = wL aC r.fields + r.body.length:=rfl
 unfold iF
 have u1:=Ea  r.fields (by omega)
 try simp at u1
 by_cases g1 : 100≤r.status
 rotate_left
 ·simp -implicitDefEqProofs [nT,u1,eq_false g1]
 by_cases g2 : r.status≤599
 rotate_left
 ·simp -implicitDefEqProofs [nT,u1,eq_true g1,eq_false g2]
 by_cases g3 : (r.body.length : Int)≤120
 rotate_left
 ·simp -implicitDefEqProofs [nT,u1,eq_true g1,eq_true g2,eq_false g3]
 simp -implicitDefEqProofs [nT,u1,eq_true g1,eq_true g2,eq_true g3]
 all_goals (repeat' split) <;> first | rfl | omega | (simp_all; done) | (simp_all; omega) | skip
theorem LL (fs : List aD) (hb : fs.length≤1073741824) : ev LI TT 258 [.row .af 2 (fs.map aA)] = some (.row .own 2 (fs.map aA),[.dead]):=by
 rw [av (b:=zf) (rs:=[.t 2]) (n:=1) rfl rfl]
 simp -implicitDefEqProofs [zf,Fz fs,rowAt,(by omega : fs.length * 32≤140737488355328)]
 all_goals (repeat' split) <;> first | rfl | omega | (simp_all; done) | (simp_all; omega) | skip
theorem LN (r : bY) (hb : r.fields.length≤1073741824) : ev LI TT 177 [.agg (cw .af r)] = some (.agg (cw .own r),[.dead]):=by
 rw [av (b:=zh) (rs:=[.c 2 3 true 59]) (n:=1) rfl rfl]
 have u1:=LL  r.fields hb
 try simp at u1
 simp -implicitDefEqProofs [zh,u1]
 all_goals (repeat' split) <;> first | rfl | omega | (simp_all; done) | (simp_all; omega) | skip
theorem Ek (r : bY) (hb : r.fields.length≤1073741824) : ev LI TT 246 [.agg (cw .af r)] = some (.agg (cw .own r),[.dead]):=by
 rw [av (b:=xp) (rs:=[.c 2 3 true 59]) (n:=1) rfl rfl]
 have u1:=Gx r.fields hb
 try simp at u1
 simp -implicitDefEqProofs [xp,u1]
 all_goals (repeat' split) <;> first | rfl | omega | (simp_all; done) | (simp_all; omega) | skip
end M
namespace M
open Go
theorem vn (s : ah) : (eJ s).length≤s.length + 1:=by
 unfold eJ
 have h1:=List.length_filter_le (fun w : ah=>decide (w≠[])) ((ct 44 s).map dL)
 have h2:=HE 44 s
 simp only [List.length_map] at h1
 omega
theorem zG (s : ah) : ∀ w∈eJ s,w.length≤s.length:=by
 intro w hw
 unfold eJ at hw
 obtain ⟨x,hx,rfl⟩:=List.mem_map.1 (List.mem_filter.1 hw).1
 have h1:=HF 44 s x hx
 have h2:=HU x
 omega
theorem JC (ws : List ah) (hl0 : ws.length≤1073741825) (hb : ∀ w∈ws,w.length≤1073741824) : aF (ai (ev LI TT) (aj TT) uT) [(5,.row .own 1 ((fK bw ws 0).map eS)),(6,.int .i64 0)] = some (.exit 0,[(5,.row .own 1 ((fK bw ws (ws).length).map eS)),(6,.int .i64 (ws).length),(17,.bool false)]):=by
 refine jc (f:=ai (ev LI TT) (aj TT) uT) (ws) (fun i=>[(5,.row .own 1 ((fK bw ws i).map eS)),(6,.int .i64 i)]) _ (fun i b hi hl=>?_) ?_
 ·have hw:=aL i (by first | omega | (simp at hl; omega))
  obtain ⟨_,rfl⟩:=List.getElem?_eq_some_iff.1 hi
  have h1:=RC bw ws i hl
  have h2:=RD bw ws i hl
  have u1:=Es  ws[i] (hb _ (List.getElem_mem hl))
  try simp at u1
  simp -implicitDefEqProofs [uT,Df,hl,hw,u1,h1,h2,rowAt,-List.map_set]
 ·simp -implicitDefEqProofs [uT,Df,rowAt]
theorem LD (fs : List aD) (hb : wL aC fs≤1073741824) : ev LI TT 203 [.row .af 2 (fs.map aA)] = some (.row .own 1 ((j8 fs).map eS),[.dead]):=by
 rw [av (b:=y6) (rs:=[.t 2]) (n:=1) rfl rfl]
 have hfl:=aK (w:=aC) fs
 have hg:=nD fs eo
 have u1:=jw  fs eo (by omega)
 try simp at u1
 have u2:=Ey  ((b8 fs eo).getD []) (by omega)
 try simp at u2
 have u3:=JC  (eJ ((b8 fs eo).getD [])) (by have:=vn ((b8 fs eo).getD []); omega) (fun w hw=>by have:=zG _ w hw; omega)
 try simp at u3
 rw [RE,RA,show (eJ ((b8 fs eo).getD [])).map bw = j8 fs from rfl] at u3
 simp -implicitDefEqProofs [y6,u1,u2,u3]
 all_goals (repeat' split) <;> first | rfl | omega | (simp_all; done) | (simp_all; omega) | skip
theorem IE (ws : List ah) (hl0 : ws.length≤1073741825) (hb : ∀ w∈ws,w.length≤1073741824) : aF (ai (ev LI TT) (aj TT) s7) [(5,.row .own 1 (([]).map eS)),(14,.row .own 1 (ws.map eS)),(15,.int .i64 ws.length),(16,.int .i64 0)] = some (.exit 0,[(5,.row .own 1 ((((ws).flatMap (fun w=>[bw w]))).map eS)),(14,.row .own 1 (ws.map eS)),(15,.int .i64 ws.length),(16,.int .i64 (ws).length),(17,.bool false)]):=by
 refine od (f:=ai (ev LI TT) (aj TT) s7) (ws) (fun w=>[bw w]) (fun i out=>[(5,.row .own 1 ((out).map eS)),(14,.row .own 1 (ws.map eS)),(15,.int .i64 ws.length),(16,.int .i64 i)]) (fun out=>[(5,.row .own 1 ((out).map eS)),(14,.row .own 1 (ws.map eS)),(15,.int .i64 ws.length),(16,.int .i64 (ws).length),(17,.bool false)]) (fun i b out hi hl hout=>?_) (fun out hout=>?_)
 ·have hw:=aL i (by first | omega | (simp at hl; omega))
  obtain ⟨_,rfl⟩:=List.getElem?_eq_some_iff.1 hi
  have hlo : out.length = i:=by rw [hout]; exact wv _ _ _ (by omega)
  have hlz : (i + 1) * 16≤140737488355328:=by omega
  have u1:=Eb  ws[i] (hb _ (List.getElem_mem hl))
  try simp at u1
  simp -implicitDefEqProofs [s7,BN,hl,hw,u1,hlo,hlz,dj]
 ·simp -implicitDefEqProofs [s7,BN]
theorem Kr (fs : List aD) (hb : wL aC fs≤1073741824) : ev LI TT 272 [.row .af 2 (fs.map aA)] = some (.row .own 1 ((j8 fs).map eS),[.dead]):=by
 rw [av (b:=xm) (rs:=[.t 2]) (n:=1) rfl rfl]
 have hfl:=aK (w:=aC) fs
 have hg:=nD fs eo
 have u1:=jv  fs eo (by omega)
 try simp at u1
 have u2:=Eg  ((b8 fs eo).getD []) (by omega)
 try simp at u2
 have u3:=IE  (eJ ((b8 fs eo).getD [])) (by have:=vn ((b8 fs eo).getD []); omega) (fun w hw=>by have:=zG _ w hw; omega)
 try simp at u3
 rw [rV,show (eJ ((b8 fs eo).getD [])).map bw = j8 fs from rfl] at u3
 simp -implicitDefEqProofs [xm,u1,u2,u3]
 all_goals (repeat' split) <;> first | rfl | omega | (simp_all; done) | (simp_all; omega) | skip
theorem Ic (fs : List aD) : (j8 fs).length≤wL aC fs + 1:=by
 have h1:=vn ((b8 fs eo).getD [])
 have h2:=nD fs eo
 simp [j8]; omega
theorem Jv (r : bY) (hb : r.fields.length≤1073741824) : aF (ai (ev LI TT) (aj TT) mR) [(1,.ptr .own (cw .af r)),(2,.ptr .own [.int .i64 0,.row .own 2 [],.str ⟨#[]⟩]),(3,.ptr .own [.int .i64 304,.row .own 2 (([]).map aA),.str ⟨#[]⟩]),(4,.int .i64 0)] = some (.exit 0,[(1,.ptr .own (cw .af r)),(2,.ptr .own [.int .i64 0,.row .own 2 [],.str ⟨#[]⟩]),(3,.ptr .own [.int .i64 304,.row .own 2 ((((r.fields).flatMap (fun f=>if cU f = true then [f] else []))).map aA),.str ⟨#[]⟩]),(4,.int .i64 (r.fields).length),(11,.bool false)]):=by
 refine od (f:=ai (ev LI TT) (aj TT) mR) (r.fields) (fun f=>if cU f = true then [f] else []) (fun i out=>[(1,.ptr .own (cw .af r)),(2,.ptr .own [.int .i64 0,.row .own 2 [],.str ⟨#[]⟩]),(3,.ptr .own [.int .i64 304,.row .own 2 ((out).map aA),.str ⟨#[]⟩]),(4,.int .i64 i)]) (fun out=>[(1,.ptr .own (cw .af r)),(2,.ptr .own [.int .i64 0,.row .own 2 [],.str ⟨#[]⟩]),(3,.ptr .own [.int .i64 304,.row .own 2 ((out).map aA),.str ⟨#[]⟩]),(4,.int .i64 (r.fields).length),(11,.bool false)]) (fun i b out hi hl hout=>?_) (fun out hout=>?_)
 ·have hw:=aL i (by first | omega | (simp at hl; omega))
  obtain ⟨_,rfl⟩:=List.getElem?_eq_some_iff.1 hi
  have hlo : out.length≤i:=by rw [hout]; exact A5 _ (fun f=>by split <;> simp) _ _
  have hlz : (out.length + 1) * 32≤140737488355328:=by omega
  unfold cU
  have t1 : (⟨#[101,116,97,103]⟩ : ByteArray) = ⟨ga.toArray⟩:=rfl
  have t2 : (⟨#[118,97,114,121]⟩ : ByteArray) = ⟨eo.toArray⟩:=rfl
  have t3 : (⟨#[99,97,99,104,101,45,99,111,110,116,114,111,108]⟩ : ByteArray) = ⟨fM.toArray⟩:=rfl
  by_cases g1 : (r.fields[i]).name = ga
  ·simp -implicitDefEqProofs [mR,qT,hl,hw,hlo,hlz,dj,t1,t2,t3,eq_true g1]
  by_cases g2 : (r.fields[i]).name = eo
  ·simp -implicitDefEqProofs [mR,qT,hl,hw,hlo,hlz,dj,t1,t2,t3,eq_false g1,eq_true g2]
  by_cases g3 : (r.fields[i]).name = fM
  ·simp -implicitDefEqProofs [mR,qT,hl,hw,hlo,hlz,dj,t1,t2,t3,eq_false g1,eq_false g2,eq_true g3]
  simp -implicitDefEqProofs [mR,qT,hl,hw,hlo,hlz,dj,t1,t2,t3,eq_false g1,eq_false g2,eq_false g3]
  all_goals (repeat' split) <;> first | rfl | omega | (simp_all; done) | (simp_all; omega) | skip
 ·simp -implicitDefEqProofs [mR,qT]
theorem LB (r : bY) (hb : r.fields.length≤1073741824) : ev LI TT 237 [.agg (cw .af r)] = some (.agg (cw .own (gD r)),[.dead]):=by
 rw [av (b:=yU) (rs:=[.c 2 3 true 59]) (n:=1) rfl rfl]
 have e : r.fields.flatMap (fun f=>if cU f = true then [f] else []) = r.fields.filter cU:=by generalize r.fields = l; induction l with | nil=>rfl | cons a l ih=>simp only [List.flatMap_cons,List.filter_cons,ih]; split <;> simp
 have u1:=Jv  r hb
 try simp at u1
 simp -implicitDefEqProofs [yU,u1,gD,e]
 all_goals (repeat' split) <;> first | rfl | omega | (simp_all; done) | (simp_all; omega) | skip
theorem IA (r : bY) (hb : r.fields.length≤1073741824) : aF (ai (ev LI TT) (aj TT) mw) [(1,.ptr .own (cw .af r)),(2,.ptr .own [.int .i64 0,.row .own 2 [],.str ⟨#[]⟩]),(3,.ptr .own [.int .i64 304,.row .own 2 (([]).map aA),.str ⟨#[]⟩]),(7,.az 1 [] 0 1),(8,.row .af 2 (r.fields.map aA)),(9,.int .i64 r.fields.length),(10,.int .i64 0)] = some (.exit 0,[(1,.ptr .own (cw .af r)),(2,.ptr .own [.int .i64 0,.row .own 2 [],.str ⟨#[]⟩]),(3,.ptr .own [.int .i64 304,.row .own 2 ((((r.fields).flatMap (fun f=>if cU f = true then [f] else []))).map aA),.str ⟨#[]⟩]),(7,.az 1 [] 0 1),(8,.row .af 2 (r.fields.map aA)),(9,.int .i64 r.fields.length),(10,.int .i64 (r.fields).length),(11,.bool false)]):=by
 refine od (f:=ai (ev LI TT) (aj TT) mw) (r.fields) (fun f=>if cU f = true then [f] else []) (fun i out=>[(1,.ptr .own (cw .af r)),(2,.ptr .own [.int .i64 0,.row .own 2 [],.str ⟨#[]⟩]),(3,.ptr .own [.int .i64 304,.row .own 2 ((out).map aA),.str ⟨#[]⟩]),(7,.az 1 [] 0 1),(8,.row .af 2 (r.fields.map aA)),(9,.int .i64 r.fields.length),(10,.int .i64 i)]) (fun out=>[(1,.ptr .own (cw .af r)),(2,.ptr .own [.int .i64 0,.row .own 2 [],.str ⟨#[]⟩]),(3,.ptr .own [.int .i64 304,.row .own 2 ((out).map aA),.str ⟨#[]⟩]),(7,.az 1 [] 0 1),(8,.row .af 2 (r.fields.map aA)),(9,.int .i64 r.fields.length),(10,.int .i64 (r.fields).length),(11,.bool false)]) (fun i b out hi hl hout=>?_) (fun out hout=>?_)
 ·have hw:=aL i (by first | omega | (simp at hl; omega))
  obtain ⟨_,rfl⟩:=List.getElem?_eq_some_iff.1 hi
  have hlo : out.length≤i:=by rw [hout]; exact A5 _ (fun f=>by split <;> simp) _ _
  have hlz : (out.length + 1) * 32≤140737488355328:=by omega
  unfold cU
  have t1 : (⟨#[101,116,97,103]⟩ : ByteArray) = ⟨ga.toArray⟩:=rfl
  have t2 : (⟨#[118,97,114,121]⟩ : ByteArray) = ⟨eo.toArray⟩:=rfl
  have t3 : (⟨#[99,97,99,104,101,45,99,111,110,116,114,111,108]⟩ : ByteArray) = ⟨fM.toArray⟩:=rfl
  by_cases g1 : (r.fields[i]).name = ga
  ·simp -implicitDefEqProofs [mw,pU,hl,hw,hlo,hlz,dj,t1,t2,t3,eq_true g1]
  by_cases g2 : (r.fields[i]).name = eo
  ·simp -implicitDefEqProofs [mw,pU,hl,hw,hlo,hlz,dj,t1,t2,t3,eq_false g1,eq_true g2]
  by_cases g3 : (r.fields[i]).name = fM
  ·simp -implicitDefEqProofs [mw,pU,hl,hw,hlo,hlz,dj,t1,t2,t3,eq_false g1,eq_false g2,eq_true g3]
  simp -implicitDefEqProofs [mw,pU,hl,hw,hlo,hlz,dj,t1,t2,t3,eq_false g1,eq_false g2,eq_false g3]
  all_goals (repeat' split) <;> first | rfl | omega | (simp_all; done) | (simp_all; omega) | skip
 ·simp -implicitDefEqProofs [mw,pU]
theorem Ko (r : bY) (hb : r.fields.length≤1073741824) : ev LI TT 248 [.agg (cw .af r)] = some (.agg (cw .own (gD r)),[.dead]):=by
 rw [av (b:=xd) (rs:=[.c 2 3 true 59]) (n:=1) rfl rfl]
 have e : r.fields.flatMap (fun f=>if cU f = true then [f] else []) = r.fields.filter cU:=by generalize r.fields = l; induction l with | nil=>rfl | cons a l ih=>simp only [List.flatMap_cons,List.filter_cons,ih]; split <;> simp
 have u1:=IA  r hb
 try simp at u1
 simp -implicitDefEqProofs [xd,u1,gD,e]
 all_goals (repeat' split) <;> first | rfl | omega | (simp_all; done) | (simp_all; omega) | skip
end M
namespace M
open Go
theorem JK (ps : List (ah×ah)) (hb : ps.length≤9223372036854775807) : aF (ai (ev LI TT) (aj TT) vr) [(0,.row .af 1 (ps.map fun x=>eS x.1)),(1,.row .af 1 (ps.map fun x=>eS x.2)),(12,.int .i64 ps.length),(13,.int .i64 0)] = if aI bM (ps) = true then some (.exit 0,[(0,.row .af 1 (ps.map fun x=>eS x.1)),(1,.row .af 1 (ps.map fun x=>eS x.2)),(12,.int .i64 ps.length),(13,.int .i64 ps.length),(14,.bool false)]) else some (.ret,[(4,.bool false)]):=by
 refine cq (f:=ai (ev LI TT) (aj TT) vr) (ps) (fun i=>[(0,.row .af 1 (ps.map fun x=>eS x.1)),(1,.row .af 1 (ps.map fun x=>eS x.2)),(12,.int .i64 ps.length),(13,.int .i64 i)]) bM _ _ (fun i b hi hl=>?_) ?_
 ·have hw:=aL i (by first | omega | (simp at hl; omega))
  obtain ⟨_,rfl⟩:=List.getElem?_eq_some_iff.1 hi
  simp -implicitDefEqProofs [vr,DF,hl,hw,bM]
  first | done | (split <;> simp_all)
 ·simp -implicitDefEqProofs [vr,DF]
theorem ED (a b : List ah) (hb : a.length≤9223372036854775807) : ev LI TT 243 [.row .af 1 (a.map eS),.row .af 1 (b.map eS)] = some (.bool (decide (a = b)),[.dead,.dead]):=by
 rw [av (b:=zI) (rs:=[.t 4]) (n:=2) rfl rfl]
 simp -implicitDefEqProofs [zI]
 by_cases h : a.length = b.length
 ·obtain ⟨ps,rfl,rfl⟩:=iJ h
  have h1:=JK  ps (by simpa using hb)
  have h2:=hU ps
  simp at h1
  cases h3 : aI bM ps <;> rw [h3] at h1 h2 <;> simp [h1,Function.comp_def,← h2]
 ·have : ¬ a = b:=fun e=>h (by rw [e])
  simp [this]
  omega
theorem Iq : ∀ {a b : List ah},(∀ x∈a.zip b,¬ (decide (x.1≠x.2)) = true)→a.length = b.length→a = b
 | [],[],_,_=>rfl
 | x :: a,y :: b,h,hl=>by
  have h1:=h (x,y) (by simp)
  simp at h1
  have h2 : a = b:=Iq (fun z hz=>h z (by simp only [List.zip_cons_cons]; exact List.mem_cons_of_mem _ hz)) (by simpa using hl)
  rw [h1,h2]
theorem W8 {a b : List ah} {x : ah×ah} (hx : x∈a.zip b) (h : x.1≠x.2) : a≠b:=by
 rintro rfl
 have : ∀ {l : List ah} {x : ah×ah},x∈l.zip l→x.1 = x.2:=by
  intro l
  induction l with
  | nil=>intro x h; simp at h
  | cons y l ih =>
   intro x h
   simp only [List.zip_cons_cons,List.mem_cons] at h
   rcases h with rfl | h
   ·rfl
   ·exact ih h
 exact h (this hx)
theorem JH (a b : List ah) (hb : a.length≤9223372036854775807) (iw : b.length≤9223372036854775807) : aF (ai (ev LI TT) (aj TT) qX) [(0,.row .af 1 (a.map eS)),(1,.row .af 1 (b.map eS)),(5,.int .i64 0)] = (cF (fun x=>decide (x.1≠x.2)) 0 (a.zip b)).elim (some (.exit 0,[(0,.row .af 1 (a.map eS)),(1,.row .af 1 (b.map eS)),(5,.int .i64 (a.zip b).length),(15,.bool false)])) fun x=>some (.ret,(fun (i : Nat) b=>[(4,.bool false)]) x.1 x.2):=by
 refine oc (f:=ai (ev LI TT) (aj TT) qX) (a.zip b) (fun i=>[(0,.row .af 1 (a.map eS)),(1,.row .af 1 (b.map eS)),(5,.int .i64 i)]) (fun x=>decide (x.1≠x.2)) (fun (i : Nat) b=>[(4,.bool false)]) _ (fun i b hi hl=>?_) ?_
 ·have hw:=aL i (by first | omega | (simp at hl; omega))
  obtain ⟨_,rfl⟩:=List.getElem?_eq_some_iff.1 hi
  have ha : i < a.length:=by simp at hl; omega
  have hb' : i < b.length:=by simp at hl; omega
  simp -implicitDefEqProofs [qX,ze,hl,hw,ha,hb']
 ·have hz : (a.zip b).length = min a.length b.length:=by simp
  rw [hz]
  by_cases hh : a.length≤b.length
  ·rw [Nat.min_eq_left hh]; simp -implicitDefEqProofs [qX,ze]
  have h1 : b.length≤a.length:=by omega
  have h2 : (b.length : Int) < a.length:=by omega
  have h3 : b.length < a.length:=by omega
  rw [Nat.min_eq_right h1]
  simp -implicitDefEqProofs [qX,ze,h2,h3]
theorem EB (a b : List ah) (hb : a.length≤9223372036854775807) (iw : b.length≤9223372036854775807) : ev LI TT 175 [.row .af 1 (a.map eS),.row .af 1 (b.map eS)] = some (.bool (decide (a = b)),[.dead,.dead]):=by
 rw [av (b:=qY) (rs:=[.t 4]) (n:=2) rfl rfl]
 have h:=JH  a b hb iw
 cases g : cF (fun x : ah×ah=>decide (x.1≠x.2)) 0 (a.zip b) with
 | some x =>
  obtain ⟨i,x⟩:=x
  obtain ⟨_,h1,h2⟩:=pF g
  have h3 : ¬ a = b:=W8 (List.mem_of_getElem? h1) (by simpa using h2)
  rw [g] at h; simp only [Option.elim] at h; simp -implicitDefEqProofs [qY,h,h3]
 | none =>
 have h1:=A0.1 g
 rw [g] at h
 simp only [Option.elim] at h
 try simp at h
 by_cases hl : a.length = b.length
 ·have h2:=Iq h1 hl
  subst h2
  try simp at h
  simp -implicitDefEqProofs [qY,h]
 have h3 : ¬ a = b:=fun e=>hl (by rw [e])
 have h4 : ¬ (a.length : Int) = b.length:=by omega
 simp -implicitDefEqProofs [qY,h,h3,h4]
 all_goals (repeat' split) <;> first | rfl | omega | (simp_all; done) | (simp_all; omega) | skip
theorem Lz (q : Rq) (fs : List aD) (h1 : q.fields.length≤1073741824) (h2 : fs.length≤1073741824) : ev LI TT 236 [.agg (dQ .af q),.row .af 2 (fs.map aA)] = some (.bool ((mS q fs)),[.dead,.dead]):=by
 rw [av (b:=qS) (rs:=[.t 4]) (n:=2) rfl rfl]
 unfold mS
 cases e1 : b8 q.fields jQ with
 | none=>have u1:=jw q.fields jQ (by omega); have u2:=jw fs ga (by omega); rw [e1] at u1; simp at u1 u2; simp -implicitDefEqProofs [qS,u1,u2]
 | some a =>
 cases e2 : b8 fs ga with
 | none=>have u1:=jw q.fields jQ (by omega); have u2:=jw fs ga (by omega); rw [e1] at u1; rw [e2] at u2; simp at u1 u2; simp -implicitDefEqProofs [qS,u1,u2]
 | some b =>
 have u1:=jw  q.fields jQ (by omega)
 try simp at u1
 have u2:=jw  fs ga (by omega)
 try simp at u2
 rw [e1] at u1
 rw [e2] at u2
 simp at u1 u2
 simp -implicitDefEqProofs [qS,u1,u2]
 all_goals (repeat' split) <;> first | rfl | omega | (simp_all; done) | (simp_all; omega) | skip
theorem Kk (q : Rq) (fs : List aD) (h1 : q.fields.length≤1073741824) (h2 : fs.length≤1073741824) : ev LI TT 247 [.agg (dQ .af q),.row .af 2 (fs.map aA)] = some (.bool ((mS q fs)),[.dead,.dead]):=by
 rw [av (b:=pT) (rs:=[.t 4]) (n:=2) rfl rfl]
 unfold mS
 cases e1 : b8 q.fields jQ with
 | none=>have u1:=jv q.fields jQ (by omega); have u2:=jv fs ga (by omega); rw [e1] at u1; simp at u1 u2; simp -implicitDefEqProofs [pT,u1,u2]; try (split <;> simp_all)
 | some a =>
 cases e2 : b8 fs ga with
 | none=>have u1:=jv q.fields jQ (by omega); have u2:=jv fs ga (by omega); rw [e1] at u1; rw [e2] at u2; simp at u1 u2; simp -implicitDefEqProofs [pT,u1,u2]
 | some b =>
 have u1:=jv  q.fields jQ (by omega)
 try simp at u1
 have u2:=jv  fs ga (by omega)
 try simp at u2
 rw [e1] at u1
 rw [e2] at u2
 simp at u1 u2
 simp -implicitDefEqProofs [pT,u1,u2,eq_comm (a:=b)]
 all_goals (repeat' split) <;> first | rfl | omega | (simp_all; done) | (simp_all; omega) | skip
theorem Ly (x : Int) (y : Int) : ev LI TT 256 [.int .i64 x,.int .i64 y] = some (.int .i64 ((plus x y)),[.dead,.dead]):=by
 rw [av (b:=yT) (rs:=[.t 4]) (n:=2) rfl rfl]
 unfold plus within
 have e1 : ∀ z : Int,(if (if 0 < z then z else 0) < 1000000 then (if 0 < z then z else 0) else 1000000) = max 0 (min z 1000000):=fun z=>by (repeat' split) <;> omega
 have e2 : ∀ z : Int,(if (if z < 0 then 0 else z) < 1000000 then (if z < 0 then 0 else z) else 1000000) = max 0 (min z 1000000):=fun z=>by (repeat' split) <;> omega
 have w:=bV (n:=max 0 (min x 1000000) + max 0 (min y 1000000)) (by omega) (by omega)
 simp -implicitDefEqProofs [yT,e1,e2,w]
 try omega
theorem Kj (x : Int) (y : Int) : ev LI TT 301 [.int .i64 x,.int .i64 y] = some (.int .i64 ((plus x y)),[.dead,.dead]):=by
 rw [av (b:=w8) (rs:=[.t 4]) (n:=2) rfl rfl]
 unfold plus within
 have w:=bV (n:=max 0 (min x 1000000) + max 0 (min y 1000000)) (by omega) (by omega)
 simp -implicitDefEqProofs [w8,w]
 try omega
theorem LJ (t : Int) (now : Int) (h1 : bI t) (h2 : bI now) : ev LI TT 257 [.int .i64 t,.int .i64 now] = some (.int .i64 ((since t now)),[.dead,.dead]):=by
 rw [av (b:=oE) (rs:=[.t 4]) (n:=2) rfl rfl]
 obtain ⟨a1,a2⟩:=h1
 obtain ⟨b1,b2⟩:=h2
 unfold since
 by_cases g1 : now≤t
 ·simp -implicitDefEqProofs [oE,g1]
 by_cases g2 : t < 0
 ·have w:=bV (n:=t + 1000000) (by omega) (by omega)
  by_cases g3 : t + 1000000 < now
  ·simp -implicitDefEqProofs [oE,g1,g2,g3,w]; omega
  have w2:=bV (n:=now - t) (by omega) (by omega)
  simp -implicitDefEqProofs [oE,g1,g2,g3,w,w2]; (repeat' split) <;> omega
 have w2:=bV (n:=now - t) (by omega) (by omega)
 simp -implicitDefEqProofs [oE,g1,g2,w2]
 (repeat' split) <;> omega
theorem Kw (t : Int) (now : Int) (h1 : bI t) (h2 : bI now) : ev LI TT 302 [.int .i64 t,.int .i64 now] = some (.int .i64 ((since t now)),[.dead,.dead]):=by
 rw [av (b:=pY) (rs:=[.t 4]) (n:=2) rfl rfl]
 obtain ⟨a1,a2⟩:=h1
 obtain ⟨b1,b2⟩:=h2
 unfold since
 by_cases g1 : now≤t
 ·simp -implicitDefEqProofs [pY,g1]
 by_cases g2 : now - t≤9223372036854775807
 ·have w2:=bV (n:=now - t) (by omega) (by omega)
  have w3 : ¬ now - t < 0:=by omega
  simp -implicitDefEqProofs [pY,g1,w2,w3]; (repeat' split) <;> omega
 have w4 : IntKind.i64.wrap (now - t) < 0:=by rw [IntKind.wrap_i64]; omega
 simp -implicitDefEqProofs [pY,g1,w4]
 (repeat' split) <;> omega
theorem Ep (fs : List aD) (t : Int) (now : Int) (hb : wL aC fs≤1073741824) (h1 : bI t) (h2 : bI now) : ev LI TT 164 [.row .af 2 (fs.map aA),.int .i64 t,.int .i64 now] = some (.int .i64 ((cC fs t now)),[.dead,.dead,.dead]):=by
 rw [av (b:=qN) (rs:=[.t 6]) (n:=3) rfl rfl]
 have hfl:=aK (w:=aC) fs
 have hg:=nD fs cx
 have u1:=jw fs cx (by omega)
 have u2:=Et ((b8 fs cx).getD []) (by omega)
 have u3:=LJ t now h1 h2
 have u4:=Ly (rD fs) (since t now)
 try simp at u3 u4
 unfold cC
 unfold rD at u4 ⊢
 cases e1 : b8 fs cx with
 | none =>
  rw [e1] at u1 u2 u4
  have e0 : cr [] = none:=by simp [cr,gE,AL]
  simp [e0] at u1 u2 u4
  simp -implicitDefEqProofs [qN,u1,u2,u3,u4]
 | some v =>
 rw [e1] at u1 u2 u4
 cases e2 : cr v with
 | none =>
  simp [e2] at u1 u2 u4
  simp -implicitDefEqProofs [qN,u1,u2,u3,u4,e2]
 | some n =>
 simp [e2] at u1 u2 u4
 simp -implicitDefEqProofs [qN,u1,u2,u3,u4,e2]
 all_goals (repeat' split) <;> first | rfl | omega | (simp_all; done) | (simp_all; omega) | skip
theorem D9 (fs : List aD) (t : Int) (now : Int) (hb : wL aC fs≤1073741824) (h1 : bI t) (h2 : bI now) : ev LI TT 240 [.row .af 2 (fs.map aA),.int .i64 t,.int .i64 now] = some (.int .i64 ((cC fs t now)),[.dead,.dead,.dead]):=by
 rw [av (b:=pQ) (rs:=[.t 6]) (n:=3) rfl rfl]
 have hfl:=aK (w:=aC) fs
 have hg:=nD fs cx
 have u1:=jv fs cx (by omega)
 have u2:=Ec ((b8 fs cx).getD []) (by omega)
 have u3:=Kw t now h1 h2
 have u4:=Kj (rD fs) (since t now)
 try simp at u3 u4
 unfold cC
 unfold rD at u4 ⊢
 cases e1 : b8 fs cx with
 | none =>
  rw [e1] at u1 u2 u4
  have e0 : cr [] = none:=by simp [cr,gE,AL]
  simp [e0] at u1 u2 u4
  simp -implicitDefEqProofs [pQ,u1,u2,u3,u4]
 | some v =>
 rw [e1] at u1 u2 u4
 cases e2 : cr v with
 | none =>
  simp [e2] at u1 u2 u4
  simp -implicitDefEqProofs [pQ,u1,u2,u3,u4,e2]
 | some n =>
 simp [e2] at u1 u2 u4
 simp -implicitDefEqProofs [pQ,u1,u2,u3,u4,e2]
 all_goals (repeat' split) <;> first | rfl | omega | (simp_all; done) | (simp_all; omega) | skip
end M
namespace M
open Go
theorem Jr (o : Ob) (hb : wL wS o.values≤1073741824) : aF (ai (ev LI TT) (aj TT) uK) [(1,.ptr .own (ek .af o)),(3,.int .i64 0)] = if aI gF (o.values) = true then some (.exit 0,[(1,.ptr .own (ek .af o)),(3,.int .i64 (o.values).length),(49,.bool false)]) else some (.ret,[(2,.bool false)]):=by
 refine cq (f:=ai (ev LI TT) (aj TT) uK) (o.values) (fun i=>[(1,.ptr .own (ek .af o)),(3,.int .i64 i)]) gF _ _ (fun i b hi hl=>?_) ?_
 ·have hw:=aL i (by have:=aK (w:=wS) o.values; omega)
  obtain ⟨_,rfl⟩:=List.getElem?_eq_some_iff.1 hi
  have hm:=zF (List.getElem_mem hl)
  have u1:=Ar  o.values[i] (by omega)
  try simp at u1
  simp -implicitDefEqProofs [uK,C6,hl,hw,u1]
  all_goals (repeat' split) <;> first | rfl | omega | (simp_all; done) | (simp_all; omega) | skip
 ·simp -implicitDefEqProofs [uK,C6]
theorem Ev (o : Ob) (hb : bA o≤1073741824) : ev LI TT 108 [.agg (ek .af o)] = some (.bool ((jg o)),[.dead]):=by
 rw [av (b:=iH) (rs:=[.t 2]) (n:=1) rfl rfl]
 have hw : bA o = o.path.length + wL wS o.names + wL wS o.values + bk o.resp:=rfl
 have wR : bk o.resp = wL aC o.resp.fields + o.resp.body.length:=rfl
 have hn:=aK (w:=wS) o.names
 have hv:=aK (w:=wS) o.values
 have hvl:=Ic o.resp.fields
 unfold jg CH
 have u1:=Ao  o.resp (by omega)
 try simp at u1
 have u2:=At  o.path (by omega)
 try simp at u2
 have u3:=LM  o.names (by omega) (fun w hw=>by have:=zF hw; omega)
 try simp at u3
 have u4:=LD  o.resp.fields (by omega)
 try simp at u4
 have u5:=EB  o.names (j8 o.resp.fields) (by omega) (by omega)
 try simp at u5
 have u6:=Jr  o (by omega)
 try simp at u6
 by_cases g1 : iF o.resp = true
 rotate_left
 ·simp -implicitDefEqProofs [iH,u1,u2,u3,u4,u5,u6,g1]
 by_cases g2 : gb o.path = true
 rotate_left
 ·simp -implicitDefEqProofs [iH,u1,u2,u3,u4,u5,u6,g1,g2]
 by_cases g3 : 0≤o.t
 rotate_left
 ·simp -implicitDefEqProofs [iH,u1,u2,u3,u4,u5,u6,g1,g2,eq_false g3]
 by_cases g4 : o.t≤1000000
 rotate_left
 ·simp -implicitDefEqProofs [iH,u1,u2,u3,u4,u5,u6,g1,g2,eq_true g3,eq_false g4]
 by_cases g5 : aI eH o.names = true
 rotate_left
 ·simp -implicitDefEqProofs [iH,u1,u2,u3,u4,u5,u6,g1,g2,eq_true g3,eq_true g4,g5]
 by_cases g6 : (o.names.length : Int)≤4
 rotate_left
 ·simp -implicitDefEqProofs [iH,u1,u2,u3,u4,u5,u6,g1,g2,eq_true g3,eq_true g4,g5,eq_false g6]
 by_cases g7 : o.names = j8 o.resp.fields
 rotate_left
 ·simp -implicitDefEqProofs [iH,u1,u2,u3,u4,u5,u6,g1,g2,eq_true g3,eq_true g4,g5,eq_true g6,eq_false g7]
 by_cases g8 : o.values.length = o.names.length
 rotate_left
 ·have fU : ¬ (o.values.length : Int) = o.names.length:=by omega
  simp -implicitDefEqProofs [iH,u1,u2,u3,u4,u5,u6,g1,g2,eq_true g3,eq_true g4,g5,eq_true g6,eq_true g7,eq_false g8,eq_false fU]
 have fU : (o.values.length : Int) = o.names.length:=by omega
 simp -implicitDefEqProofs [iH,u1,u2,u3,u4,u5,u6,g1,g2,eq_true g3,eq_true g4,g5,eq_true g6,eq_true g7,eq_true g8,eq_true fU]
 all_goals (repeat' split) <;> first | rfl | omega | (simp_all; done) | (simp_all; omega) | skip
theorem Iy (o : Ob) (hb : wL wS o.values≤1073741824) : aF (ai (ev LI TT) (aj TT) sX) [(1,.ptr .own (ek .af o)),(5,.az 1 [] 0 2),(6,.row .af 1 (o.values.map eS)),(7,.int .i64 o.values.length),(8,.int .i64 0)] = if aI gF (o.values) = true then some (.exit 0,[(1,.ptr .own (ek .af o)),(5,.az 1 [] 0 2),(6,.row .af 1 (o.values.map eS)),(7,.int .i64 o.values.length),(8,.int .i64 (o.values).length),(9,.bool false)]) else some (.ret,[(2,.bool false)]):=by
 refine cq (f:=ai (ev LI TT) (aj TT) sX) (o.values) (fun i=>[(1,.ptr .own (ek .af o)),(5,.az 1 [] 0 2),(6,.row .af 1 (o.values.map eS)),(7,.int .i64 o.values.length),(8,.int .i64 i)]) gF _ _ (fun i b hi hl=>?_) ?_
 ·have hw:=aL i (by have:=aK (w:=wS) o.values; omega)
  obtain ⟨_,rfl⟩:=List.getElem?_eq_some_iff.1 hi
  have hm:=zF (List.getElem_mem hl)
  have u1:=z6  o.values[i] (by omega)
  try simp at u1
  simp -implicitDefEqProofs [sX,BJ,hl,hw,u1]
  all_goals (repeat' split) <;> first | rfl | omega | (simp_all; done) | (simp_all; omega) | skip
 ·simp -implicitDefEqProofs [sX,BJ]
theorem Ed (o : Ob) (hb : bA o≤1073741824) : ev LI TT 205 [.agg (ek .af o)] = some (.bool ((jg o)),[.dead]):=by
 rw [av (b:=iB) (rs:=[.t 2]) (n:=1) rfl rfl]
 have hw : bA o = o.path.length + wL wS o.names + wL wS o.values + bk o.resp:=rfl
 have wR : bk o.resp = wL aC o.resp.fields + o.resp.body.length:=rfl
 have hn:=aK (w:=wS) o.names
 have hv:=aK (w:=wS) o.values
 have hvl:=Ic o.resp.fields
 unfold jg CH
 have u1:=zY  o.resp (by omega)
 try simp at u1
 have u2:=z8  o.path (by omega)
 try simp at u2
 have u3:=Ku  o.names (by omega) (fun w hw=>by have:=zF hw; omega)
 try simp at u3
 have u4:=Kr  o.resp.fields (by omega)
 try simp at u4
 have u5:=ED  o.names (j8 o.resp.fields) (by omega)
 try simp at u5
 have u6:=Iy  o (by omega)
 try simp at u6
 by_cases g1 : aI gF o.values = true
 rotate_left
 ·simp -implicitDefEqProofs [iB,u1,u2,u3,u4,u5,u6,g1]
 by_cases g2 : gb o.path = true
 rotate_left
 ·simp -implicitDefEqProofs [iB,u1,u2,u3,u4,u5,u6,g1,g2]
 by_cases g3 : 0≤o.t
 rotate_left
 ·simp -implicitDefEqProofs [iB,u1,u2,u3,u4,u5,u6,g1,g2,eq_false g3]
 by_cases g4 : o.t≤1000000
 rotate_left
 ·simp -implicitDefEqProofs [iB,u1,u2,u3,u4,u5,u6,g1,g2,eq_true g3,eq_false g4]
 by_cases g8 : o.values.length = o.names.length
 rotate_left
 ·have fU : ¬ (o.values.length : Int) = o.names.length:=by omega
  simp -implicitDefEqProofs [iB,u1,u2,u3,u4,u5,u6,g1,g2,eq_true g3,eq_true g4,eq_false g8,eq_false fU]
 have fU : (o.values.length : Int) = o.names.length:=by omega
 by_cases h5 : aI eH o.names = true
 rotate_left
 ·simp -implicitDefEqProofs [iB,u1,u2,u3,u4,u5,u6,g1,g2,eq_true g3,eq_true g4,eq_true g8,eq_true fU,h5]
 by_cases h6 : (o.names.length : Int)≤4
 rotate_left
 ·simp -implicitDefEqProofs [iB,u1,u2,u3,u4,u5,u6,g1,g2,eq_true g3,eq_true g4,eq_true g8,eq_true fU,h5,eq_false h6]
 by_cases h7 : iF o.resp = true
 rotate_left
 ·simp -implicitDefEqProofs [iB,u1,u2,u3,u4,u5,u6,g1,g2,eq_true g3,eq_true g4,eq_true g8,eq_true fU,h5,eq_true h6,h7]
 simp -implicitDefEqProofs [iB,u1,u2,u3,u4,u5,u6,g1,g2,eq_true g3,eq_true g4,eq_true g8,eq_true fU,h5,eq_true h6,h7]
 all_goals (repeat' split) <;> first | rfl | omega | (simp_all; done) | (simp_all; omega) | skip
theorem Lq (b : Bn) (hb : bq b≤1073741824) : ev LI TT 94 [.agg (cg b)] = some (.bool ((ju b)),[.dead]):=by
 rw [av (b:=k7) (rs:=[.t 2]) (n:=1) rfl rfl]
 have hw : bq b = b.a.length + b.b.length:=rfl
 unfold ju
 have u1:=At  b.a (by omega)
 try simp at u1
 have u2:=Ap  b.a (by omega)
 try simp at u2
 have u3:=Ar  b.b (by omega)
 try simp at u3
 by_cases g1 : 0≤b.t
 rotate_left
 ·simp -implicitDefEqProofs [k7,u1,u2,u3,eq_false g1]
 by_cases g2 : b.t≤1000000
 rotate_left
 ·simp -implicitDefEqProofs [k7,u1,u2,u3,eq_true g1,eq_false g2]
 by_cases h1 : b.kind = 1
 ·by_cases h2 : gb b.a = true <;> simp -implicitDefEqProofs [k7,u1,u2,u3,eq_true g1,eq_true g2,h1,h2]
 by_cases h2 : b.kind = 2
 ·by_cases h3 : gb b.a = true <;> simp -implicitDefEqProofs [k7,u1,u2,u3,eq_true g1,eq_true g2,h2,h3]
 by_cases h3 : b.kind = 3
 ·by_cases h4 : eH b.a = true <;> simp -implicitDefEqProofs [k7,u1,u2,u3,eq_true g1,eq_true g2,h3,h4]
 simp -implicitDefEqProofs [k7,u1,u2,u3,eq_true g1,eq_true g2,h1,h2,h3]
 all_goals (repeat' split) <;> first | rfl | omega | (simp_all; done) | (simp_all; omega) | skip
theorem J8 (b : Bn) (hb : bq b≤1073741824) : ev LI TT 178 [.agg (cg b)] = some (.bool ((ju b)),[.dead]):=by
 rw [av (b:=kJ) (rs:=[.t 2]) (n:=1) rfl rfl]
 have hw : bq b = b.a.length + b.b.length:=rfl
 unfold ju
 have u1:=z8  b.a (by omega)
 try simp at u1
 have u2:=zZ  b.a (by omega)
 try simp at u2
 have u3:=z6  b.b (by omega)
 try simp at u3
 by_cases g1 : 0≤b.t
 rotate_left
 ·simp -implicitDefEqProofs [kJ,u1,u2,u3,eq_false g1]
 by_cases g2 : b.t≤1000000
 rotate_left
 ·simp -implicitDefEqProofs [kJ,u1,u2,u3,eq_true g1,eq_false g2]
 by_cases h1 : b.kind = 1
 ·by_cases h2 : gb b.a = true <;> simp -implicitDefEqProofs [kJ,u1,u2,u3,eq_true g1,eq_true g2,h1,h2]
 by_cases h2 : b.kind = 2
 ·by_cases h3 : gb b.a = true <;> simp -implicitDefEqProofs [kJ,u1,u2,u3,eq_true g1,eq_true g2,h2,h3]
 by_cases h3 : b.kind = 3
 ·by_cases h4 : eH b.a = true <;> simp -implicitDefEqProofs [kJ,u1,u2,u3,eq_true g1,eq_true g2,h3,h4]
 simp -implicitDefEqProofs [kJ,u1,u2,u3,eq_true g1,eq_true g2,h1,h2,h3]
 all_goals (repeat' split) <;> first | rfl | omega | (simp_all; done) | (simp_all; omega) | skip
@[simp] theorem Xx (t : Int) : ev LI TT 219 [.int .i64 t] = some (.bool ((decide (0≤t∧t≤19))),[.dead]):=by
 rw [av (b:=xA) (rs:=[.t 2]) (n:=1) rfl rfl]
 simp -implicitDefEqProofs [xA]
 all_goals (repeat' split) <;> first | rfl | omega | (simp_all; done) | (simp_all; omega) | skip
@[simp] theorem Xy (t : Int) : ev LI TT 179 [.int .i64 t] = some (.bool ((decide (5≤t∧t≤19))),[.dead]):=by
 rw [av (b:=xB) (rs:=[.t 2]) (n:=1) rfl rfl]
 simp -implicitDefEqProofs [xB]
 all_goals (repeat' split) <;> first | rfl | omega | (simp_all; done) | (simp_all; omega) | skip
theorem Jk (d : eK) (hb : d.pending.length≤9223372036854775807) : aF (ai (ev LI TT) (aj TT) uG) [(1,.ptr .own (gm .af d)),(3,.int .i64 0)] = if aI oo (d.pending) = true then some (.exit 0,[(1,.ptr .own (gm .af d)),(3,.int .i64 (d.pending).length),(8,.bool false)]) else some (.ret,[(2,.bool false)]):=by
 refine cq (f:=ai (ev LI TT) (aj TT) uG) (d.pending) (fun i=>[(1,.ptr .own (gm .af d)),(3,.int .i64 i)]) oo _ _ (fun i b hi hl=>?_) ?_
 ·have hw:=aL i (by first | omega | (simp at hl; omega))
  obtain ⟨_,rfl⟩:=List.getElem?_eq_some_iff.1 hi
  simp -implicitDefEqProofs [uG,C4,hl,hw,oo]
  all_goals (repeat' split) <;> first | rfl | omega | (simp_all; done) | (simp_all; omega) | skip
 ·simp -implicitDefEqProofs [uG,C4]
theorem Lu (d : eK) (hb : d.pending.length≤9223372036854775807) : ev LI TT 119 [.agg (gm .af d)] = some (.bool ((om d)),[.dead]):=by
 rw [av (b:=yM) (rs:=[.t 2]) (n:=1) rfl rfl]
 unfold om
 have u1:=Jk  d hb
 try simp at u1
 simp -implicitDefEqProofs [yM,u1]
 all_goals (repeat' split) <;> first | rfl | omega | (simp_all; done) | (simp_all; omega) | skip
theorem Iu (d : eK) (hb : d.pending.length≤9223372036854775807) : aF (ai (ev LI TT) (aj TT) sR) [(1,.ptr .own (gm .af d)),(5,.az 1 [] 0 1),(6,.row .af 2 (d.pending.map eW)),(7,.int .i64 d.pending.length),(8,.int .i64 0)] = if aI oo (d.pending) = true then some (.exit 0,[(1,.ptr .own (gm .af d)),(5,.az 1 [] 0 1),(6,.row .af 2 (d.pending.map eW)),(7,.int .i64 d.pending.length),(8,.int .i64 (d.pending).length),(9,.bool false)]) else some (.ret,[(2,.bool false)]):=by
 refine cq (f:=ai (ev LI TT) (aj TT) sR) (d.pending) (fun i=>[(1,.ptr .own (gm .af d)),(5,.az 1 [] 0 1),(6,.row .af 2 (d.pending.map eW)),(7,.int .i64 d.pending.length),(8,.int .i64 i)]) oo _ _ (fun i b hi hl=>?_) ?_
 ·have hw:=aL i (by first | omega | (simp at hl; omega))
  obtain ⟨_,rfl⟩:=List.getElem?_eq_some_iff.1 hi
  simp -implicitDefEqProofs [sR,BI,hl,hw,oo]
  all_goals (repeat' split) <;> first | rfl | omega | (simp_all; done) | (simp_all; omega) | skip
 ·simp -implicitDefEqProofs [sR,BI]
theorem Ke (d : eK) (hb : d.pending.length≤9223372036854775807) : ev LI TT 128 [.agg (gm .af d)] = some (.bool ((om d)),[.dead]):=by
 rw [av (b:=wX) (rs:=[.t 2]) (n:=1) rfl rfl]
 unfold om
 have u1:=Iu  d hb
 try simp at u1
 simp -implicitDefEqProofs [wX,u1]
 all_goals (repeat' split) <;> first | rfl | omega | (simp_all; done) | (simp_all; omega) | skip
end M
namespace M
open Go
theorem Js (s : Sh) (hb : cv s≤1073741824) : aF (ai (ev LI TT) (aj TT) uM) [(1,.ptr .own (cl .af s)),(3,.int .i64 0)] = if aI ju (s.aX) = true then some (.exit 0,[(1,.ptr .own (cl .af s)),(3,.int .i64 (s.aX).length),(33,.bool false)]) else some (.ret,[(2,.bool false)]):=by
 refine cq (f:=ai (ev LI TT) (aj TT) uM) (s.aX) (fun i=>[(1,.ptr .own (cl .af s)),(3,.int .i64 i)]) ju _ _ (fun i b hi hl=>?_) ?_
 ·have hw:=aL i (by have mg : cv s = cZ s.bJ + wL bF s.aG + wL bq s.aX:=rfl; have:=aK (w:=bq) s.aX; omega)
  obtain ⟨_,rfl⟩:=List.getElem?_eq_some_iff.1 hi
  have mg : cv s = cZ s.bJ + wL bF s.aG + wL bq s.aX:=rfl
  have hm:=Ie (List.getElem_mem hl)
  have u1:=Lq  s.aX[i] (by omega)
  try simp at u1
  simp -implicitDefEqProofs [uM,C7,hl,hw,u1]
  all_goals (repeat' split) <;> first | rfl | omega | (simp_all; done) | (simp_all; omega) | skip
 ·simp -implicitDefEqProofs [uM,C7]
theorem Jt (s : Sh) (n : Nat) (k : Kp) (hn : n≤s.aG.length) (hb : s.aG.length≤1073741824) : aF (ai (ev LI TT) (aj TT) uN) [(1,.ptr .own (cl .af s)),(4,.int .i64 n),(5,.ptr .own (aZ .af k)),(6,.int .i64 0)] = if aI (fun y=>decide ¬ y.at_ = k.at_) (s.aG.take n) = true then some (.exit 4,[(1,.ptr .own (cl .af s)),(4,.int .i64 n),(5,.ptr .own (aZ .af k)),(6,.int .i64 (s.aG.take n).length),(92,.bool false)]) else some (.ret,[(2,.bool false)]):=by
 refine cq (f:=ai (ev LI TT) (aj TT) uN) (s.aG.take n) (fun i=>[(1,.ptr .own (cl .af s)),(4,.int .i64 n),(5,.ptr .own (aZ .af k)),(6,.int .i64 i)]) (fun y=>decide ¬ y.at_ = k.at_) _ _ (fun i b hi hl=>?_) ?_
 ·have hw:=aL i (by first | omega | (simp at hl; omega))
  obtain ⟨_,rfl⟩:=List.getElem?_eq_some_iff.1 hi
  have h1 : i < n:=by simp at hl; omega
  have h2 : i < s.aG.length:=by omega
  simp -implicitDefEqProofs [uN,C8,hl,hw,h1,h2]
  all_goals (repeat' split) <;> first | rfl | omega | (simp_all; done) | (simp_all; omega) | skip
 ·have hmin : min n s.aG.length = n:=by omega
  simp -implicitDefEqProofs [uN,C8,hmin]
theorem Ju (s : Sh) (hb : cv s≤1073741824) (hs : 1≤s.seq∧s.seq≤100000) : aF (ai (ev LI TT) (aj TT) iI) [(1,.ptr .own (cl .af s)),(4,.int .i64 0)] = if aI (gR s.seq s.aG) (s.aG.zipIdx) = true then some (.exit 2,[(1,.ptr .own (cl .af s)),(4,.int .i64 (s.aG.zipIdx).length),(47,.bool false)]) else some (.ret,[(2,.bool false)]):=by
 refine cq (f:=ai (ev LI TT) (aj TT) iI) (s.aG.zipIdx) (fun i=>[(1,.ptr .own (cl .af s)),(4,.int .i64 i)]) (gR s.seq s.aG) _ _ (fun i b hi hl=>?_) ?_
 ·have hw:=aL i (by have mg : cv s = cZ s.bJ + wL bF s.aG + wL bq s.aX:=rfl; have:=aK (w:=bF) s.aG; simp at hl; omega)
  obtain ⟨_,rfl⟩:=List.getElem?_eq_some_iff.1 hi
  simp only [List.length_zipIdx] at hl
  have mg : cv s = cZ s.bJ + wL bF s.aG + wL bq s.aX:=rfl
  have hlen:=aK (w:=bF) s.aG
  have hz : s.aG.zipIdx[i]'(by simpa using hl) = (s.aG[i],i):=by simp
  have hm:=Ig (List.getElem_mem hl)
  have hS : IntKind.i64.wrap (s.seq - 1) = s.seq - 1:=bV (by omega) (by omega)
  rw [hz]
  have hmin : min i s.aG.length = i:=by omega
  have u1:=Ev  s.aG[i].obj (by omega)
  try simp at u1
  have u2:=Jt  s i s.aG[i] (by omega) (by omega)
  try simp at u2
  by_cases g1 : jg (s.aG[i]).obj = true
  rotate_left
  ·simp -implicitDefEqProofs [iI,j0,hl,hw,u1,u2,gR,hS,hmin,g1]
  by_cases g2 : 5≤(s.aG[i]).at_
  rotate_left
  ·simp -implicitDefEqProofs [iI,j0,hl,hw,u1,u2,gR,hS,hmin,g1,eq_false g2]
  by_cases g3 : (s.aG[i]).at_≤19
  rotate_left
  ·simp -implicitDefEqProofs [iI,j0,hl,hw,u1,u2,gR,hS,hmin,g1,eq_true g2,eq_false g3]
  by_cases g4 : 1≤(s.aG[i]).seq
  rotate_left
  ·simp -implicitDefEqProofs [iI,j0,hl,hw,u1,u2,gR,hS,hmin,g1,eq_true g2,eq_true g3,eq_false g4]
  by_cases g5 : (s.aG[i]).seq≤s.seq - 1
  rotate_left
  ·simp -implicitDefEqProofs [iI,j0,hl,hw,u1,u2,gR,hS,hmin,g1,eq_true g2,eq_true g3,eq_true g4,eq_false g5]
  by_cases g6 : i = 0
  ·subst g6
   try simp at u2 hw
   simp -implicitDefEqProofs [iI,j0,hl,hw,u1,u2,gR,hS,hmin,g1,eq_true g2,eq_true g3,eq_true g4,eq_true g5]
  obtain ⟨j,rfl⟩ : ∃ j,i = j + 1:=⟨i - 1,by omega⟩
  have hj : j < s.aG.length:=by omega
  have hJ : IntKind.i64.wrap (j : Int) = j:=bV (by omega) (by omega)
  have hp:=CR s.aG j hj
  try simp at u2 hw hS
  have hpos : (0 : Int) < (j : Int) + 1:=by omega
  have hlc : (j : Int) + 1 < s.aG.length:=by omega
  have fh : (0 : Int)≤(j : Int) + 1:=by omega
  by_cases g7 : (s.aG[j]).seq < (s.aG[j + 1]).seq
  rotate_left
  ·have Bb : (s.aG[j + 1]).seq≤(s.aG[j]).seq:=by omega
   simp -implicitDefEqProofs [iI,j0,hl,hw,u1,u2,gR,hS,hmin,g1,eq_true g2,eq_true g3,eq_true g4,eq_true g5,hj,hJ,hp,hpos,hlc,fh,eq_false g7,eq_true Bb]
  have Bb : ¬ (s.aG[j + 1]).seq≤(s.aG[j]).seq:=by omega
  simp -implicitDefEqProofs [iI,j0,hl,hw,u1,u2,gR,hS,hmin,g1,eq_true g2,eq_true g3,eq_true g4,eq_true g5,hj,hJ,hp,hpos,hlc,fh,eq_true g7,eq_false Bb]
  all_goals (repeat' split) <;> first | rfl | omega | (simp_all; done) | (simp_all; omega) | skip
 ·simp -implicitDefEqProofs [iI,j0]
theorem LA (s : Sh) (hb : cv s≤1073741824) : ev LI TT 89 [.agg (cl .af s)] = some (.bool ((oG s)),[.dead]):=by
 rw [av (b:=j6) (rs:=[.t 2]) (n:=1) rfl rfl]
 have mg : cv s = cZ s.bJ + wL bF s.aG + wL bq s.aX:=rfl
 have Q1 : cZ s.bJ = wL wS s.bJ.cells + wL ck s.bJ.pending:=rfl
 have hlen:=aK (w:=ck) s.bJ.pending
 unfold oG
 have u1:=Lu  s.bJ (by omega)
 try simp at u1
 have u2:=Js  s hb
 try simp at u2
 by_cases g1 : om s.bJ = true
 rotate_left
 ·simp -implicitDefEqProofs [j6,u1,u2,g1]
 by_cases g2 : (s.aX.length : Int)≤5
 rotate_left
 ·simp -implicitDefEqProofs [j6,u1,u2,g1,eq_false g2]
 by_cases g3 : 5≤s.next
 rotate_left
 ·simp -implicitDefEqProofs [j6,u1,u2,g1,eq_true g2,eq_false g3]
 by_cases g4 : s.next≤19
 rotate_left
 ·simp -implicitDefEqProofs [j6,u1,u2,g1,eq_true g2,eq_true g3,eq_false g4]
 by_cases g5 : 1≤s.seq
 rotate_left
 ·simp -implicitDefEqProofs [j6,u1,u2,g1,eq_true g2,eq_true g3,eq_true g4,eq_false g5]
 by_cases g6 : s.seq≤100000
 rotate_left
 ·simp -implicitDefEqProofs [j6,u1,u2,g1,eq_true g2,eq_true g3,eq_true g4,eq_true g5,eq_false g6]
 have u3:=Ju s hb ⟨by omega,by omega⟩
 rw [Rw] at u3
 simp at u3
 have PW : ¬ 5 < (s.aX.length : Int):=by omega
 simp -implicitDefEqProofs [j6,u1,u2,g1,eq_true g2,eq_true g3,eq_true g4,eq_true g5,eq_true g6,u3,PW]
 all_goals (repeat' split) <;> first | rfl | omega | (simp_all; done) | (simp_all; omega) | skip
end M
namespace M
open Go
theorem Kn (x k : Kp) : ev LI TT 262 [.agg (aZ .af x),.ptr .af (aZ .af k)] = some (.bool (decide (x.at_ = k.at_)),[.dead,.dead]):=by
 rw [av (b:=w9) (rs:=[.t 3]) (n:=2) rfl rfl]
 simp -implicitDefEqProofs [w9]
 all_goals (repeat' split) <;> first | rfl | omega | (simp_all; done) | (simp_all; omega) | skip
theorem JM (l : List Kp) (k : Kp) (gf : Nat) (p : Kp→Bool) (ho : aj TT gf = true) (hf : ∀ x∈l,ev LI TT gf [.agg (aZ .af x),.ptr .af (aZ .af k)] = some (.bool (p x),[.dead,.dead])) (hb : l.length≤9223372036854775807) : aF (ai (ev LI TT) (aj TT) vw) [(0,.row .af 9 (l.map (aZ .af))),(1,.fn gf [.ptr .af (aZ .af k)]),(7,.int .i64 l.length),(8,.int .i64 0)] = (cF p 0 (l)).elim (some (.exit 0,[(0,.row .af 9 (l.map (aZ .af))),(1,.fn gf [.ptr .af (aZ .af k)]),(7,.int .i64 l.length),(8,.int .i64 (l).length),(9,.bool false)])) fun x=>some (.ret,(fun (i : Nat) b=>[(4,.int .i64 i)]) x.1 x.2):=by
 refine oc (f:=ai (ev LI TT) (aj TT) vw) (l) (fun i=>[(0,.row .af 9 (l.map (aZ .af))),(1,.fn gf [.ptr .af (aZ .af k)]),(7,.int .i64 l.length),(8,.int .i64 i)]) p (fun (i : Nat) b=>[(4,.int .i64 i)]) _ (fun i b hi hl=>?_) ?_
 ·have hw:=aL i (by first | omega | (simp at hl; omega))
  obtain ⟨_,rfl⟩:=List.getElem?_eq_some_iff.1 hi
  have u1:=hf l[i] (List.getElem_mem hl)
  try simp at u1
  simp -implicitDefEqProofs [vw,DI,hl,hw,u1,ho,xH]
  all_goals (repeat' split) <;> first | rfl | omega | (simp_all; done) | (simp_all; omega) | skip
 ·simp -implicitDefEqProofs [vw,DI]
theorem LS (l : List Kp) (k : Kp) (gf : Nat) (p : Kp→Bool) (ho : aj TT gf = true) (hf : ∀ x∈l,ev LI TT gf [.agg (aZ .af x),.ptr .af (aZ .af k)] = some (.bool (p x),[.dead,.dead])) (hb : l.length≤9223372036854775807) : ev LI TT 268 [.row .af 9 (l.map (aZ .af)),.fn gf [.ptr .af (aZ .af k)]] = some (.int .i64 ((cF p 0 l).elim (-1) fun x=>(x.1 : Int)),[.dead,.dead]):=by
 rw [av (b:=vz) (rs:=[.t 4]) (n:=2) rfl rfl]
 have u1:=JM  l k gf p ho hf hb
 try simp at u1
 cases g : cF p 0 l with
 | none=>rw [g] at u1; simp at u1; simp -implicitDefEqProofs [vz,u1]
 | some x =>
 rw [g] at u1
 simp at u1
 simp -implicitDefEqProofs [vz,u1]
 all_goals (repeat' split) <;> first | rfl | omega | (simp_all; done) | (simp_all; omega) | skip
theorem LP (l : List Kp) (k : Kp) (gf : Nat) (p : Kp→Bool) (ho : aj TT gf = true) (hf : ∀ x∈l,ev LI TT gf [.agg (aZ .af x),.ptr .af (aZ .af k)] = some (.bool (p x),[.dead,.dead])) (hb : l.length≤9223372036854775807) : ev LI TT 223 [.row .af 9 (l.map (aZ .af)),.fn gf [.ptr .af (aZ .af k)]] = some (.bool (!aI (fun x=>!p x) l),[.dead,.dead]):=by
 rw [av (b:=vo) (rs:=[.t 4]) (n:=2) rfl rfl]
 have u1:=LS  l k gf p ho hf hb
 try simp at u1
 rw [← Fu p l 0]
 cases g : cF p 0 l with
 | none=>rw [g] at u1; simp at u1; simp -implicitDefEqProofs [vo,u1]
 | some x =>
 rw [g] at u1
 simp at u1
 simp -implicitDefEqProofs [vo,u1]
 all_goals (repeat' split) <;> first | rfl | omega | (simp_all; done) | (simp_all; omega) | skip
theorem IK (s : Sh) (hb : cv s≤1073741824) : ∃ sl,aF (ai (ev LI TT) (aj TT) iZ) [(0,.ptr .af (cl .af s)),(3,.int .i64 0),(7,.ptr .af (cl .af s)),(8,.ptr .af (cl .af s)),(9,.ptr .af ((cl .af s).drop 2)),(10,.row .af 9 (s.aG.map (aZ .af))),(11,.int .i64 s.aG.length),(12,.int .i64 0)] = if ur s.seq s.aG = true then some (.exit 0,sl) else some (.ret,[(2,.bool false)]):=by
 have mg : cv s = cZ s.bJ + wL bF s.aG + wL bq s.aX:=rfl
 have hlen:=aK (w:=bF) s.aG
 refine ⟨_,cq (f:=ai (ev LI TT) (aj TT) iZ) s.aG.zipIdx (fun i=>[(0,.ptr .af (cl .af s)),(3,.int .i64 (ji s.aG i)),(7,.ptr .af (cl .af s)),(8,.ptr .af (cl .af s)),(9,.ptr .af ((cl .af s).drop 2)),(10,.row .af 9 (s.aG.map (aZ .af))),(11,.int .i64 s.aG.length),(12,.int .i64 i)]) (nZ s.seq s.aG) [(2,.bool false)] [(0,.ptr .af (cl .af s)),(3,.int .i64 (ji s.aG s.aG.length)),(7,.ptr .af (cl .af s)),(8,.ptr .af (cl .af s)),(9,.ptr .af ((cl .af s).drop 2)),(10,.row .af 9 (s.aG.map (aZ .af))),(11,.int .i64 s.aG.length),(12,.int .i64 s.aG.length),(13,.bool false)] (fun i b hi hl=>?_) ?_⟩
 ·simp only [List.length_zipIdx] at hl
  have hw:=aL i (by omega)
  obtain ⟨_,rfl⟩:=List.getElem?_eq_some_iff.1 hi
  have hz : s.aG.zipIdx[i]'(by simpa using hl) = (s.aG[i],i):=by simp
  have hm:=Ig (List.getElem_mem hl)
  have hp:=CR s.aG i hl
  rw [hz]
  have hs : eY [] = true:=rfl
  have u1:=Ed s.aG[i].obj (by omega)
  have u2:=LP (s.aG.take i) s.aG[i] 262 (fun x=>decide (x.at_ = (s.aG[i]).at_)) rfl (fun x _=>Kn x s.aG[i]) (by simp; omega)
  have hle : (i : Int)≤s.aG.length:=by omega
  have kF : i≤s.aG.length:=by omega
  simp at u1 u2
  unfold nZ
  by_cases g1 : jg (s.aG[i]).obj = true
  rotate_left
  ·simp -implicitDefEqProofs [iZ,kN,hl,hw,hle,kF,gY,eV,dV,u1,u2,g1]
  by_cases g2 : 5≤(s.aG[i]).at_
  rotate_left
  ·simp -implicitDefEqProofs [iZ,kN,hl,hw,hle,kF,gY,eV,dV,u1,u2,g1,eq_false g2]
  by_cases g3 : (s.aG[i]).at_≤19
  rotate_left
  ·simp -implicitDefEqProofs [iZ,kN,hl,hw,hle,kF,gY,eV,dV,u1,u2,g1,eq_true g2,eq_false g3]
  by_cases g4 : aI (fun y : Kp=>!decide (y.at_ = (s.aG[i]).at_)) (s.aG.take i) = true
  rotate_left
  ·simp -implicitDefEqProofs [iZ,kN,hl,hw,hle,kF,gY,eV,dV,u1,u2,g1,eq_true g2,eq_true g3,g4]
  by_cases g5 : ji s.aG i < (s.aG[i]).seq
  rotate_left
  ·have lW : (s.aG[i]).seq≤ji s.aG i:=by omega
   simp -implicitDefEqProofs [iZ,kN,hl,hw,hle,kF,gY,eV,dV,u1,u2,g1,eq_true g2,eq_true g3,g4,eq_false g5,eq_true lW]
  have lW : ¬ (s.aG[i]).seq≤ji s.aG i:=by omega
  by_cases g6 : (s.aG[i]).seq < s.seq
  rotate_left
  ·have Ba : s.seq≤(s.aG[i]).seq:=by omega
   simp -implicitDefEqProofs [iZ,kN,hl,hw,hle,kF,gY,eV,dV,u1,u2,g1,eq_true g2,eq_true g3,g4,eq_true g5,eq_false lW,eq_false g6,eq_true Ba]
  have Ba : ¬ s.seq≤(s.aG[i]).seq:=by omega
  simp -implicitDefEqProofs [iZ,kN,hl,hw,hle,kF,gY,eV,dV,u1,u2,g1,eq_true g2,eq_true g3,g4,eq_true g5,eq_false lW,eq_true g6,eq_false Ba,hp]
 ·simp -implicitDefEqProofs [iZ,kN]
theorem Km (s : Sh) (hb : cv s≤1073741824) : ev LI TT 181 [.ptr .af (cl .af s)] = some (.bool (ur s.seq s.aG),[.dead]):=by
 rw [av (b:=xb) (rs:=[.t 2]) (n:=1) rfl rfl]
 obtain ⟨sl,u1⟩:=IK s hb
 simp at u1
 simp -implicitDefEqProofs [xb,u1]
 all_goals (repeat' split) <;> first | rfl | omega | (simp_all; done) | (simp_all; omega) | skip
theorem Iz (s : Sh) (hb : cv s≤1073741824) : aF (ai (ev LI TT) (aj TT) sZ) [(1,.ptr .own (cl .af s)),(5,.az 1 [] 0 3),(6,.row .af 4 (s.aX.map cg)),(7,.int .i64 s.aX.length),(8,.int .i64 0)] = if aI ju (s.aX) = true then some (.exit 0,[(1,.ptr .own (cl .af s)),(5,.az 1 [] 0 3),(6,.row .af 4 (s.aX.map cg)),(7,.int .i64 s.aX.length),(8,.int .i64 (s.aX).length),(9,.bool false)]) else some (.ret,[(2,.bool false)]):=by
 refine cq (f:=ai (ev LI TT) (aj TT) sZ) (s.aX) (fun i=>[(1,.ptr .own (cl .af s)),(5,.az 1 [] 0 3),(6,.row .af 4 (s.aX.map cg)),(7,.int .i64 s.aX.length),(8,.int .i64 i)]) ju _ _ (fun i b hi hl=>?_) ?_
 ·have hw:=aL i (by have mg : cv s = cZ s.bJ + wL bF s.aG + wL bq s.aX:=rfl; have:=aK (w:=bq) s.aX; omega)
  obtain ⟨_,rfl⟩:=List.getElem?_eq_some_iff.1 hi
  have mg : cv s = cZ s.bJ + wL bF s.aG + wL bq s.aX:=rfl
  have hm:=Ie (List.getElem_mem hl)
  have u1:=J8  s.aX[i] (by omega)
  try simp at u1
  simp -implicitDefEqProofs [sZ,BK,hl,hw,u1]
  all_goals (repeat' split) <;> first | rfl | omega | (simp_all; done) | (simp_all; omega) | skip
 ·simp -implicitDefEqProofs [sZ,BK]
theorem Kl (s : Sh) (hb : cv s≤1073741824) : ev LI TT 92 [.agg (cl .af s)] = some (.bool ((oG s)),[.dead]):=by
 rw [av (b:=iY) (rs:=[.t 2]) (n:=1) rfl rfl]
 have mg : cv s = cZ s.bJ + wL bF s.aG + wL bq s.aX:=rfl
 have Q1 : cZ s.bJ = wL wS s.bJ.cells + wL ck s.bJ.pending:=rfl
 have hlen:=aK (w:=ck) s.bJ.pending
 unfold oG
 have u1:=Ke  s.bJ (by omega)
 try simp at u1
 have u2:=Iz  s hb
 try simp at u2
 have u3:=Km  s hb
 try simp at u3
 by_cases g1 : aI ju s.aX = true
 rotate_left
 ·simp -implicitDefEqProofs [iY,u1,u2,u3,g1]
 by_cases g2 : (s.aX.length : Int)≤5
 rotate_left
 ·simp -implicitDefEqProofs [iY,u1,u2,u3,g1,eq_false g2]
 by_cases g3 : 5≤s.next
 rotate_left
 ·simp -implicitDefEqProofs [iY,u1,u2,u3,g1,eq_true g2,eq_false g3]
 by_cases g4 : s.next≤19
 rotate_left
 ·simp -implicitDefEqProofs [iY,u1,u2,u3,g1,eq_true g2,eq_true g3,eq_false g4]
 by_cases g5 : 1≤s.seq
 rotate_left
 ·simp -implicitDefEqProofs [iY,u1,u2,u3,g1,eq_true g2,eq_true g3,eq_true g4,eq_false g5]
 by_cases g6 : s.seq≤100000
 rotate_left
 ·simp -implicitDefEqProofs [iY,u1,u2,u3,g1,eq_true g2,eq_true g3,eq_true g4,eq_true g5,eq_false g6]
 by_cases g7 : om s.bJ = true
 rotate_left
 ·simp -implicitDefEqProofs [iY,u1,u2,u3,g1,eq_true g2,eq_true g3,eq_true g4,eq_true g5,eq_true g6,g7]
 simp -implicitDefEqProofs [iY,u1,u2,u3,g1,eq_true g2,eq_true g3,eq_true g4,eq_true g5,eq_true g6,g7]
 all_goals (repeat' split) <;> first | rfl | omega | (simp_all; done) | (simp_all; omega) | skip
end M
namespace M
open Go
theorem mM : (⟨#[97,103,101]⟩ : ByteArray) = ⟨cx.toArray⟩:=rfl
theorem Lp (q : Rq) (o : Ob) (now : Int) (h1 : bh q≤1048576) (h2 : bA o≤1048576) (h3 : bI o.t) (h4 : bI now) : ev LI TT 150 [.agg (dQ .af q),.agg (ek .af o),.int .i64 now] = some (.agg (cw .own (answer q o now)),[.dead,.dead,.dead]):=by
 rw [av (b:=ov) (rs:=[.c 6 3 true 59]) (n:=3) rfl rfl]
 have hw : bA o = o.path.length + wL wS o.names + wL wS o.values + bk o.resp:=rfl
 have wR : bk o.resp = wL aC o.resp.fields + o.resp.body.length:=rfl
 have pP : bh q = q.path.length + wL aC q.fields + q.body.length:=rfl
 have l1:=aK (w:=aC) o.resp.fields
 have l2:=aK (w:=aC) q.fields
 have l3:=CJ (cC o.resp.fields o.t now)
 have l4:=Dl o.resp
 have l5:=aK (w:=aC) (o.resp.fields.filter cU)
 have l6:=qI o.resp.fields cx (cJ (cC o.resp.fields o.t now))
 have l7:=qI (o.resp.fields.filter cU) cx (cJ (cC o.resp.fields o.t now))
 have l8 : cx.length = 3:=rfl
 unfold answer
 have u1:=LN  o.resp (by omega)
 try simp at u1
 have u2:=Lz  q o.resp.fields (by omega) (by omega)
 try simp at u2
 have u3:=LB  o.resp (by omega)
 try simp at u3
 have u4:=Ep  o.resp.fields o.t now (by omega) h3 h4
 try simp at u4
 have u5:=Eu  (cC o.resp.fields o.t now)
 try simp at u5
 have u6:=Ew  o.resp.fields cx (cJ (cC o.resp.fields o.t now)) (by omega)
 try simp at u6
 have u7:=Ew  (o.resp.fields.filter cU) cx (cJ (cC o.resp.fields o.t now)) (by omega)
 try simp at u7
 have u8:=Ao  ⟨o.resp.status,fq o.resp.fields cx (cJ (cC o.resp.fields o.t now)),o.resp.body⟩ (by unfold bk; simp only; omega)
 try simp at u8
 have u9:=Ao  ⟨304,fq (o.resp.fields.filter cU) cx (cJ (cC o.resp.fields o.t now)),[]⟩ (by unfold bk; simp; omega)
 try simp at u9
 by_cases g1 : mS q o.resp.fields = true
 ·by_cases g2 : iF ⟨304,fq (o.resp.fields.filter cU) cx (cJ (cC o.resp.fields o.t now)),[]⟩ = true
  ·simp -implicitDefEqProofs [ov,u1,u2,u3,u4,u5,u6,u7,u8,u9,g1,g2,mM,gD]
  ·simp -implicitDefEqProofs [ov,u1,u2,u3,u4,u5,u6,u7,u8,u9,g1,g2,mM,gD]
 by_cases g2 : iF ⟨o.resp.status,fq o.resp.fields cx (cJ (cC o.resp.fields o.t now)),o.resp.body⟩ = true
 ·simp -implicitDefEqProofs [ov,u1,u2,u3,u4,u5,u6,u7,u8,u9,g1,g2,mM,gD]
 simp -implicitDefEqProofs [ov,u1,u2,u3,u4,u5,u6,u7,u8,u9,g1,g2,mM,gD]
 all_goals (repeat' split) <;> first | rfl | omega | (simp_all; done) | (simp_all; omega) | skip
theorem J7 (q : Rq) (o : Ob) (now : Int) (h1 : bh q≤1048576) (h2 : bA o≤1048576) (h3 : bI o.t) (h4 : bI now) : ev LI TT 156 [.agg (dQ .af q),.agg (ek .af o),.int .i64 now] = some (.agg (cw .own (answer q o now)),[.dead,.dead,.dead]):=by
 rw [av (b:=nQ) (rs:=[.c 6 3 true 59]) (n:=3) rfl rfl]
 have hw : bA o = o.path.length + wL wS o.names + wL wS o.values + bk o.resp:=rfl
 have wR : bk o.resp = wL aC o.resp.fields + o.resp.body.length:=rfl
 have pP : bh q = q.path.length + wL aC q.fields + q.body.length:=rfl
 have l1:=aK (w:=aC) o.resp.fields
 have l2:=aK (w:=aC) q.fields
 have l3:=CJ (cC o.resp.fields o.t now)
 have l4:=Dl o.resp
 have l5:=aK (w:=aC) (o.resp.fields.filter cU)
 have l6:=qI o.resp.fields cx (cJ (cC o.resp.fields o.t now))
 have l7:=qI (o.resp.fields.filter cU) cx (cJ (cC o.resp.fields o.t now))
 have l8 : cx.length = 3:=rfl
 unfold answer
 have u1:=Ek  o.resp (by omega)
 try simp at u1
 have u2:=Kk  q o.resp.fields (by omega) (by omega)
 try simp at u2
 have u3:=Ko  o.resp (by omega)
 try simp at u3
 have u4:=D9  o.resp.fields o.t now (by omega) h3 h4
 try simp at u4
 have u5:=Ki  (cC o.resp.fields o.t now)
 try simp at u5
 have u6:=Ee  o.resp.fields cx (cJ (cC o.resp.fields o.t now)) (by omega)
 try simp at u6
 have u7:=Ee  (o.resp.fields.filter cU) cx (cJ (cC o.resp.fields o.t now)) (by omega)
 try simp at u7
 have u8:=zY  ⟨o.resp.status,fq o.resp.fields cx (cJ (cC o.resp.fields o.t now)),o.resp.body⟩ (by unfold bk; simp only; omega)
 try simp at u8
 have u9:=zY  ⟨304,fq (o.resp.fields.filter cU) cx (cJ (cC o.resp.fields o.t now)),[]⟩ (by unfold bk; simp; omega)
 try simp at u9
 have vk:=Ek  ⟨304,o.resp.fields.filter cU,[]⟩ (by simp only; omega)
 try simp at vk
 by_cases g1 : mS q o.resp.fields = true
 ·by_cases g2 : iF ⟨304,fq (o.resp.fields.filter cU) cx (cJ (cC o.resp.fields o.t now)),[]⟩ = true
  ·simp -implicitDefEqProofs [nQ,u1,u2,u3,u4,u5,u6,u7,u8,u9,vk,g1,g2,mM,gD]
  ·simp -implicitDefEqProofs [nQ,u1,u2,u3,u4,u5,u6,u7,u8,u9,vk,g1,g2,mM,gD]
 by_cases g2 : iF ⟨o.resp.status,fq o.resp.fields cx (cJ (cC o.resp.fields o.t now)),o.resp.body⟩ = true
 ·simp -implicitDefEqProofs [nQ,u1,u2,u3,u4,u5,u6,u7,u8,u9,vk,g1,g2,mM,gD]
 simp -implicitDefEqProofs [nQ,u1,u2,u3,u4,u5,u6,u7,u8,u9,vk,g1,g2,mM,gD]
 all_goals (repeat' split) <;> first | rfl | omega | (simp_all; done) | (simp_all; omega) | skip
end M
namespace M
open Go
def lg (fs : List aD) (n : ah) : ah:=(b8 fs n).getD [45]
def valuesOf (ns : List ah) (fs : List aD) : List ah:=ns.map (lg fs)
theorem Ia (ns : List ah) (fs : List aD) : (valuesOf ns fs).length = ns.length:=by simp [valuesOf]
theorem JB (ns : List ah) (fs : List aD) (hb : ns.length≤1073741824) (hf : fs.length≤9223372036854775807) : aF (ai (ev LI TT) (aj TT) uS) [(0,.row .af 1 (ns.map eS)),(1,.row .af 2 (fs.map aA)),(5,.row .own 1 (([]).map eS)),(6,.int .i64 0)] = some (.exit 0,[(0,.row .af 1 (ns.map eS)),(1,.row .af 2 (fs.map aA)),(5,.row .own 1 ((((ns).flatMap (fun n=>[lg fs n]))).map eS)),(6,.int .i64 (ns).length),(13,.bool false)]):=by
 refine od (f:=ai (ev LI TT) (aj TT) uS) (ns) (fun n=>[lg fs n]) (fun i out=>[(0,.row .af 1 (ns.map eS)),(1,.row .af 2 (fs.map aA)),(5,.row .own 1 ((out).map eS)),(6,.int .i64 i)]) (fun out=>[(0,.row .af 1 (ns.map eS)),(1,.row .af 2 (fs.map aA)),(5,.row .own 1 ((out).map eS)),(6,.int .i64 (ns).length),(13,.bool false)]) (fun i b out hi hl hout=>?_) (fun out hout=>?_)
 ·have hw:=aL i (by first | omega | (simp at hl; omega))
  obtain ⟨_,rfl⟩:=List.getElem?_eq_some_iff.1 hi
  have h:=jw fs ns[i] hf
  have hlo : out.length = i:=by rw [hout]; exact wv _ _ _ (by omega)
  have hlz : (i + 1) * 16≤140737488355328:=by omega
  unfold lg
  cases g : b8 fs ns[i] <;> rw [g] at h
  all_goals
  simp -implicitDefEqProofs [uS,Dd,hl,hw,h,hlo,hlz,dj]
 ·simp -implicitDefEqProofs [uS,Dd]
theorem LC (ns : List ah) (fs : List aD) (hb : ns.length≤1073741824) (hf : fs.length≤9223372036854775807) : ev LI TT 176 [.row .af 1 (ns.map eS),.row .af 2 (fs.map aA)] = some (.row .own 1 ((valuesOf ns fs).map eS),[.dead,.dead]):=by
 rw [av (b:=yZ) (rs:=[.t 4]) (n:=2) rfl rfl]
 have u1:=JB  ns fs hb hf
 try simp at u1
 rw [rV,show ns.map (fun n=>lg fs n) = valuesOf ns fs from rfl] at u1
 simp -implicitDefEqProofs [yZ,u1]
 all_goals (repeat' split) <;> first | rfl | omega | (simp_all; done) | (simp_all; omega) | skip
theorem ID (ns : List ah) (fs : List aD) (hb : ns.length≤1073741824) (hf : fs.length≤9223372036854775807) : aF (ai (ev LI TT) (aj TT) s6) [(0,.row .af 1 (ns.map eS)),(1,.row .af 2 (fs.map aA)),(5,.row .own 1 (([]).map eS)),(10,.row .af 1 (ns.map eS)),(11,.int .i64 ns.length),(12,.int .i64 0)] = some (.exit 0,[(0,.row .af 1 (ns.map eS)),(1,.row .af 2 (fs.map aA)),(5,.row .own 1 ((((ns).flatMap (fun n=>[lg fs n]))).map eS)),(10,.row .af 1 (ns.map eS)),(11,.int .i64 ns.length),(12,.int .i64 (ns).length),(13,.bool false)]):=by
 refine od (f:=ai (ev LI TT) (aj TT) s6) (ns) (fun n=>[lg fs n]) (fun i out=>[(0,.row .af 1 (ns.map eS)),(1,.row .af 2 (fs.map aA)),(5,.row .own 1 ((out).map eS)),(10,.row .af 1 (ns.map eS)),(11,.int .i64 ns.length),(12,.int .i64 i)]) (fun out=>[(0,.row .af 1 (ns.map eS)),(1,.row .af 2 (fs.map aA)),(5,.row .own 1 ((out).map eS)),(10,.row .af 1 (ns.map eS)),(11,.int .i64 ns.length),(12,.int .i64 (ns).length),(13,.bool false)]) (fun i b out hi hl hout=>?_) (fun out hout=>?_)
 ·have hw:=aL i (by first | omega | (simp at hl; omega))
  obtain ⟨_,rfl⟩:=List.getElem?_eq_some_iff.1 hi
  have h:=jv fs ns[i] hf
  have hlo : out.length = i:=by rw [hout]; exact wv _ _ _ (by omega)
  have hlz : (i + 1) * 16≤140737488355328:=by omega
  unfold lg
  cases g : b8 fs ns[i] <;> rw [g] at h
  all_goals
  simp -implicitDefEqProofs [s6,BM,hl,hw,h,hlo,hlz,dj]
 ·simp -implicitDefEqProofs [s6,BM]
theorem Kq (ns : List ah) (fs : List aD) (hb : ns.length≤1073741824) (hf : fs.length≤9223372036854775807) : ev LI TT 244 [.row .af 1 (ns.map eS),.row .af 2 (fs.map aA)] = some (.row .own 1 ((valuesOf ns fs).map eS),[.dead,.dead]):=by
 rw [av (b:=xl) (rs:=[.t 4]) (n:=2) rfl rfl]
 have u1:=ID  ns fs hb hf
 try simp at u1
 rw [rV,show ns.map (fun n=>lg fs n) = valuesOf ns fs from rfl] at u1
 simp -implicitDefEqProofs [xl,u1]
 all_goals (repeat' split) <;> first | rfl | omega | (simp_all; done) | (simp_all; omega) | skip
def q8 (ns : List ah) : Bool:=(cF (fun n=>decide (n = [42])) 0 ns).isSome
theorem JG (ns : List ah) (hb : ns.length≤9223372036854775807) : aF (ai (ev LI TT) (aj TT) uX) [(0,.row .af 1 (ns.map eS)),(3,.int .i64 0)] = (cF (fun n=>decide (n = [42])) 0 (ns)).elim (some (.exit 0,[(0,.row .af 1 (ns.map eS)),(3,.int .i64 (ns).length),(7,.bool false)])) fun x=>some (.ret,(fun (i : Nat) b=>[(2,.bool true)]) x.1 x.2):=by
 refine oc (f:=ai (ev LI TT) (aj TT) uX) (ns) (fun i=>[(0,.row .af 1 (ns.map eS)),(3,.int .i64 i)]) (fun n=>decide (n = [42])) (fun (i : Nat) b=>[(2,.bool true)]) _ (fun i b hi hl=>?_) ?_
 ·have hw:=aL i (by first | omega | (simp at hl; omega))
  obtain ⟨_,rfl⟩:=List.getElem?_eq_some_iff.1 hi
  have P4 : (⟨#[42]⟩ : ByteArray) = ⟨([42] : ah).toArray⟩:=rfl
  simp -implicitDefEqProofs [uX,Di,hl,hw,P4]
 ·simp -implicitDefEqProofs [uX,Di]
theorem LK (ns : List ah) (hb : ns.length≤9223372036854775807) : ev LI TT 174 [.row .af 1 (ns.map eS)] = some (.bool (q8 ns),[.dead]):=by
 rw [av (b:=uY) (rs:=[.t 2]) (n:=1) rfl rfl]
 have u1:=JG  ns hb
 try simp at u1
 unfold q8
 cases g : cF (fun n=>decide (n = ([42] : ah))) 0 ns with
 | none=>rw [g] at u1; simp at u1; simp -implicitDefEqProofs [uY,u1]
 | some x =>
 rw [g] at u1
 simp at u1
 simp -implicitDefEqProofs [uY,u1]
 all_goals (repeat' split) <;> first | rfl | omega | (simp_all; done) | (simp_all; omega) | skip
theorem JN (ns : List ah) (s : ah) (hb : ns.length≤9223372036854775807) : aF (ai (ev LI TT) (aj TT) vA) [(0,.row .af 1 (ns.map eS)),(1,.str ⟨s.toArray⟩),(7,.int .i64 ns.length),(8,.int .i64 0)] = (cF (fun n=>decide (n = s)) 0 (ns)).elim (some (.exit 0,[(0,.row .af 1 (ns.map eS)),(1,.str ⟨s.toArray⟩),(7,.int .i64 ns.length),(8,.int .i64 (ns).length),(9,.bool false)])) fun x=>some (.ret,(fun (i : Nat) b=>[(4,.int .i64 i)]) x.1 x.2):=by
 refine oc (f:=ai (ev LI TT) (aj TT) vA) (ns) (fun i=>[(0,.row .af 1 (ns.map eS)),(1,.str ⟨s.toArray⟩),(7,.int .i64 ns.length),(8,.int .i64 i)]) (fun n=>decide (n = s)) (fun (i : Nat) b=>[(4,.int .i64 i)]) _ (fun i b hi hl=>?_) ?_
 ·have hw:=aL i (by first | omega | (simp at hl; omega))
  obtain ⟨_,rfl⟩:=List.getElem?_eq_some_iff.1 hi
  simp -implicitDefEqProofs [vA,DJ,hl,hw,eq_comm (a:=s)]
 ·simp -implicitDefEqProofs [vA,DJ]
theorem LU (ns : List ah) (s : ah) (hb : ns.length≤9223372036854775807) : ev LI TT 303 [.row .af 1 (ns.map eS),.str ⟨s.toArray⟩] = some (.int .i64 (((cF (fun n=>decide (n = s)) 0 ns).elim (-1) fun x=>(x.1 : Int))),[.dead,.dead]):=by
 rw [av (b:=vB) (rs:=[.t 4]) (n:=2) rfl rfl]
 have u1:=JN  ns s hb
 try simp at u1
 cases g : cF (fun n=>decide (n = s)) 0 ns with
 | none=>rw [g] at u1; simp at u1; simp -implicitDefEqProofs [vB,u1]
 | some x =>
 rw [g] at u1
 simp at u1
 simp -implicitDefEqProofs [vB,u1]
 all_goals (repeat' split) <;> first | rfl | omega | (simp_all; done) | (simp_all; omega) | skip
theorem LQ (ns : List ah) (s : ah) (hb : ns.length≤9223372036854775807) : ev LI TT 242 [.row .af 1 (ns.map eS),.str ⟨s.toArray⟩] = some (.bool ((cF (fun n=>decide (n = s)) 0 ns).isSome),[.dead,.dead]):=by
 rw [av (b:=vp) (rs:=[.t 4]) (n:=2) rfl rfl]
 have u1:=LU  ns s hb
 try simp at u1
 cases g : cF (fun n=>decide (n = s)) 0 ns with
 | none=>rw [g] at u1; simp at u1; simp -implicitDefEqProofs [vp,u1]
 | some x =>
 rw [g] at u1
 simp at u1
 simp -implicitDefEqProofs [vp,u1]
 all_goals (repeat' split) <;> first | rfl | omega | (simp_all; done) | (simp_all; omega) | skip
def j7 (ns vs : List ah) (fs : List aD) : Bool:=!q8 ns && decide (valuesOf ns fs = vs)
theorem Ez (ns : List ah) (vs : List ah) (fs : List aD) (hb : ns.length≤1073741824) (hv : vs.length≤1073741824) (hf : fs.length≤9223372036854775807) : ev LI TT 90 [.row .af 1 (ns.map eS),.row .af 1 (vs.map eS),.row .af 2 (fs.map aA)] = some (.bool (j7 ns vs fs),[.dead,.dead,.dead]):=by
 rw [av (b:=yW) (rs:=[.t 6]) (n:=3) rfl rfl]
 have u1:=LK  ns (by omega)
 try simp at u1
 have u2:=LC  ns fs hb hf
 try simp at u2
 have u3:=EB  (valuesOf ns fs) vs (by rw [Ia]; omega) (by omega)
 try simp at u3
 unfold j7
 cases g : q8 ns <;> rw [g] at u1
 all_goals
 simp -implicitDefEqProofs [yW,u1,u2,u3]
 all_goals (repeat' split) <;> first | rfl | omega | (simp_all; done) | (simp_all; omega) | skip
theorem Eh (ns : List ah) (vs : List ah) (fs : List aD) (hb : ns.length≤1073741824) (hv : vs.length≤1073741824) (hf : fs.length≤9223372036854775807) : ev LI TT 154 [.row .af 1 (ns.map eS),.row .af 1 (vs.map eS),.row .af 2 (fs.map aA)] = some (.bool (j7 ns vs fs),[.dead,.dead,.dead]):=by
 rw [av (b:=xh) (rs:=[.t 6]) (n:=3) rfl rfl]
 have u1:=LQ  ns [42] (by omega)
 try simp at u1
 have u2:=Kq  ns fs hb hf
 try simp at u2
 have u3:=ED  (valuesOf ns fs) vs (by rw [Ia]; omega)
 try simp at u3
 rw [show (cF (fun n : ah=>decide (n = [42])) 0 ns).isSome = q8 ns from rfl] at u1
 unfold j7
 cases g : q8 ns <;> rw [g] at u1
 all_goals
 simp -implicitDefEqProofs [xh,u1,u2,u3]
 all_goals (repeat' split) <;> first | rfl | omega | (simp_all; done) | (simp_all; omega) | skip
end M
set_option maxHeartbeats 4000000
namespace M
open Go
def ny (a : Rp) (x : Se) : Bool:=decide (x.resp.status = 200) && decide (x.t≤a.obj.t) && decide (x.q.method = 1) && decide (x.q.path = a.obj.path) && decide (x.resp.body = a.obj.resp.body) && j7 a.obj.names a.obj.values x.q.fields
def jA (c : Ca) (a : Rp) : Int:=fZ (ny a) c.seen
theorem yI {a : Rp} (h : bx a≤1048576) : a.obj.names.length≤1048576∧a.obj.values.length≤1048576:=by
 have q1:=aK (w:=wS) a.obj.names
 have ZW:=aK (w:=wS) a.obj.values
 have q2 : bA a.obj = a.obj.path.length + wL wS a.obj.names + wL wS a.obj.values + bk a.obj.resp:=rfl
 have q3 : bx a = bh a.q + bk a.resp + bA a.obj:=rfl
 omega
theorem Hv {c : Ca} (h : bU c≤1048576) : ∀ x∈c.seen,x.q.fields.length≤1048576:=by
 intro x hx
 have h1:=dz (w:=bX) hx
 have h2 : bX x = bh x.q + bk x.resp:=rfl
 have h3 : bh x.q = x.q.path.length + wL aC x.q.fields + x.q.body.length:=rfl
 have h4:=aK (w:=aC) x.q.fields
 have h5 : wL bX c.seen≤bU c:=by unfold bU; omega
 omega
theorem Au {c : Ca} (h : bU c≤1048576) : c.seen.length≤1048576:=by
 have h4:=aK (w:=bX) c.seen
 have h5 : wL bX c.seen≤bU c:=by unfold bU; omega
 omega
theorem Jj (c : Ca) (a : Rp) (hc : bU c≤1048576) (ha : bx a≤1048576) (g : Int) (hinv : True) : aF (ai (ev LI TT) (aj TT) jZ) [(2,.ptr .own (bZ .af c)),(3,.ptr .own (bK .af a)),(5,.int .i64 g),(6,.int .i64 0)] = some (.exit 0,[(2,.ptr .own (bZ .af c)),(3,.ptr .own (bK .af a)),(5,.int .i64 (foldI (fun i g b=>if ny a b = true then (i : Int) else g) 0 (c.seen) g)),(6,.int .i64 (c.seen).length),(12,.bool false)]):=by
 refine CB (f:=ai (ev LI TT) (aj TT) jZ) (c.seen) (fun i (g : Int)=>[(2,.ptr .own (bZ .af c)),(3,.ptr .own (bK .af a)),(5,.int .i64 g),(6,.int .i64 i)]) (fun i g b=>if ny a b = true then (i : Int) else g) (fun g=>[(2,.ptr .own (bZ .af c)),(3,.ptr .own (bK .af a)),(5,.int .i64 g),(6,.int .i64 (c.seen).length),(12,.bool false)]) (fun i (g : Int)=>True) g hinv (fun i b g hi hl hinv=>?_) (fun i b g hi hinv=>?_) (fun g hinv=>?_)
 ·have hw:=aL i (by have:=Au hc; omega)
  obtain ⟨_,rfl⟩:=List.getElem?_eq_some_iff.1 hi
  have hs:=Ez a.obj.names a.obj.values (c.seen[i]).q.fields (by have:=yI ha; omega) (by have:=yI ha; omega) (by have:=Hv hc _ (List.getElem_mem hl); omega)
  unfold ny
  by_cases g1 : (c.seen[i]).resp.status = 200
  rotate_left
  ·simp -implicitDefEqProofs [jZ,mP,hl,hw,g1]
  by_cases g2 : (c.seen[i]).t≤a.obj.t
  rotate_left
  ·simp -implicitDefEqProofs [jZ,mP,hl,hw,g1,g2]
  by_cases g3 : (c.seen[i]).q.method = 1
  rotate_left
  ·simp -implicitDefEqProofs [jZ,mP,hl,hw,g1,g2,g3]
  by_cases g4 : (c.seen[i]).q.path = a.obj.path
  rotate_left
  ·simp -implicitDefEqProofs [jZ,mP,hl,hw,g1,g2,g3,eq_false g4]
  by_cases g5 : (c.seen[i]).resp.body = a.obj.resp.body
  rotate_left
  ·simp -implicitDefEqProofs [jZ,mP,hl,hw,g1,g2,g3,eq_true g4,eq_false g5]
  cases g6 : j7 a.obj.names a.obj.values (c.seen[i]).q.fields <;> rw [g6] at hs
  all_goals
  simp -implicitDefEqProofs [jZ,mP,hl,hw,g1,g2,g3,eq_true g4,eq_true g5,hs]
 ·trivial
 ·simp -implicitDefEqProofs [jZ,mP]
theorem Lt (c : Ca) (a : Rp) (hc : bU c≤1048576) (ha : bx a≤1048576) : ev LI TT 151 [.agg (bZ .af c),.agg (bK .af a)] = some (.int .i64 (jA c a),[.dead,.dead]):=by
 rw [av (b:=yL) (rs:=[.t 4]) (n:=2) rfl rfl]
 have u1:=Jj c a hc ha (-1) trivial
 rw [show foldI (fun i g b=>if ny a b = true then (i : Int) else g) 0 c.seen (-1) = jA c a from rfl] at u1
 simp at u1
 simp -implicitDefEqProofs [yL,u1]
 all_goals (repeat' split) <;> first | rfl | omega | (simp_all; done) | (simp_all; omega) | skip
theorem Ir (c : Ca) (a : Rp) (hc : bU c≤1048576) (ha : bx a≤1048576) :
  aF (ai (ev LI TT) (aj TT) jK) [(0,.ptr .af (bZ .af c)),(3,.ptr .own (bK .af a)),(5,.int .i64 (c.seen.length - 1))] = if jA c a < 0 then some (.exit 0,[(0,.ptr .af (bZ .af c)),(3,.ptr .own (bK .af a)),(5,.int .i64 (-1)),(14,.bool false)]) else some (.ret,[(4,.int .i64 (jA c a))]):=by
 have hcs:=Au hc
 refine Rz (f:=ai (ev LI TT) (aj TT) jK) c.seen (fun i=>[(0,.ptr .af (bZ .af c)),(3,.ptr .own (bK .af a)),(5,.int .i64 i)]) (ny a) (fun i=>[(4,.int .i64 i)]) _ (fun i b hi hl=>?_) ?_
 ·have hw : IntKind.i64.wrap ((i : Int) - 1) = (i : Int) - 1:=bV (by omega) (by omega)
  obtain ⟨_,rfl⟩:=List.getElem?_eq_some_iff.1 hi
  have hs:=Eh a.obj.names a.obj.values (c.seen[i]).q.fields (by have:=yI ha; omega) (by have:=yI ha; omega) (by have:=Hv hc _ (List.getElem_mem hl); omega)
  unfold ny
  by_cases g1 : (c.seen[i]).resp.status = 200
  rotate_left
  ·simp -implicitDefEqProofs [jK,mq,hl,hw,g1]
  by_cases g2 : (c.seen[i]).t≤a.obj.t
  rotate_left
  ·simp -implicitDefEqProofs [jK,mq,hl,hw,g1,g2]
  by_cases g3 : (c.seen[i]).q.method = 1
  rotate_left
  ·simp -implicitDefEqProofs [jK,mq,hl,hw,g1,g2,g3]
  by_cases g4 : (c.seen[i]).q.path = a.obj.path
  rotate_left
  ·simp -implicitDefEqProofs [jK,mq,hl,hw,g1,g2,g3,eq_false g4]
  by_cases g5 : (c.seen[i]).resp.body = a.obj.resp.body
  rotate_left
  ·simp -implicitDefEqProofs [jK,mq,hl,hw,g1,g2,g3,eq_true g4,eq_false g5]
  cases g6 : j7 a.obj.names a.obj.values (c.seen[i]).q.fields <;> rw [g6] at hs
  all_goals simp -implicitDefEqProofs [jK,mq,hl,hw,g1,g2,g3,eq_true g4,eq_true g5,hs]
 ·simp -implicitDefEqProofs [jK,mq]
theorem Ka (c : Ca) (a : Rp) (hc : bU c≤1048576) (ha : bx a≤1048576) : ev LI TT 157 [.ptr .af (bZ .af c),.agg (bK .af a)] = some (.int .i64 (jA c a),[.dead,.dead]):=by
 rw [av (b:=sP) (rs:=[.t 4]) (n:=2) rfl rfl]
 have h:=Ir c a hc ha
 have hcs:=Au hc
 have hw : IntKind.i64.wrap ((c.seen.length : Int) - 1) = (c.seen.length : Int) - 1:=bV (by omega) (by omega)
 by_cases h0 : jA c a < 0
 ·have e : jA c a = -1:=Rx h0
  rw [if_pos h0] at h
  simp at h
  simp -implicitDefEqProofs [sP,h,hw,e]
 rw [if_neg h0] at h
 simp at h
 simp -implicitDefEqProofs [sP,h,hw]
 all_goals (repeat' split) <;> first | rfl | omega | (simp_all; done) | (simp_all; omega) | skip
end M
set_option maxHeartbeats 4000000
namespace M
open Go
structure Cc where
 ns : Bool
 nc : Bool
 pr : Bool
 mu : Bool
 ha : Bool
 lC : Int
@[simp] def dH (c : Cc) : List X:=[.bool c.ns,.bool c.nc,.bool c.pr,.bool c.mu,.bool c.ha,.int .i64 c.lC]
def dn : Cc:=⟨false,false,false,false,false,0⟩
def uo : ah:=[110,111,45,115,116,111,114,101]
def um : ah:=[110,111,45,99,97,99,104,101]
def uq : ah:=[112,114,105,118,97,116,101]
def uk : ah:=[109,117,115,116,45,114,101,118,97,108,105,100,97,116,101]
def gT : ah:=[109,97,120,45,97,103,101,61]
def oZ (w : ah) : Option Nat:=if Lib.hasPrefix w gT = true then some ((cr (w.drop 8)).getD 0) else none
def jz (c : Cc) (w : ah) : Cc:=if w = uo then { c with ns:=true } else if w = um then { c with nc:=true } else if w = uq then { c with pr:=true } else if w = uk then { c with mu:=true } else
 match oZ w with
 | some n=>{ c with ha:=true,lC:=if c.ha = true then min (n : Int) c.lC else n }
 | none=>c
def nr (v : ah) : Cc:=(eJ v).foldl (fun c w=>jz c (bw w)) dn
def fE (fs : List aD) : Cc:=nr ((b8 fs fM).getD [])
theorem CI : (⟨#[110,111,45,115,116,111,114,101]⟩ : ByteArray) = ⟨uo.toArray⟩∧(⟨#[110,111,45,99,97,99,104,101]⟩ : ByteArray) = ⟨um.toArray⟩∧(⟨#[112,114,105,118,97,116,101]⟩ : ByteArray) = ⟨uq.toArray⟩∧(⟨#[109,117,115,116,45,114,101,118,97,108,105,100,97,116,101]⟩ : ByteArray) = ⟨uk.toArray⟩∧(⟨#[109,97,120,45,97,103,101,61]⟩ : ByteArray) = ⟨gT.toArray⟩:=⟨rfl,rfl,rfl,rfl,rfl⟩
theorem LH (w : ah) (hb : w.length≤1073741824) : ev LI TT 255 [.str ⟨w.toArray⟩] = some (.ax [.int .i64 ((((oZ w).getD 0 : Nat) : Int)),.bool ((oZ w).isSome)],[.dead]):=by
 rw [av (b:=qW) (rs:=[.t 2,.t 3]) (n:=1) rfl rfl]
 have hp:=Lib.hasPrefix_of_take w gT
 have l8 : gT.length = 8:=rfl
 have z : gT.toArray.size = 8:=rfl
 obtain ⟨t1,t2,t3,t4,t5⟩:=CI
 rw [l8] at hp
 unfold oZ
 by_cases g8 : w.length < 8
 ·have : Lib.hasPrefix w gT = false:=by rw [← hp]; simp; omega
  have fU : (w.length : Int) < 8:=by omega
  simp -implicitDefEqProofs [qW,t5,this,g8,fU,ByteArray.size,z,l8]
 have fU : ¬ (w.length : Int) < 8:=by omega
 have g9 : (8 : Int)≤w.length:=by omega
 have g10 : 8≤w.length:=by omega
 have g11 : decide (8≤w.length) = true:=by simp; omega
 rw [g11,Bool.true_and] at hp
 by_cases g : w.take 8 = gT
 rotate_left
 ·have : Lib.hasPrefix w gT = false:=by rw [← hp]; simpa using g
  simp -implicitDefEqProofs [qW,t5,this,g8,fU,g9,g10,ByteArray.size,z,l8,Lib.extract_mk,eq_false g]
 have : Lib.hasPrefix w gT = true:=by rw [← hp]; simpa using g
 have u1:=Et (w.drop 8) (by simp; omega)
 have hz : (w.drop 8).take (w.length - 8) = w.drop 8:=List.take_of_length_le (by simp)
 simp -implicitDefEqProofs [qW,t5,this,g8,fU,g9,g10,ByteArray.size,z,l8,Lib.extract_mk,eq_true g,u1,hz]
 all_goals (repeat' split) <;> first | rfl | omega | (simp_all; done) | (simp_all; omega) | skip
theorem Ji (ws : List ah) (hl0 : ws.length≤1073741825) (hb : ∀ w∈ws,w.length≤1073741824) (g : Cc) : aF (ai (ev LI TT) (aj TT) jY) [(2,.ptr .own (dH dn)),(3,.ptr .own (dH g)),(4,.row .own 1 (ws.map eS)),(5,.int .i64 0)] = some (.exit 0,[(2,.ptr .own (dH dn)),(3,.ptr .own (dH ((ws).foldl (fun c w=>jz c (bw w)) g))),(4,.row .own 1 (ws.map eS)),(5,.int .i64 (ws).length),(15,.bool false)]):=by
 refine CA (f:=ai (ev LI TT) (aj TT) jY) (ws) (fun i (g : Cc)=>[(2,.ptr .own (dH dn)),(3,.ptr .own (dH g)),(4,.row .own 1 (ws.map eS)),(5,.int .i64 i)]) (fun c w=>jz c (bw w)) (fun g=>[(2,.ptr .own (dH dn)),(3,.ptr .own (dH g)),(4,.row .own 1 (ws.map eS)),(5,.int .i64 (ws).length),(15,.bool false)]) (fun _ _=>True) g trivial (fun i b g hi hl _=>?_) (fun _ _ _ _ _=>trivial) (fun g _=>?_)
 ·have hw:=aL i (by first | omega | (simp at hl; omega))
  obtain ⟨_,rfl⟩:=List.getElem?_eq_some_iff.1 hi
  obtain ⟨t1,t2,t3,t4,t5⟩:=CI
  have hx:=hb _ (List.getElem_mem hl)
  have v1:=Es ws[i] hx
  have v2 : (bw ws[i]).length≤1073741824:=by simp [bw]; exact hx
  generalize bw ws[i] = w at v1 v2
  have v3:=LH w v2
  try simp at v1
  try simp at v3
  unfold jz
  by_cases g1 : w = uo
  ·simp -implicitDefEqProofs [jY,mO,hl,hw,v1,v3,t1,eq_true g1,dn]
  by_cases g2 : w = um
  ·simp -implicitDefEqProofs [jY,mO,hl,hw,v1,v3,t1,t2,eq_false g1,eq_true g2,dn]
  by_cases g3 : w = uq
  ·simp -implicitDefEqProofs [jY,mO,hl,hw,v1,v3,t1,t2,t3,eq_false g1,eq_false g2,eq_true g3,dn]
  by_cases g4 : w = uk
  ·simp -implicitDefEqProofs [jY,mO,hl,hw,v1,v3,t1,t2,t3,t4,eq_false g1,eq_false g2,eq_false g3,eq_true g4,dn]
  cases ha : oZ w with
  | none =>
   rw [ha] at v3
   simp at v3
   simp -implicitDefEqProofs [jY,mO,hl,hw,v1,v3,t1,t2,t3,t4,eq_false g1,eq_false g2,eq_false g3,eq_false g4,dn]
  | some n =>
  rw [ha] at v3
  simp at v3
  cases gh : g.ha
  all_goals
  simp -implicitDefEqProofs [jY,mO,hl,hw,v1,v3,t1,t2,t3,t4,eq_false g1,eq_false g2,eq_false g3,eq_false g4,gh,dn]
  all_goals (repeat' split) <;> first | rfl | omega | (simp_all; done) | (simp_all; omega) | skip
 ·simp -implicitDefEqProofs [jY,mO]
theorem Ls (v : ah) (hb : v.length≤1073741824) : ev LI TT 163 [.str ⟨v.toArray⟩] = some (.agg (dH (nr v)),[.dead]):=by
 rw [av (b:=yK) (rs:=[.c 2 6 true 122]) (n:=1) rfl rfl]
 have hm:=zG v
 have hn:=vn v
 have u1:=Ey  v hb
 try simp at u1
 have u2:=Ji  (eJ v) (by omega) (fun w hw=>by have:=hm w hw; omega) dn
 try simp at u2
 rw [show (eJ v).foldl (fun c w=>jz c (bw w)) dn = nr v from rfl] at u2
 simp [dn] at u2
 simp -implicitDefEqProofs [yK,u1,u2,dn]
 all_goals (repeat' split) <;> first | rfl | omega | (simp_all; done) | (simp_all; omega) | skip
theorem vR (fs : List aD) (hb : wL aC fs≤1073741824) : ev LI TT 71 [.row .af 2 (fs.map aA)] = some (.agg (dH (fE fs)),[.dead]):=by
 rw [av (b:=yJ) (rs:=[.c 2 6 true 122]) (n:=1) rfl rfl]
 have hfl:=aK (w:=aC) fs
 have hg:=nD fs fM
 have t3 : (⟨#[99,97,99,104,101,45,99,111,110,116,114,111,108]⟩ : ByteArray) = ⟨fM.toArray⟩:=rfl
 have u1:=jw  fs fM (by omega)
 try simp at u1
 have u2:=Ls  ((b8 fs fM).getD []) (by omega)
 try simp at u2
 rw [show nr ((b8 fs fM).getD []) = fE fs from rfl] at u2
 simp -implicitDefEqProofs [yJ,u1,u2,t3]
 all_goals (repeat' split) <;> first | rfl | omega | (simp_all; done) | (simp_all; omega) | skip
theorem L1 {w : ah} (h : w = uo∨w = um∨w = uq∨w = uk) : Lib.hasPrefix w gT = false:=by
 rcases h with rfl | rfl | rfl | rfl <;> decide
theorem Kd (c : Cc) (w : ah) (hb : w.length≤1073741824) : ev LI TT 298 [.ptr .own (dH c),.str ⟨w.toArray⟩] = some (.ax [],[.ptr .own (dH (jz c w)),.dead]):=by
 rw [av (b:=kL) (rs:=[]) (n:=2) rfl rfl]
 obtain ⟨t1,t2,t3,t4,t5⟩:=CI
 have v3:=LW w gT (by omega)
 have hword:=L1 (w:=w)
 unfold jz
 by_cases g1 : w = uo
 ·rw [hword (Or.inl g1)] at v3
  simp -implicitDefEqProofs [kL,v3,t1,t5,eq_true g1]
 by_cases g2 : w = um
 ·rw [hword (by simp [g2])] at v3
  simp -implicitDefEqProofs [kL,v3,t1,t2,t5,eq_false g1,eq_true g2]
 by_cases g3 : w = uq
 ·rw [hword (by simp [g3])] at v3
  simp -implicitDefEqProofs [kL,v3,t1,t2,t3,t5,eq_false g1,eq_false g2,eq_true g3]
 by_cases g4 : w = uk
 ·rw [hword (by simp [g4])] at v3
  simp -implicitDefEqProofs [kL,v3,t1,t2,t3,t4,t5,eq_false g1,eq_false g2,eq_false g3,eq_true g4]
 unfold oZ
 cases hp : Lib.hasPrefix w gT
 ·rw [hp] at v3
  simp -implicitDefEqProofs [kL,v3,t1,t2,t3,t4,t5,eq_false g1,eq_false g2,eq_false g3,eq_false g4]
 rw [hp,show Lib.trimPrefix w gT = w.drop 8 by unfold Lib.trimPrefix; rw [hp]; rfl] at v3
 have v4:=Ec (w.drop 8) (by simp; omega)
 try simp at v3
 try simp at v4
 generalize (cr (w.drop 8)).getD 0 = n at v4
 cases gh : c.ha
 all_goals
 simp -implicitDefEqProofs [kL,v3,v4,t1,t2,t3,t4,t5,eq_false g1,eq_false g2,eq_false g3,eq_false g4,gh]
 all_goals (repeat' split) <;> first | rfl | omega | (simp_all; done) | (simp_all; omega) | skip
theorem Is (ws : List ah) (hl0 : ws.length≤1073741825) (hb : ∀ w∈ws,w.length≤1073741824) (g : Cc) : aF (ai (ev LI TT) (aj TT) sQ) [(2,.ptr .own (dH dn)),(3,.ptr .own (dH g)),(7,.row .own 1 (ws.map eS)),(8,.int .i64 ws.length),(9,.int .i64 0)] = some (.exit 0,[(2,.ptr .own (dH dn)),(3,.ptr .own (dH ((ws).foldl (fun c w=>jz c (bw w)) g))),(7,.row .own 1 (ws.map eS)),(8,.int .i64 ws.length),(9,.int .i64 (ws).length),(10,.bool false)]):=by
 refine CA (f:=ai (ev LI TT) (aj TT) sQ) (ws) (fun i (g : Cc)=>[(2,.ptr .own (dH dn)),(3,.ptr .own (dH g)),(7,.row .own 1 (ws.map eS)),(8,.int .i64 ws.length),(9,.int .i64 i)]) (fun c w=>jz c (bw w)) (fun g=>[(2,.ptr .own (dH dn)),(3,.ptr .own (dH g)),(7,.row .own 1 (ws.map eS)),(8,.int .i64 ws.length),(9,.int .i64 (ws).length),(10,.bool false)]) (fun _ _=>True) g trivial (fun i b g hi hl _=>?_) (fun _ _ _ _ _=>trivial) (fun g _=>?_)
 ·have hw:=aL i (by first | omega | (simp at hl; omega))
  obtain ⟨_,rfl⟩:=List.getElem?_eq_some_iff.1 hi
  have hx:=hb _ (List.getElem_mem hl)
  have v1:=Eb ws[i] hx
  have v2 : (bw ws[i]).length≤1073741824:=by simp [bw]; exact hx
  have v3:=Kd g (bw ws[i]) v2
  try simp at v1
  try simp at v3
  simp -implicitDefEqProofs [sQ,BH,hl,hw,v1,v3,dn]
  all_goals (repeat' split) <;> first | rfl | omega | (simp_all; done) | (simp_all; omega) | skip
 ·simp -implicitDefEqProofs [sQ,BH]
theorem Kc (v : ah) (hb : v.length≤1073741824) : ev LI TT 239 [.str ⟨v.toArray⟩] = some (.agg (dH (nr v)),[.dead]):=by
 rw [av (b:=wW) (rs:=[.c 2 6 true 122]) (n:=1) rfl rfl]
 have hm:=zG v
 have hn:=vn v
 have u1:=Eg  v hb
 try simp at u1
 have u2:=Is  (eJ v) (by omega) (fun w hw=>by have:=hm w hw; omega) dn
 try simp at u2
 rw [show (eJ v).foldl (fun c w=>jz c (bw w)) dn = nr v from rfl] at u2
 simp [dn] at u2
 simp -implicitDefEqProofs [wW,u1,u2,dn]
 all_goals (repeat' split) <;> first | rfl | omega | (simp_all; done) | (simp_all; omega) | skip
theorem vQ (fs : List aD) (hb : wL aC fs≤1073741824) : ev LI TT 152 [.row .af 2 (fs.map aA)] = some (.agg (dH (fE fs)),[.dead]):=by
 rw [av (b:=wV) (rs:=[.c 2 6 true 122]) (n:=1) rfl rfl]
 have hfl:=aK (w:=aC) fs
 have hg:=nD fs fM
 have t3 : (⟨#[99,97,99,104,101,45,99,111,110,116,114,111,108]⟩ : ByteArray) = ⟨fM.toArray⟩:=rfl
 have u1:=jv  fs fM (by omega)
 try simp at u1
 have u2:=Kc  ((b8 fs fM).getD []) (by omega)
 try simp at u2
 rw [show nr ((b8 fs fM).getD []) = fE fs from rfl] at u2
 simp -implicitDefEqProofs [wV,u1,u2,t3]
 all_goals (repeat' split) <;> first | rfl | omega | (simp_all; done) | (simp_all; omega) | skip
end M
set_option maxHeartbeats 4000000
namespace M
open Go
theorem An (q : Rq) (hb : bh q≤1073741824) : ev LI TT 70 [.agg (dQ .af q)] = some (.bool (jk q),[.dead]):=by
 rw [av (b:=qR) (rs:=[.t 2]) (n:=1) rfl rfl]
 have pP : bh q = q.path.length + wL aC q.fields + q.body.length:=rfl
 unfold jk
 have u1:=At  q.path (by omega)
 try simp at u1
 have u2:=Er  q.fields (by omega)
 try simp at u2
 by_cases g1 : 1≤q.method
 rotate_left
 ·simp -implicitDefEqProofs [qR,u1,u2,eq_false g1]
 by_cases g2 : q.method≤4
 rotate_left
 ·simp -implicitDefEqProofs [qR,u1,u2,eq_true g1,eq_false g2]
 cases g3 : gb q.path <;> cases g4 : ku q.fields <;> rw [g3] at u1 <;> rw [g4] at u2
 all_goals
 simp -implicitDefEqProofs [qR,u1,u2,eq_true g1,eq_true g2]
 all_goals (repeat' split) <;> first | rfl | omega | (simp_all; done) | (simp_all; omega) | skip
theorem Ef (q : Rq) (hb : bh q≤1073741824) : ev LI TT 231 [.agg (dQ .af q)] = some (.bool (jk q),[.dead]):=by
 rw [av (b:=pS) (rs:=[.t 2]) (n:=1) rfl rfl]
 have pP : bh q = q.path.length + wL aC q.fields + q.body.length:=rfl
 unfold jk
 have u1:=z8  q.path (by omega)
 try simp at u1
 have u2:=Ea  q.fields (by omega)
 try simp at u2
 by_cases g1 : 1≤q.method
 rotate_left
 ·simp -implicitDefEqProofs [pS,u1,u2,eq_false g1]
 by_cases g2 : q.method≤4
 rotate_left
 ·simp -implicitDefEqProofs [pS,u1,u2,eq_true g1,eq_false g2]
 cases g3 : gb q.path <;> cases g4 : ku q.fields <;> rw [g3] at u1 <;> rw [g4] at u2
 all_goals
 simp -implicitDefEqProofs [pS,u1,u2,eq_true g1,eq_true g2]
 all_goals (repeat' split) <;> first | rfl | omega | (simp_all; done) | (simp_all; omega) | skip
def nj (q : Rq) : Bool:=jk q && decide (q.method = 1) && !(fE q.fields).ns
def gG (a b : Rq) : Bool:=nj a && nj b && decide (a.path = b.path) && decide (a.fields = b.fields)
theorem El (q : Rq) (hb : bh q≤1073741824) : ev LI TT 168 [.agg (dQ .af q)] = some (.bool (nj q),[.dead]):=by
 rw [av (b:=xy) (rs:=[.t 2]) (n:=1) rfl rfl]
 have pP : bh q = q.path.length + wL aC q.fields + q.body.length:=rfl
 unfold nj
 have u1:=Ef  q hb
 try simp at u1
 have u2:=vQ  q.fields (by omega)
 try simp at u2
 cases g3 : jk q <;> rw [g3] at u1
 all_goals by_cases g4 : q.method = 1
 all_goals
 simp -implicitDefEqProofs [xy,u1,u2,g4]
 all_goals (repeat' split) <;> first | rfl | omega | (simp_all; done) | (simp_all; omega) | skip
theorem Fx (a b : aD) : a = b↔(a.name = b.name∧a.value = b.value):=by cases a; cases b; simp
theorem JJ (ps : List (aD×aD)) (hb : ps.length≤9223372036854775807) : aF (ai (ev LI TT) (aj TT) vq) [(0,.row .af 2 (ps.map fun x=>aA x.1)),(1,.row .af 2 (ps.map fun x=>aA x.2)),(12,.int .i64 ps.length),(13,.int .i64 0)] = if aI bM (ps) = true then some (.exit 0,[(0,.row .af 2 (ps.map fun x=>aA x.1)),(1,.row .af 2 (ps.map fun x=>aA x.2)),(12,.int .i64 ps.length),(13,.int .i64 ps.length),(14,.bool false)]) else some (.ret,[(4,.bool false)]):=by
 refine cq (f:=ai (ev LI TT) (aj TT) vq) (ps) (fun i=>[(0,.row .af 2 (ps.map fun x=>aA x.1)),(1,.row .af 2 (ps.map fun x=>aA x.2)),(12,.int .i64 ps.length),(13,.int .i64 i)]) bM _ _ (fun i b hi hl=>?_) ?_
 ·have hw:=aL i (by first | omega | (simp at hl; omega))
  obtain ⟨_,rfl⟩:=List.getElem?_eq_some_iff.1 hi
  simp -implicitDefEqProofs [vq,DE,hl,hw,bM,Fx]
  first | done | (split <;> simp_all; done) | (split <;> simp_all <;> (intro h; simp_all))
 ·simp -implicitDefEqProofs [vq,DE]
theorem EC (a b : List aD) (hb : a.length≤9223372036854775807) : ev LI TT 245 [.row .af 2 (a.map aA),.row .af 2 (b.map aA)] = some (.bool (decide (a = b)),[.dead,.dead]):=by
 rw [av (b:=zH) (rs:=[.t 4]) (n:=2) rfl rfl]
 simp -implicitDefEqProofs [zH]
 by_cases h : a.length = b.length
 ·obtain ⟨ps,rfl,rfl⟩:=iJ h
  have h1:=JJ ps (by simpa using hb)
  have h2:=hU ps
  simp at h1
  rw [← h2]
  cases h3 : aI bM ps <;> rw [h3] at h1 <;> simp [h1,Function.comp_def]
 ·have : ¬ a = b:=fun e=>h (by rw [e])
  simp [this]
  omega
theorem J6 (a : Rq) (b : Rq) (ha : bh a≤1073741824) (hb : bh b≤1073741824) : ev LI TT 232 [.agg (dQ .af a),.agg (dQ .af b)] = some (.bool (gG a b),[.dead,.dead]):=by
 rw [av (b:=nP) (rs:=[.t 4]) (n:=2) rfl rfl]
 have pP : bh a = a.path.length + wL aC a.fields + a.body.length:=rfl
 have l2:=aK (w:=aC) a.fields
 unfold gG
 have u1:=El  a ha
 try simp at u1
 have u2:=El  b hb
 try simp at u2
 have u3:=EC  a.fields b.fields (by omega)
 try simp at u3
 generalize nj a = g1 at u1
 generalize nj b = g2 at u2
 generalize decide (a.fields = b.fields) = g4 at u3
 cases g1
 ·simp -implicitDefEqProofs [nP,u1]
 cases g2
 ·simp -implicitDefEqProofs [nP,u1,u2]
 by_cases g3 : a.path = b.path
 rotate_left
 ·simp -implicitDefEqProofs [nP,u1,u2,eq_false g3]
 simp -implicitDefEqProofs [nP,u1,u2,u3,eq_true g3]
 all_goals (repeat' split) <;> first | rfl | omega | (simp_all; done) | (simp_all; omega) | skip
theorem Ip {α : Type} [DecidableEq α] : ∀ {a b : List α},(∀ x∈a.zip b,¬ (decide (x.1≠x.2)) = true)→a.length = b.length→a = b
 | [],[],_,_=>rfl
 | x :: a,y :: b,h,hl=>by
  have h1:=h (x,y) (by simp)
  simp at h1
  have h2 : a = b:=Ip (fun z hz=>h z (by simp only [List.zip_cons_cons]; exact List.mem_cons_of_mem _ hz)) (by simpa using hl)
  rw [h1,h2]
theorem W7 {α : Type} {a b : List α} {x : α×α} (hx : x∈a.zip b) (h : x.1≠x.2) : a≠b:=by
 rintro rfl
 have : ∀ {l : List α} {x : α×α},x∈l.zip l→x.1 = x.2:=by
  intro l
  induction l with
  | nil=>intro x h; simp at h
  | cons y l ih =>
   intro x h
   simp only [List.zip_cons_cons,List.mem_cons] at h
   rcases h with rfl | h
   ·rfl
   ·exact ih h
 exact h (this hx)
theorem JD (a : List aD) (b : List aD) (hb : a.length≤9223372036854775807) (iw : b.length≤9223372036854775807) : aF (ai (ev LI TT) (aj TT) qU) [(0,.row .af 2 (a.map aA)),(1,.row .af 2 (b.map aA)),(5,.int .i64 0)] = (cF (fun x=>decide (x.1≠x.2)) 0 (a.zip b)).elim (some (.exit 0,[(0,.row .af 2 (a.map aA)),(1,.row .af 2 (b.map aA)),(5,.int .i64 (a.zip b).length),(15,.bool false)])) fun x=>some (.ret,(fun (i : Nat) b=>[(4,.bool false)]) x.1 x.2):=by
 refine oc (f:=ai (ev LI TT) (aj TT) qU) (a.zip b) (fun i=>[(0,.row .af 2 (a.map aA)),(1,.row .af 2 (b.map aA)),(5,.int .i64 i)]) (fun x=>decide (x.1≠x.2)) (fun (i : Nat) b=>[(4,.bool false)]) _ (fun i b hi hl=>?_) ?_
 ·have hw:=aL i (by first | omega | (simp at hl; omega))
  obtain ⟨_,rfl⟩:=List.getElem?_eq_some_iff.1 hi
  have ha : i < a.length:=by simp at hl; omega
  have hb' : i < b.length:=by simp at hl; omega
  simp -implicitDefEqProofs [qU,y8,hl,hw,ha,hb',Fx]
 ·have hz : (a.zip b).length = min a.length b.length:=by simp
  rw [hz]
  by_cases hh : a.length≤b.length
  ·rw [Nat.min_eq_left hh]; simp -implicitDefEqProofs [qU,y8]
  have h1 : b.length≤a.length:=by omega
  have h2 : (b.length : Int) < a.length:=by omega
  have h3 : b.length < a.length:=by omega
  rw [Nat.min_eq_right h1]
  simp -implicitDefEqProofs [qU,y8,h2,h3]
theorem EA (a : List aD) (b : List aD) (hb : a.length≤9223372036854775807) (iw : b.length≤9223372036854775807) : ev LI TT 229 [.row .af 2 (a.map aA),.row .af 2 (b.map aA)] = some (.bool (decide (a = b)),[.dead,.dead]):=by
 rw [av (b:=qV) (rs:=[.t 4]) (n:=2) rfl rfl]
 have h:=JD a b hb iw
 cases g : cF (fun x : aD×aD=>decide (x.1≠x.2)) 0 (a.zip b) with
 | some x =>
  obtain ⟨i,x⟩:=x
  obtain ⟨_,h1,h2⟩:=pF g
  have h3 : ¬ a = b:=W7 (List.mem_of_getElem? h1) (by simpa using h2)
  rw [g] at h; simp only [Option.elim] at h; simp -implicitDefEqProofs [qV,h,h3]
 | none =>
 have h1:=A0.1 g
 rw [g] at h
 simp only [Option.elim] at h
 try simp at h
 by_cases hl : a.length = b.length
 ·have h2:=Ip h1 hl
  subst h2
  try simp at h
  simp -implicitDefEqProofs [qV,h]
 have h3 : ¬ a = b:=fun e=>hl (by rw [e])
 have h4 : ¬ (a.length : Int) = b.length:=by omega
 simp -implicitDefEqProofs [qV,h,h3,h4]
 all_goals (repeat' split) <;> first | rfl | omega | (simp_all; done) | (simp_all; omega) | skip
theorem Lo (a : Rq) (b : Rq) (ha : bh a≤1073741824) (hb : bh b≤1073741824) : ev LI TT 138 [.agg (dQ .af a),.agg (dQ .af b)] = some (.bool (gG a b),[.dead,.dead]):=by
 rw [av (b:=jW) (rs:=[.t 4]) (n:=2) rfl rfl]
 have pP : bh a = a.path.length + wL aC a.fields + a.body.length:=rfl
 have Y6 : bh b = b.path.length + wL aC b.fields + b.body.length:=rfl
 have l2:=aK (w:=aC) a.fields
 have l3:=aK (w:=aC) b.fields
 unfold gG nj
 have u1:=An  a ha
 try simp at u1
 have u2:=An  b hb
 try simp at u2
 have u3:=EA  a.fields b.fields (by omega) (by omega)
 try simp at u3
 have u4:=vR  a.fields (by omega)
 try simp at u4
 generalize jk a = g1 at u1
 generalize jk b = g2 at u2
 cases g1
 ·simp -implicitDefEqProofs [jW,u1]
 cases g2
 ·simp -implicitDefEqProofs [jW,u1,u2]
 by_cases g4 : a.method = 1
 rotate_left
 ·simp -implicitDefEqProofs [jW,u1,u2,g4]
 rw [g4] at u1
 by_cases g5 : b.method = 1
 rotate_left
 ·simp -implicitDefEqProofs [jW,u1,u2,g4,g5]
 rw [g5] at u2
 by_cases g3 : a.path = b.path
 rotate_left
 ·simp -implicitDefEqProofs [jW,u1,u2,g4,g5,eq_false g3]
 rw [← g3] at u2
 by_cases g6 : a.fields = b.fields
 rotate_left
 ·rw [decide_eq_false g6] at u3
  simp -implicitDefEqProofs [jW,u1,u2,u3,g4,g5,← g3,eq_false g6]
 rw [decide_eq_true g6] at u3
 generalize hns : (fE a.fields).ns = g7 at u4
 have Gb:=hns
 rw [g6] at Gb
 cases g7
 all_goals
 simp -implicitDefEqProofs [jW,u1,u2,u3,u4,g4,g5,← g3,eq_true g6,hns,Gb]
 all_goals (repeat' split) <;> first | rfl | omega | (simp_all; done) | (simp_all; omega) | skip
end M
set_option maxHeartbeats 4000000
namespace M
open Go
def kz (l : List Fl) (x : Fl×Nat) : Bool:=jk x.1.q && decide (1≤(x.1.who.length : Int)∧(x.1.who.length : Int)≤5) && (!x.1.jD || jg x.1.old) && aI (fun y=>!gG y.q x.1.q) (l.take x.2)
def rX (l : List Fl) : Bool:=decide ((l.length : Int)≤5) && aI (kz l) l.zipIdx
def lK (c : Ca) : Bool:=oG c.cz && decide (0≤c.now∧c.now≤1000000) && decide ((c.seen.length : Int)≤1500) && decide ((c.sent.length : Int)≤1500) && rX c.aT
theorem zE {l : List Fl} {x : Fl} (h : x∈l) : bh x.q≤wL bE l∧bA x.old≤wL bE l:=by
 have h1:=dz (w:=bE) h
 have h2 : bE x = bh x.q + wL wO x.who + bA x.old:=rfl
 omega
theorem vl (c : Ca) : wL bE c.aT≤bU c:=by unfold bU; omega
theorem Jg (c : Ca) (n : Nat) (x : Fl) (hn : n≤c.aT.length) (hx : bh x.q≤1073741824) (hc : bU c≤1073741824) : aF (ai (ev LI TT) (aj TT) uF) [(1,.ptr .own (bZ .af c)),(3,.int .i64 n),(4,.ptr .own (aY .af x)),(5,.int .i64 0)] = if aI (fun y=>!gG y.q x.q) (c.aT.take n) = true then some (.exit 2,[(1,.ptr .own (bZ .af c)),(3,.int .i64 n),(4,.ptr .own (aY .af x)),(5,.int .i64 (c.aT.take n).length),(69,.bool false)]) else some (.ret,[(2,.bool false)]):=by
 refine cq (f:=ai (ev LI TT) (aj TT) uF) (c.aT.take n) (fun i=>[(1,.ptr .own (bZ .af c)),(3,.int .i64 n),(4,.ptr .own (aY .af x)),(5,.int .i64 i)]) (fun y=>!gG y.q x.q) _ _ (fun i b hi hl=>?_) ?_
 ·have hw:=aL i (by have:=aK (w:=bE) c.aT; have:=vl c; simp at hl; omega)
  obtain ⟨_,rfl⟩:=List.getElem?_eq_some_iff.1 hi
  have h1 : i < n:=by simp at hl; omega
  have h2 : i < c.aT.length:=by omega
  have h3:=vl c
  have h4:=zE (List.getElem_mem h2)
  have u1:=Lo (c.aT[i]).q x.q (by omega) hx
  cases hal : gG (c.aT[i]).q x.q <;> rw [hal] at u1 <;> simp at u1
  all_goals
  simp -implicitDefEqProofs [uF,C3,hl,hw,h1,h2,u1,hal]
  all_goals (repeat' split) <;> first | rfl | omega | (simp_all; done) | (simp_all; omega) | skip
 ·have hmin : min n c.aT.length = n:=by omega
  simp -implicitDefEqProofs [uF,C3,hmin]
theorem Jh (c : Ca) (hc : bU c≤1048576) : aF (ai (ev LI TT) (aj TT) ow) [(1,.ptr .own (bZ .af c)),(3,.int .i64 0)] = if aI (kz c.aT) (c.aT.zipIdx) = true then some (.exit 0,[(1,.ptr .own (bZ .af c)),(3,.int .i64 (c.aT.zipIdx).length),(38,.bool false)]) else some (.ret,[(2,.bool false)]):=by
 refine cq (f:=ai (ev LI TT) (aj TT) ow) (c.aT.zipIdx) (fun i=>[(1,.ptr .own (bZ .af c)),(3,.int .i64 i)]) (kz c.aT) _ _ (fun i b hi hl=>?_) ?_
 ·have hw:=aL i (by have:=aK (w:=bE) c.aT; have:=vl c; simp at hl; omega)
  obtain ⟨_,rfl⟩:=List.getElem?_eq_some_iff.1 hi
  simp only [List.length_zipIdx] at hl
  have hz : c.aT.zipIdx[i]'(by simpa using hl) = (c.aT[i],i):=by simp
  have h3:=vl c
  have h4:=zE (List.getElem_mem hl)
  have hmin : min i c.aT.length = i:=by omega
  rw [hz]
  unfold kz
  have u1:=An  (c.aT[i]).q (by omega)
  try simp at u1
  have u2:=Ev  (c.aT[i]).old (by omega)
  try simp at u2
  have u3:=Jg  c i c.aT[i] (by omega) (by omega) (by omega)
  try simp at u3
  generalize jk (c.aT[i]).q = b1 at u1
  cases b1
  ·simp -implicitDefEqProofs [ow,qO,hl,hw,u1]
  by_cases g2 : 1≤((c.aT[i]).who.length : Int)∧((c.aT[i]).who.length : Int)≤5
  rotate_left
  ·simp only [ow,decide_eq_false g2,Bool.and_false,Bool.false_and]
   by_cases iQ : 1≤((c.aT[i]).who.length : Int)
   ·have nC : ¬ ((c.aT[i]).who.length : Int)≤5:=fun h=>g2 ⟨iQ,h⟩
    simp -implicitDefEqProofs [qO,hl,hw,u1,iQ,nC]
   ·simp -implicitDefEqProofs [qO,hl,hw,u1,iQ]
  rw [decide_eq_true g2]
  obtain ⟨iQ,nC⟩:=g2
  generalize jg (c.aT[i]).old = b2 at u2
  cases su : (c.aT[i]).jD
  all_goals rw [su] at u3
  all_goals cases b2
  all_goals cases g5 : aI (fun y : Fl=>!gG y.q (c.aT[i]).q) (c.aT.take i) <;> rw [g5] at u3
  all_goals try simp at u3
  all_goals
  simp -implicitDefEqProofs [ow,qO,hl,hw,u1,u2,u3,hmin,iQ,nC,su,g5]
  all_goals (repeat' split) <;> first | rfl | omega | (simp_all; done) | (simp_all; omega) | skip
 ·simp -implicitDefEqProofs [ow,qO]
theorem Lr (c : Ca) (hc : bU c≤1048576) : ev LI TT 53 [.agg (bZ .af c)] = some (.bool (lK c),[.dead]):=by
 rw [av (b:=jX) (rs:=[.t 2]) (n:=1) rfl rfl]
 have hsh : cv c.cz≤bU c:=by unfold bU; omega
 unfold lK rX
 have u1:=LA  c.cz (by omega)
 try simp at u1
 have u2:=Jh  c hc
 try simp at u2
 generalize oG c.cz = b1 at u1
 cases b1
 ·simp -implicitDefEqProofs [jX,u1]
 by_cases g1 : 0≤c.now
 rotate_left
 ·simp -implicitDefEqProofs [jX,u1,g1]
 by_cases g2 : c.now≤1000000
 rotate_left
 ·simp -implicitDefEqProofs [jX,u1,g1,g2]
 by_cases g3 : (c.aT.length : Int)≤5
 rotate_left
 ·have A8 : 5 < (c.aT.length : Int):=by omega
  simp -implicitDefEqProofs [jX,u1,g1,g2,g3,A8]
 by_cases g4 : (c.seen.length : Int)≤1500
 rotate_left
 ·have A9 : 1500 < (c.seen.length : Int):=by omega
  simp -implicitDefEqProofs [jX,u1,g1,g2,g3,g4,A9,(by omega : ¬ 5 < (c.aT.length : Int))]
 by_cases g5 : (c.sent.length : Int)≤1500
 rotate_left
 ·have lW : 1500 < (c.sent.length : Int):=by omega
  simp -implicitDefEqProofs [jX,u1,g1,g2,g3,g4,g5,lW,(by omega : ¬ 5 < (c.aT.length : Int)),(by omega : ¬ 1500 < (c.seen.length : Int))]
 have A8 : ¬ 5 < (c.aT.length : Int):=by omega
 have A9 : ¬ 1500 < (c.seen.length : Int):=by omega
 have lW : ¬ 1500 < (c.sent.length : Int):=by omega
 cases g6 : aI (kz c.aT) c.aT.zipIdx <;> rw [g6] at u2
 all_goals try simp at u2
 all_goals
 simp -implicitDefEqProofs [jX,u1,u2,g1,g2,g3,g4,g5,A8,A9,lW,g6]
 all_goals (repeat' split) <;> first | rfl | omega | (simp_all; done) | (simp_all; omega) | skip
theorem IG (l : List Fl) (n : Nat) (x : Fl) (hn : n≤l.length) (hx : bh x.q≤1073741824) (hc : wL bE l≤1048576) : aF (ai (ev LI TT) (aj TT) s9) [(0,.row .af 13 (l.map (aY .af))),(4,.ptr .own (aY .af x)),(7,.row .af 13 (l.map (aY .af))),(8,.int .i64 l.length),(9,.int .i64 n),(35,.row .af 13 (l.map (aY .af))),(36,.int .i64 n),(37,.row .af 13 ((l.take n).map (aY .af))),(38,.int .i64 n),(39,.int .i64 0)] = if aI (fun y=>!gG y.q x.q) (l.take n) = true then some (.exit 2,[(0,.row .af 13 (l.map (aY .af))),(4,.ptr .own (aY .af x)),(7,.row .af 13 (l.map (aY .af))),(8,.int .i64 l.length),(9,.int .i64 n),(35,.row .af 13 (l.map (aY .af))),(36,.int .i64 n),(37,.row .af 13 ((l.take n).map (aY .af))),(38,.int .i64 n),(39,.int .i64 (l.take n).length),(40,.bool false)]) else some (.ret,[(2,.bool false)]):=by
 refine cq (f:=ai (ev LI TT) (aj TT) s9) (l.take n) (fun i=>[(0,.row .af 13 (l.map (aY .af))),(4,.ptr .own (aY .af x)),(7,.row .af 13 (l.map (aY .af))),(8,.int .i64 l.length),(9,.int .i64 n),(35,.row .af 13 (l.map (aY .af))),(36,.int .i64 n),(37,.row .af 13 ((l.take n).map (aY .af))),(38,.int .i64 n),(39,.int .i64 i)]) (fun y=>!gG y.q x.q) _ _ (fun i b hi hl=>?_) ?_
 ·have hw:=aL i (by have:=aK (w:=bE) l; simp at hl; omega)
  obtain ⟨_,rfl⟩:=List.getElem?_eq_some_iff.1 hi
  have h1 : i < n:=by simp at hl; omega
  have h2 : i < l.length:=by omega
  have h4:=zE (List.getElem_mem h2)
  have u1:=J6 (l[i]).q x.q (by omega) hx
  cases hal : gG (l[i]).q x.q <;> rw [hal] at u1 <;> simp at u1
  all_goals
  simp -implicitDefEqProofs [s9,BP,hl,hw,h1,h2,u1,hal]
  all_goals (repeat' split) <;> first | rfl | omega | (simp_all; done) | (simp_all; omega) | skip
 ·have hmin : min n l.length = n:=by omega
  simp -implicitDefEqProofs [s9,BP,hmin]
theorem II (l : List Fl) (hc : wL bE l≤1048576) : aF (ai (ev LI TT) (aj TT) nV) [(0,.row .af 13 (l.map (aY .af))),(7,.row .af 13 (l.map (aY .af))),(8,.int .i64 l.length),(9,.int .i64 0)] = if aI (kz l) (l.zipIdx) = true then some (.exit 0,[(0,.row .af 13 (l.map (aY .af))),(7,.row .af 13 (l.map (aY .af))),(8,.int .i64 l.length),(9,.int .i64 (l.zipIdx).length),(10,.bool false)]) else some (.ret,[(2,.bool false)]):=by
 refine cq (f:=ai (ev LI TT) (aj TT) nV) (l.zipIdx) (fun i=>[(0,.row .af 13 (l.map (aY .af))),(7,.row .af 13 (l.map (aY .af))),(8,.int .i64 l.length),(9,.int .i64 i)]) (kz l) _ _ (fun i b hi hl=>?_) ?_
 ·have hw:=aL i (by have:=aK (w:=bE) l; simp at hl; omega)
  obtain ⟨_,rfl⟩:=List.getElem?_eq_some_iff.1 hi
  simp only [List.length_zipIdx] at hl
  have hz : l.zipIdx[i]'(by simpa using hl) = (l[i],i):=by simp
  have h4:=zE (List.getElem_mem hl)
  have hmin : min i l.length = i:=by omega
  have hle : (i : Int)≤l.length:=by omega
  have kF : i≤l.length:=by omega
  rw [hz]
  unfold kz
  have u1:=Ef  (l[i]).q (by omega)
  try simp at u1
  have u2:=Ed  (l[i]).old (by omega)
  try simp at u2
  have u3:=IG  l i l[i] (by omega) (by omega) (by omega)
  try simp at u3
  generalize jk (l[i]).q = b1 at u1
  cases b1
  ·simp -implicitDefEqProofs [nV,pW,hl,hw,u1]
  by_cases g2 : 1≤((l[i]).who.length : Int)∧((l[i]).who.length : Int)≤5
  rotate_left
  ·simp only [nV,decide_eq_false g2,Bool.and_false,Bool.false_and]
   by_cases iQ : 1≤((l[i]).who.length : Int)
   ·have nC : ¬ ((l[i]).who.length : Int)≤5:=fun h=>g2 ⟨iQ,h⟩
    simp -implicitDefEqProofs [pW,hl,hw,u1,iQ,nC]
   ·simp -implicitDefEqProofs [pW,hl,hw,u1,iQ]
  rw [decide_eq_true g2]
  obtain ⟨iQ,nC⟩:=g2
  generalize jg (l[i]).old = b2 at u2
  cases su : (l[i]).jD
  all_goals rw [su] at u3
  all_goals cases b2
  all_goals cases g5 : aI (fun y : Fl=>!gG y.q (l[i]).q) (l.take i) <;> rw [g5] at u3
  all_goals try simp at u3
  all_goals try simp only [hmin] at u3
  all_goals
  simp -implicitDefEqProofs [nV,pW,hl,hw,u1,u2,u3,hmin,hle,kF,iQ,nC,su,g5]
  all_goals (repeat' split) <;> first | rfl | omega | (simp_all; done) | (simp_all; omega) | skip
 ·simp -implicitDefEqProofs [nV,pW]
theorem Kt (l : List Fl) (hc : wL bE l≤1048576) : ev LI TT 144 [.row .af 13 (l.map (aY .af))] = some (.bool (rX l),[.dead]):=by
 rw [av (b:=xw) (rs:=[.t 2]) (n:=1) rfl rfl]
 have u1:=II  l hc
 try simp at u1
 unfold rX
 cases g6 : aI (kz l) l.zipIdx <;> rw [g6] at u1
 all_goals try simp at u1
 all_goals
 simp -implicitDefEqProofs [xw,u1]
 all_goals (repeat' split) <;> first | rfl | omega | (simp_all; done) | (simp_all; omega) | skip
theorem J9 (c : Ca) (hc : bU c≤1048576) : ev LI TT 60 [.agg (bZ .af c)] = some (.bool (lK c),[.dead]):=by
 rw [av (b:=kK) (rs:=[.t 2]) (n:=1) rfl rfl]
 have hsh : cv c.cz≤bU c:=by unfold bU; omega
 have hfl:=vl c
 unfold lK
 have u1:=Kl  c.cz (by omega)
 try simp at u1
 have u2:=Kt  c.aT (by omega)
 try simp at u2
 by_cases g1 : 0≤c.now
 rotate_left
 ·simp -implicitDefEqProofs [kK,u1,g1]
 by_cases g2 : c.now≤1000000
 rotate_left
 ·simp -implicitDefEqProofs [kK,u1,g1,g2]
 by_cases g4 : (c.seen.length : Int)≤1500
 rotate_left
 ·simp -implicitDefEqProofs [kK,u1,g1,g2,g4]
 by_cases g5 : (c.sent.length : Int)≤1500
 rotate_left
 ·simp -implicitDefEqProofs [kK,u1,g1,g2,g4,g5]
 generalize rX c.aT = b2 at u2
 cases b2
 ·simp -implicitDefEqProofs [kK,u1,u2,g1,g2,g4,g5]
 generalize oG c.cz = b1 at u1
 cases b1
 all_goals
 simp -implicitDefEqProofs [kK,u1,u2,g1,g2,g4,g5]
 all_goals (repeat' split) <;> first | rfl | omega | (simp_all; done) | (simp_all; omega) | skip
end M
set_option maxHeartbeats 4000000
namespace M
open Go
end M
set_option maxHeartbeats 4000000
namespace M
open Go
theorem Av (c : Ca) : wL bx c.sent≤bU c:=by unfold bU; omega
end M
set_option maxHeartbeats 4000000
namespace M
open Go
def nB (fs : List aD) (t now : Int) : Bool:=decide (cC fs t now < (fE fs).lC) && !(fE fs).nc
def oF (a b : bY) : Bool:=decide (a.status = b.status) && decide (a.body = b.body) && decide (a.fields = b.fields)
def l9 (c : Ca) (a : Rp) : Bool:=nB a.obj.resp.fields a.obj.t a.t && decide (a.obj.path = a.q.path) && j7 a.obj.names a.obj.values a.q.fields && decide (a.q.method = 1) && !(fE a.q.fields).nc && !(fE a.q.fields).ns && oF a.resp (answer a.q a.obj a.t) && decide (0≤jA c a)
def BW (c : Ca) : Bool:=lK c && aI (fun a : Rp=>!(decide (a.kind = 1) && !l9 c a)) c.sent
theorem Lx (fs : List aD) (hb : wL aC fs≤1073741824) : ev LI TT 165 [.row .af 2 (fs.map aA)] = some (.int .i64 ((fE fs).lC),[.dead]):=by
 rw [av (b:=yQ) (rs:=[.t 2]) (n:=1) rfl rfl]
 have u1:=vR  fs hb
 try simp at u1
 simp -implicitDefEqProofs [yQ,u1]
 all_goals (repeat' split) <;> first | rfl | omega | (simp_all; done) | (simp_all; omega) | skip
theorem Kh (fs : List aD) (hb : wL aC fs≤1073741824) : ev LI TT 241 [.row .af 2 (fs.map aA)] = some (.int .i64 ((fE fs).lC),[.dead]):=by
 rw [av (b:=w6) (rs:=[.t 2]) (n:=1) rfl rfl]
 have u1:=vQ  fs hb
 try simp at u1
 simp -implicitDefEqProofs [w6,u1]
 all_goals (repeat' split) <;> first | rfl | omega | (simp_all; done) | (simp_all; omega) | skip
theorem Lv (fs : List aD) (t : Int) (now : Int) (hb : wL aC fs≤1048576) (h3 : bI t) (h4 : bI now) : ev LI TT 72 [.row .af 2 (fs.map aA),.int .i64 t,.int .i64 now] = some (.bool (nB fs t now),[.dead,.dead,.dead]):=by
 rw [av (b:=yO) (rs:=[.t 6]) (n:=3) rfl rfl]
 have hfl:=aK (w:=aC) fs
 unfold nB
 have u1:=Ep  fs t now (by omega) h3 h4
 try simp at u1
 have u2:=Lx  fs (by omega)
 try simp at u2
 have u3:=vR  fs (by omega)
 try simp at u3
 by_cases g : cC fs t now < (fE fs).lC
 all_goals
 simp -implicitDefEqProofs [yO,u1,u2,u3,g]
 all_goals (repeat' split) <;> first | rfl | omega | (simp_all; done) | (simp_all; omega) | skip
theorem Kf (fs : List aD) (t : Int) (now : Int) (hb : wL aC fs≤1048576) (h3 : bI t) (h4 : bI now) : ev LI TT 153 [.row .af 2 (fs.map aA),.int .i64 t,.int .i64 now] = some (.bool (nB fs t now),[.dead,.dead,.dead]):=by
 rw [av (b:=wZ) (rs:=[.t 6]) (n:=3) rfl rfl]
 have hfl:=aK (w:=aC) fs
 unfold nB
 have u1:=D9  fs t now (by omega) h3 h4
 try simp at u1
 have u2:=Kh  fs (by omega)
 try simp at u2
 have u3:=vQ  fs (by omega)
 try simp at u3
 by_cases g : cC fs t now < (fE fs).lC
 all_goals
 simp -implicitDefEqProofs [wZ,u1,u2,u3,g]
 all_goals (repeat' split) <;> first | rfl | omega | (simp_all; done) | (simp_all; omega) | skip
theorem LG (a : bY) (b : bY) (ha : a.fields.length≤1073741824) (hb : b.fields.length≤1073741824) : ev LI TT 149 [.agg (cw .af a),.agg (cw .af b)] = some (.bool (oF a b),[.dead,.dead]):=by
 rw [av (b:=y9) (rs:=[.t 4]) (n:=2) rfl rfl]
 unfold oF
 have u1:=EA  a.fields b.fields (by omega) (by omega)
 try simp at u1
 by_cases g1 : a.status = b.status
 all_goals by_cases g2 : a.body = b.body
 all_goals
 simp -implicitDefEqProofs [y9,u1,g1,g2]
 all_goals (repeat' split) <;> first | rfl | omega | (simp_all; done) | (simp_all; omega) | skip
theorem Kv (a : bY) (b : bY) (ha : a.fields.length≤1073741824) (hb : b.fields.length≤1073741824) : ev LI TT 155 [.agg (cw .af a),.agg (cw .af b)] = some (.bool (oF a b),[.dead,.dead]):=by
 rw [av (b:=xE) (rs:=[.t 4]) (n:=2) rfl rfl]
 unfold oF
 have u1:=EC  a.fields b.fields (by omega)
 try simp at u1
 by_cases g1 : a.status = b.status
 all_goals by_cases g2 : a.body = b.body
 all_goals
 simp -implicitDefEqProofs [xE,u1,g1,g2]
 all_goals (repeat' split) <;> first | rfl | omega | (simp_all; done) | (simp_all; omega) | skip
theorem DY (q : Rq) (o : Ob) (now : Int) (h : bA o≤1048576) : (answer q o now).fields.length≤1073741824:=by
 have hw : bA o = o.path.length + wL wS o.names + wL wS o.values + bk o.resp:=rfl
 have wR : bk o.resp = wL aC o.resp.fields + o.resp.body.length:=rfl
 have l1:=aK (w:=aC) o.resp.fields
 have l3:=CJ (cC o.resp.fields o.t now)
 have l4:=Dl o.resp
 have l5:=aK (w:=aC) (o.resp.fields.filter cU)
 have l6:=qI o.resp.fields cx (cJ (cC o.resp.fields o.t now))
 have l7:=qI (o.resp.fields.filter cU) cx (cJ (cC o.resp.fields o.t now))
 have l8 : cx.length = 3:=rfl
 have m1:=aK (w:=aC) (fq o.resp.fields cx (cJ (cC o.resp.fields o.t now)))
 have m2:=aK (w:=aC) (fq (o.resp.fields.filter cU) cx (cJ (cC o.resp.fields o.t now)))
 unfold answer
 by_cases g1 : mS q o.resp.fields = true
 ·simp only [g1,↓reduceIte,gD]
  split
  ·simp only; omega
  ·simp only; omega
 ·simp only [g1]
  split
  ·rename_i h; exact absurd h (by simp)
  ·split
   ·simp only; omega
   ·omega
theorem LF (c : Ca) (a : Rp) (hc : bU c≤1048576) (ha : bx a≤1048576) (h3 : bI a.obj.t) (h4 : bI a.t) : ev LI TT 65 [.agg (bZ .af c),.agg (bK .af a)] = some (.bool (l9 c a),[.dead,.dead]):=by
 rw [av (b:=jo) (rs:=[.t 4]) (n:=2) rfl rfl]
 have q3 : bx a = bh a.q + bk a.resp + bA a.obj:=rfl
 have q4 : bA a.obj = a.obj.path.length + wL wS a.obj.names + wL wS a.obj.values + bk a.obj.resp:=rfl
 have q5 : bk a.obj.resp = wL aC a.obj.resp.fields + a.obj.resp.body.length:=rfl
 have q6 : bh a.q = a.q.path.length + wL aC a.q.fields + a.q.body.length:=rfl
 have q7 : bk a.resp = wL aC a.resp.fields + a.resp.body.length:=rfl
 have l1:=aK (w:=aC) a.resp.fields
 have l2:=aK (w:=aC) a.q.fields
 have l3:=aK (w:=wS) a.obj.names
 have l4:=aK (w:=wS) a.obj.values
 have l5:=DY a.q a.obj a.t (by omega)
 unfold l9
 have u1:=vR  a.q.fields (by omega)
 try simp at u1
 have u2:=Lv  a.obj.resp.fields a.obj.t a.t (by omega) h3 h4
 try simp at u2
 have u3:=Ez  a.obj.names a.obj.values a.q.fields (by omega) (by omega) (by omega)
 try simp at u3
 have u4:=Lp  a.q a.obj a.t (by omega) (by omega) h3 h4
 try simp at u4
 have u5:=LG  a.resp (answer a.q a.obj a.t) (by omega) l5
 try simp at u5
 have u6:=Lt  c a hc ha
 try simp at u6
 generalize nB a.obj.resp.fields a.obj.t a.t = b1 at u2
 generalize j7 a.obj.names a.obj.values a.q.fields = b2 at u3
 generalize answer a.q a.obj a.t = r at u4 u5
 generalize oF a.resp r = b3 at u5
 generalize fE a.q.fields = cc at u1
 obtain ⟨c1,c2,c3,c4,c5,c6⟩:=cc
 simp only at u1
 generalize jA c a = n at u6
 cases b1
 ·simp -implicitDefEqProofs [jo,u1,u2]
 by_cases g1 : a.obj.path = a.q.path
 rotate_left
 ·simp -implicitDefEqProofs [jo,u1,u2,eq_false g1]
 cases b2
 ·simp -implicitDefEqProofs [jo,u1,u2,u3,eq_true g1]
 by_cases g2 : a.q.method = 1
 rotate_left
 ·simp -implicitDefEqProofs [jo,u1,u2,u3,eq_true g1,g2]
 rw [g2] at u4
 cases c2
 rotate_left
 ·simp -implicitDefEqProofs [jo,u1,u2,u3,eq_true g1,g2]
 cases c1
 rotate_left
 ·simp -implicitDefEqProofs [jo,u1,u2,u3,eq_true g1,g2]
 cases b3
 ·simp -implicitDefEqProofs [jo,u1,u2,u3,u4,u5,eq_true g1,g2]
 simp -implicitDefEqProofs [jo,u1,u2,u3,u4,u5,u6,eq_true g1,g2]
 all_goals (repeat' split) <;> first | rfl | omega | (simp_all; done) | (simp_all; omega) | skip
theorem Kb (c : Ca) (a : Rp) (hc : bU c≤1048576) (ha : bx a≤1048576) (h3 : bI a.obj.t) (h4 : bI a.t) : ev LI TT 66 [.ptr .af (bZ .af c),.agg (bK .af a)] = some (.bool (l9 c a),[.dead,.dead]):=by
 rw [av (b:=iW) (rs:=[.t 4]) (n:=2) rfl rfl]
 have q3 : bx a = bh a.q + bk a.resp + bA a.obj:=rfl
 have q4 : bA a.obj = a.obj.path.length + wL wS a.obj.names + wL wS a.obj.values + bk a.obj.resp:=rfl
 have q5 : bk a.obj.resp = wL aC a.obj.resp.fields + a.obj.resp.body.length:=rfl
 have q6 : bh a.q = a.q.path.length + wL aC a.q.fields + a.q.body.length:=rfl
 have q7 : bk a.resp = wL aC a.resp.fields + a.resp.body.length:=rfl
 have l1:=aK (w:=aC) a.resp.fields
 have l2:=aK (w:=aC) a.q.fields
 have l3:=aK (w:=wS) a.obj.names
 have l4:=aK (w:=wS) a.obj.values
 have l5:=DY a.q a.obj a.t (by omega)
 unfold l9
 have u1:=vQ  a.q.fields (by omega)
 try simp at u1
 have u2:=Kf  a.obj.resp.fields a.obj.t a.t (by omega) h3 h4
 try simp at u2
 have u3:=Eh  a.obj.names a.obj.values a.q.fields (by omega) (by omega) (by omega)
 try simp at u3
 have u4:=J7  a.q a.obj a.t (by omega) (by omega) h3 h4
 try simp at u4
 have u5:=Kv  a.resp (answer a.q a.obj a.t) (by omega) l5
 try simp at u5
 have u6:=Ka  c a hc ha
 try simp at u6
 generalize nB a.obj.resp.fields a.obj.t a.t = b1 at u2
 generalize j7 a.obj.names a.obj.values a.q.fields = b2 at u3
 generalize answer a.q a.obj a.t = r at u4 u5
 generalize oF a.resp r = b3 at u5
 generalize fE a.q.fields = cc at u1
 obtain ⟨c1,c2,c3,c4,c5,c6⟩:=cc
 simp only at u1
 generalize jA c a = n at u6
 cases b1
 ·simp -implicitDefEqProofs [iW,iX,jL,jM,jN,u1,u2]
 by_cases g1 : a.obj.path = a.q.path
 rotate_left
 ·simp -implicitDefEqProofs [iW,iX,jL,jM,jN,u1,u2,eq_false g1]
 cases b2
 ·simp -implicitDefEqProofs [iW,iX,jL,jM,jN,u1,u2,u3,eq_true g1]
 by_cases g2 : a.q.method = 1
 rotate_left
 ·simp -implicitDefEqProofs [iW,iX,jL,jM,jN,u1,u2,u3,eq_true g1,g2]
 rw [g2] at u4
 cases c2
 rotate_left
 ·simp -implicitDefEqProofs [iW,iX,jL,jM,jN,u1,u2,u3,eq_true g1,g2]
 cases c1
 rotate_left
 ·simp -implicitDefEqProofs [iW,iX,jL,jM,jN,u1,u2,u3,eq_true g1,g2]
 cases b3
 ·simp -implicitDefEqProofs [iW,iX,jL,jM,jN,u1,u2,u3,u4,u5,eq_true g1,g2]
 simp -implicitDefEqProofs [iW,u1,u2,u3,u4,u5,u6,eq_true g1,g2,iX,jL,jM,jN]
 all_goals (repeat' split) <;> first | rfl | omega | (simp_all; done) | (simp_all; omega) | skip
end M
set_option maxHeartbeats 4000000
namespace M
open Go
def kO (c : Ca) (a : Rp) : Bool:=!(decide (a.kind = 1) && !l9 c a)
theorem Gs (c : Ca) : BW c = (lK c && aI (kO c) c.sent):=rfl
theorem Hq {c : Ca} {x : Rp} (hx : x∈c.sent) : bx x≤bU c:=by
 have h1:=dz (w:=bx) hx
 have h5:=Av c
 omega
theorem Jm (c : Ca) (hc : bU c≤1048576) (k : lG c) : aF (ai (ev LI TT) (aj TT) qP) [(1,.ptr .own (bZ .af c)),(3,.int .i64 0)] = if aI (kO c) (c.sent) = true then some (.exit 0,[(1,.ptr .own (bZ .af c)),(3,.int .i64 (c.sent).length),(11,.bool false)]) else some (.ret,[(2,.bool false)]):=by
 refine cq (f:=ai (ev LI TT) (aj TT) qP) (c.sent) (fun i=>[(1,.ptr .own (bZ .af c)),(3,.int .i64 i)]) (kO c) _ _ (fun i b hi hl=>?_) ?_
 ·have hw:=aL i (by have:=aK (w:=bx) c.sent; have:=Av c; omega)
  obtain ⟨_,rfl⟩:=List.getElem?_eq_some_iff.1 hi
  have ho:=Hq (List.getElem_mem hl)
  have kx:=k.B1.2 _ (List.getElem_mem hl)
  have u1:=LF c c.sent[i] hc (by omega) kx.tj.nX kx.nX
  try simp at u1
  unfold kO
  by_cases g1 : (c.sent[i]).kind = 1
  rotate_left
  ·simp -implicitDefEqProofs [qP,yP,hl,hw,g1]
  rw [g1] at u1
  cases hh : l9 c c.sent[i] <;> rw [hh] at u1
  all_goals
  simp -implicitDefEqProofs [qP,yP,hl,hw,u1,hh,g1]
  all_goals (repeat' split) <;> first | rfl | omega | (simp_all; done) | (simp_all; omega) | skip
 ·simp -implicitDefEqProofs [qP,yP]
theorem Lw (c : Ca) (hc : bU c≤1048576) (k : lG c) : ev LI TT 16 [.agg (bZ .af c)] = some (.bool (BW c),[.dead]):=by
 rw [av (b:=uI) (rs:=[.t 2]) (n:=1) rfl rfl]
 rw [Gs]
 have u1:=Lr  c hc
 try simp at u1
 have u2:=Jm  c hc k
 try simp at u2
 generalize lK c = b1 at u1
 cases b1
 ·simp -implicitDefEqProofs [uI,u1]
 cases h2 : aI (kO c) c.sent <;> rw [h2] at u2
 all_goals try simp at u2
 all_goals
 simp -implicitDefEqProofs [uI,u1,u2]
 all_goals (repeat' split) <;> first | rfl | omega | (simp_all; done) | (simp_all; omega) | skip
theorem Iw (c : Ca) (hc : bU c≤1048576) (k : lG c) : aF (ai (ev LI TT) (aj TT) pR) [(1,.ptr .own (bZ .af c)),(8,.az 1 [] 0 9),(9,.row .af 18 (c.sent.map (bK .af))),(10,.int .i64 c.sent.length),(11,.int .i64 0)] = if aI (kO c) (c.sent) = true then some (.exit 0,[(1,.ptr .own (bZ .af c)),(8,.az 1 [] 0 9),(9,.row .af 18 (c.sent.map (bK .af))),(10,.int .i64 c.sent.length),(11,.int .i64 (c.sent).length),(12,.bool false)]) else some (.ret,[(2,.bool false)]):=by
 refine cq (f:=ai (ev LI TT) (aj TT) pR) (c.sent) (fun i=>[(1,.ptr .own (bZ .af c)),(8,.az 1 [] 0 9),(9,.row .af 18 (c.sent.map (bK .af))),(10,.int .i64 c.sent.length),(11,.int .i64 i)]) (kO c) _ _ (fun i b hi hl=>?_) ?_
 ·have hw:=aL i (by have:=aK (w:=bx) c.sent; have:=Av c; omega)
  obtain ⟨_,rfl⟩:=List.getElem?_eq_some_iff.1 hi
  have ho:=Hq (List.getElem_mem hl)
  have kx:=k.B1.2 _ (List.getElem_mem hl)
  have u1:=Kb c c.sent[i] hc (by omega) kx.tj.nX kx.nX
  try simp at u1
  unfold kO
  by_cases g1 : (c.sent[i]).kind = 1
  rotate_left
  ·simp -implicitDefEqProofs [pR,w5,hl,hw,g1]
  rw [g1] at u1
  cases hh : l9 c c.sent[i] <;> rw [hh] at u1
  all_goals
  simp -implicitDefEqProofs [pR,w5,hl,hw,u1,hh,g1]
  all_goals (repeat' split) <;> first | rfl | omega | (simp_all; done) | (simp_all; omega) | skip
 ·simp -implicitDefEqProofs [pR,w5]
theorem Kg (c : Ca) (hc : bU c≤1048576) (k : lG c) : ev LI TT 17 [.agg (bZ .af c)] = some (.bool (BW c),[.dead]):=by
 rw [av (b:=sU) (rs:=[.t 2]) (n:=1) rfl rfl]
 rw [Gs]
 have u1:=J9  c hc
 try simp at u1
 have u2:=Iw  c hc k
 try simp at u2
 generalize lK c = b1 at u1
 cases b1
 ·simp -implicitDefEqProofs [sU,u1]
 cases h2 : aI (kO c) c.sent <;> rw [h2] at u2
 all_goals try simp at u2
 all_goals
 simp -implicitDefEqProofs [sU,u1,u2]
 all_goals (repeat' split) <;> first | rfl | omega | (simp_all; done) | (simp_all; omega) | skip
end M
set_option maxHeartbeats 4000000
namespace M
open Go
theorem Ze (a0 : Ca) (k0 : lG a0) : ∃ ps,ev LI TT 4 [.agg (bZ .sl a0)] = some (.bool true,ps):=by
 rw [av (b:=tq) (rs:=[.t 2]) (n:=1) rfl rfl]
 have s0:=KR a0 1048576 k0 (by omega) (by omega)
 have w0:=aU 1048576 (bU a0)
 obtain ⟨m0,e0⟩ : ∃ m,m = ay 1048576 (bU a0):=⟨_,rfl⟩
 rw [← e0] at s0 w0
 try simp at s0
 by_cases z0 : m0 < 0
 ·simp -implicitDefEqProofs [tq,s0,z0]
 have t0:=K8 a0 (by omega)
 try simp at t0
 have q0:=KA a0 a0 (by omega)
 try simp at q0
 have hS:=Lw a0 (by omega) k0
 have hI:=Kg a0 (by omega) k0
 try simp at hS
 try simp at hI
 simp -implicitDefEqProofs [tq,s0,z0,t0,q0,hS,hI]
end M
