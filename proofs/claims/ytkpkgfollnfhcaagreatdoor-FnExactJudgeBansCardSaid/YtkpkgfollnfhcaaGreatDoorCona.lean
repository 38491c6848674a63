/- What the functions come to in the machine; no conditions. -/
import Derived.Test.YtkpkgfollnfhcaaGreatDoorTab
import Derived.Test.YtkpkgfollnfhcaaGreatDoorMc
set_option linter.unusedSectionVars false
set_option linter.unusedVariables false
set_option linter.unusedSimpArgs false
namespace M
open Go
theorem G4 (l : List ah) (hlen : l.length≤9223372036854775807) (hb : bL bS l) (n : Int) (hn : 0≤n) (hm : n≤9223372036854775807) : aH (ai (ev LI TT) (ak TT) pn) [(0,.row .af 1 (l.map (eS))),(1,.int .i64 n),(5,.int .i64 0)] = if cR (fun b n=>av n (wS b)) (l) n < 0 then some (.ret,[(4,.int .i64 (-1))]) else some (.exit 0,[(0,.row .af 1 (l.map (eS))),(1,.int .i64 (cR (fun b n=>av n (wS b)) (l) n)),(5,.int .i64 (l).length),(15,.bool false)]):=by
 refine lT (f:=ai (ev LI TT) (ak TT) pn) (l) (fun i n=>[(0,.row .af 1 (l.map (eS))),(1,.int .i64 n),(5,.int .i64 i)]) (fun b n=>av n (wS b)) _ (fun n=>[(0,.row .af 1 (l.map (eS))),(1,.int .i64 n),(5,.int .i64 (l).length),(15,.bool false)]) n hn hm (fun b n=>l5 _ n) (fun i b n hi hl hn hm=>?_) (fun n=>?_)
 ·have hw:=aM i (by first | omega | (simp at hl; omega))
  obtain ⟨_,rfl⟩:=List.getElem?_eq_some_iff.1 hi
  have h1 : (l[i]).length≤9223372036854775807:=hb.2 _ (List.getElem_mem hl)
  have h3:=aX n (wS l[i])
  have h4 : wS l[i] = (l[i]).length:=rfl
  obtain ⟨m,e1⟩ : ∃ m,m = n - ((l[i]).length : Int):=⟨_,rfl⟩
  have h2 : IntKind.i64.wrap (n - ((l[i]).length : Int)) = m:=by rw [e1]; exact cz (by omega) (by omega)
  by_cases h5 : m < 0
  ·have ef : av n (wS l[i]) = -1:=by omega
   simp -implicitDefEqProofs [pn,wj,hl,hw,h2,h5,ef]
  have ef : av n (wS l[i]) = m:=by omega
  simp -implicitDefEqProofs [pn,wj,hl,hw,h2,h5,ef]
 ·simp -implicitDefEqProofs [pn,wj]
theorem yH (l : List ah) (n : Int) (hb : bL bS l) (hn : 0≤n) (hm : n≤9223372036854775807) : ev LI TT 105 [.row .af 1 (l.map (eS)),.int .i64 n] = some (.int .i64 (av n (wL wS l)),[.dead,.dead]):=by
 rw [az (b:=pq) (rs:=[.t 4]) (n:=2) rfl rfl]
 have hl:=hb.1
 have hw : wL wS l = l.length + (l.map wS).sum:=rfl
 have ht:=aX n (wL wS l)
 obtain ⟨m,e1⟩ : ∃ m,m = n - (l.length : Int):=⟨_,rfl⟩
 have h2 : IntKind.i64.wrap (n - (l.length : Int)) = m:=by rw [e1]; exact cz (by omega) (by omega)
 by_cases h : m < 0
 ·have ef : av n (wL wS l) = -1:=by omega
  simp -implicitDefEqProofs [pq,h2,h,ef]
 have h3:=G4  l hb.1 hb m (by omega) (by omega)
 rw [kI _ _ _ (by omega)] at h3
 have hs:=aX m (l.map wS).sum
 obtain ⟨q,e2⟩ : ∃ q,q = av m (l.map wS).sum:=⟨_,rfl⟩
 rw [← e2] at h3 hs
 try simp at h3
 by_cases h4 : q < 0
 ·have ef : av n (wL wS l) = -1:=by omega
  simp only [h4,if_true] at h3
  simp -implicitDefEqProofs [pq,h2,h,h3,ef]
 have ef : av n (wL wS l) = q:=by omega
 simp only [h4,if_false] at h3
 simp -implicitDefEqProofs [pq,h2,h,h3,ef]
 all_goals (repeat' split) <;> first | rfl | omega | (simp_all; done) | (simp_all; omega) | skip
theorem Hh (l : List ah) (hlen : l.length≤1048576) (hb : wL wS l≤1048576) : aH (ai (ev LI TT) (ak TT) sK) [(0,.row .af 1 (l.map eS)),(3,.row .own 1 (cD (l.map eS) 0 [.str ⟨#[]⟩])),(4,.int .i64 0),(6,.int .i64 l.length)] = some (.exit 0,[(0,.row .af 1 (l.map eS)),(3,.row .own 1 (l.map eS)),(4,.int .i64 (l).length),(6,.int .i64 l.length),(11,.bool false)]):=by
 refine iT (f:=ai (ev LI TT) (ak TT) sK) (l) (fun i=>[(0,.row .af 1 (l.map eS)),(3,.row .own 1 (cD (l.map eS) i [.str ⟨#[]⟩])),(4,.int .i64 i),(6,.int .i64 l.length)]) _ (fun i b hi hl=>?_) ?_
 ·have hw:=aM i (by first | omega | (simp at hl; omega))
  obtain ⟨_,rfl⟩:=List.getElem?_eq_some_iff.1 hi
  skip
  simp -implicitDefEqProofs [sK,A7,hl,hw]
  first | done | (rw [ez _ _ _ _ (by simpa using hl) (by simp)]; done) | (simp only [kA]; rw [ez _ _ _ _ (by simpa using hl) (by simp)])
 ·simp -implicitDefEqProofs [sK,A7]
theorem yL (l : List ah) (hb : wL wS l≤1048576) : ev LI TT 111 [.row .af 1 (l.map eS)] = some (.row .own 1 (l.map eS),[.dead]):=by
 rw [az (b:=wN) (rs:=[.t 2]) (n:=1) rfl rfl]
 have hlen:=bk (w:=wS) l
 have h:=Hh  l (by omega) hb
 try simp at h
 simp -implicitDefEqProofs [wN,h,(by omega : (l.length : Int) * 16≤140737488355328)]
 all_goals (repeat' split) <;> first | rfl | omega | (simp_all; done) | (simp_all; omega) | skip
theorem GS (ps : List (ah×ah)) (hb : ps.length≤9223372036854775807) (cM : ∀ x∈ps,wS x.1≤1073741824) : aH (ai (ev LI TT) (ak TT) sg) [(0,.row .af 1 (ps.map (fun x : ah×ah=>eS x.1))),(1,.row .af 1 (ps.map (fun x : ah×ah=>eS x.2))),(5,.int .i64 0)] = if aF bH (ps) = true then some (.exit 0,[(0,.row .af 1 (ps.map (fun x : ah×ah=>eS x.1))),(1,.row .af 1 (ps.map (fun x : ah×ah=>eS x.2))),(5,.int .i64 ps.length),(14,.bool false)]) else some (.ret,[(4,.bool false)]):=by
 refine bX (f:=ai (ev LI TT) (ak TT) sg) (ps) (fun i=>[(0,.row .af 1 (ps.map (fun x : ah×ah=>eS x.1))),(1,.row .af 1 (ps.map (fun x : ah×ah=>eS x.2))),(5,.int .i64 i)]) bH _ _ (fun i b hi hl=>?_) ?_
 ·have hw:=aM i (by first | omega | (simp at hl; omega))
  obtain ⟨_,rfl⟩:=List.getElem?_eq_some_iff.1 hi
  simp -implicitDefEqProofs [sg,AM,hl,hw,bH]
  first | done | (split <;> simp_all)
 ·simp -implicitDefEqProofs [sg,AM]
theorem yC (a b : List ah) (hb : wL wS a≤1073741824) : ev LI TT 77 [.row .af 1 (a.map eS),.row .af 1 (b.map eS)] = some (.bool (decide (a = b)),[.dead,.dead]):=by
 rw [az (b:=wg) (rs:=[.t 4]) (n:=2) rfl rfl]
 simp -implicitDefEqProofs [wg]
 have hlen:=bk (w:=wS) a
 by_cases h : a.length = b.length
 ·obtain ⟨ps,rfl,rfl⟩:=iB h
  have h1:=GS  ps (by simp at hlen; omega) (fun x hx=>Nat.le_trans (dx (List.mem_map_of_mem hx)) hb)
  have h2:=gQ ps
  simp at h1
  rw [← h2]
  cases h3 : aF bH ps <;> rw [h3] at h1 <;> simp [h1,Function.comp_def]
 ·have : ¬ a = b:=fun e=>h (by rw [e])
  simp [this]
  omega
theorem Jc (a : Wr) (n : Int) (hb : n7 a) (hn : 0≤n) (hm : n≤9223372036854775807) : ev LI TT 211 [.agg (eW a),.int .i64 n] = some (.int .i64 (av n (b8 a)),[.dead,.dead]):=by
 rw [az (b:=sC) (rs:=[.t 4]) (n:=2) rfl rfl]
 have hw : b8 a = a.text.length:=rfl
 have ht:=aX n (b8 a)
 have mJ : a.text.length≤9223372036854775807:=hb.OK
 obtain ⟨m1,e1⟩ : ∃ m,m = n - (a.text.length : Int):=⟨_,rfl⟩
 have c1 : IntKind.i64.wrap (n - (a.text.length : Int)) = m1:=by rw [e1]; exact cz (by omega) (by omega)
 by_cases h1 : m1 < 0
 ·have ef : av n (b8 a) = -1:=by omega
  simp -implicitDefEqProofs [sC,c1,h1,ef]
 have ef : av n (b8 a) = m1:=by omega
 simp -implicitDefEqProofs [sC,c1,h1,ef]
 all_goals (repeat' split) <;> first | rfl | omega | (simp_all; done) | (simp_all; omega) | skip
theorem Jt (a : Wr) (hb : b8 a≤1048576) : ev LI TT 218 [.agg (eW a)] = some (.agg (eW a),[.dead]):=by
 rw [az (b:=wQ) (rs:=[.c 2 2 true 246]) (n:=1) rfl rfl]
 have hw : b8 a = a.text.length:=rfl
 simp -implicitDefEqProofs [wQ,hw]
 all_goals (repeat' split) <;> first | rfl | omega | (simp_all; done) | (simp_all; omega) | skip
theorem IV (a b : Wr) (hb : b8 a≤1073741824) : ev LI TT 227 [.agg (eW a),.agg (eW b)] = some (.bool (decide (a = b)),[.dead,.dead]):=by
 rw [az (b:=oT) (rs:=[.t 4]) (n:=2) rfl rfl]
 have hw : b8 a = a.text.length:=rfl
 rw [Ks]
 by_cases g1 : a.at_ = b.at_
 rotate_left
 ·simp -implicitDefEqProofs [oT,eq_false g1]
 by_cases g2 : a.text = b.text
 rotate_left
 ·simp -implicitDefEqProofs [oT,eq_true g1,eq_false g2]
 simp -implicitDefEqProofs [oT,eq_true g1,eq_true g2]
 all_goals (repeat' split) <;> first | rfl | omega | (simp_all; done) | (simp_all; omega) | skip
theorem G5 (l : List Wr) (hlen : l.length≤9223372036854775807) (hb : bL n7 l) (n : Int) (hn : 0≤n) (hm : n≤9223372036854775807) : aH (ai (ev LI TT) (ak TT) sB) [(0,.row .af 2 (l.map (eW))),(1,.int .i64 n),(5,.int .i64 0)] = if cR (fun b n=>av n (b8 b)) (l) n < 0 then some (.ret,[(4,.int .i64 (-1))]) else some (.exit 0,[(0,.row .af 2 (l.map (eW))),(1,.int .i64 (cR (fun b n=>av n (b8 b)) (l) n)),(5,.int .i64 (l).length),(15,.bool false)]):=by
 refine lT (f:=ai (ev LI TT) (ak TT) sB) (l) (fun i n=>[(0,.row .af 2 (l.map (eW))),(1,.int .i64 n),(5,.int .i64 i)]) (fun b n=>av n (b8 b)) _ (fun n=>[(0,.row .af 2 (l.map (eW))),(1,.int .i64 n),(5,.int .i64 (l).length),(15,.bool false)]) n hn hm (fun b n=>l5 _ n) (fun i b n hi hl hn hm=>?_) (fun n=>?_)
 ·have hw:=aM i (by first | omega | (simp at hl; omega))
  obtain ⟨_,rfl⟩:=List.getElem?_eq_some_iff.1 hi
  have h2:=Jc  l[i] n (hb.2 _ (List.getElem_mem hl)) hn hm
  obtain ⟨m,e1⟩ : ∃ m,m = av n (b8 l[i]):=⟨_,rfl⟩
  rw [← e1] at h2 ⊢
  try simp at h2
  simp -implicitDefEqProofs [sB,AX,hl,hw,h2]
 ·simp -implicitDefEqProofs [sB,AX]
theorem Jd (l : List Wr) (n : Int) (hb : bL n7 l) (hn : 0≤n) (hm : n≤9223372036854775807) : ev LI TT 118 [.row .af 2 (l.map (eW)),.int .i64 n] = some (.int .i64 (av n (wL b8 l)),[.dead,.dead]):=by
 rw [az (b:=pz) (rs:=[.t 4]) (n:=2) rfl rfl]
 have hl:=hb.1
 have hw : wL b8 l = l.length + (l.map b8).sum:=rfl
 have ht:=aX n (wL b8 l)
 obtain ⟨m,e1⟩ : ∃ m,m = n - (l.length : Int):=⟨_,rfl⟩
 have h2 : IntKind.i64.wrap (n - (l.length : Int)) = m:=by rw [e1]; exact cz (by omega) (by omega)
 by_cases h : m < 0
 ·have ef : av n (wL b8 l) = -1:=by omega
  simp -implicitDefEqProofs [pz,h2,h,ef]
 have h3:=G5  l hb.1 hb m (by omega) (by omega)
 rw [kI _ _ _ (by omega)] at h3
 have hs:=aX m (l.map b8).sum
 obtain ⟨q,e2⟩ : ∃ q,q = av m (l.map b8).sum:=⟨_,rfl⟩
 rw [← e2] at h3 hs
 try simp at h3
 by_cases h4 : q < 0
 ·have ef : av n (wL b8 l) = -1:=by omega
  simp only [h4,if_true] at h3
  simp -implicitDefEqProofs [pz,h2,h,h3,ef]
 have ef : av n (wL b8 l) = q:=by omega
 simp only [h4,if_false] at h3
 simp -implicitDefEqProofs [pz,h2,h,h3,ef]
 all_goals (repeat' split) <;> first | rfl | omega | (simp_all; done) | (simp_all; omega) | skip
theorem Hi (l : List Wr) (hlen : l.length≤1048576) (hb : wL b8 l≤1048576) : aH (ai (ev LI TT) (ak TT) sL) [(0,.row .af 2 (l.map eW)),(3,.row .own 2 (cD (l.map eW) 0 [.int .i64 0,.str ⟨#[]⟩])),(4,.int .i64 0),(6,.int .i64 l.length)] = some (.exit 0,[(0,.row .af 2 (l.map eW)),(3,.row .own 2 (l.map eW)),(4,.int .i64 (l).length),(6,.int .i64 l.length),(11,.bool false)]):=by
 refine iT (f:=ai (ev LI TT) (ak TT) sL) (l) (fun i=>[(0,.row .af 2 (l.map eW)),(3,.row .own 2 (cD (l.map eW) i [.int .i64 0,.str ⟨#[]⟩])),(4,.int .i64 i),(6,.int .i64 l.length)]) _ (fun i b hi hl=>?_) ?_
 ·have hw:=aM i (by first | omega | (simp at hl; omega))
  obtain ⟨_,rfl⟩:=List.getElem?_eq_some_iff.1 hi
  have h:=Jt  l[i] (Nat.le_trans (dx (List.getElem_mem hl)) hb)
  try simp at h
  simp -implicitDefEqProofs [sL,A8,hl,hw,h]
  first | done | (rw [ez _ _ _ _ (by simpa using hl) (by simp)]; done) | (simp only [kA]; rw [ez _ _ _ _ (by simpa using hl) (by simp)])
 ·simp -implicitDefEqProofs [sL,A8]
theorem Ju (l : List Wr) (hb : wL b8 l≤1048576) : ev LI TT 127 [.row .af 2 (l.map eW)] = some (.row .own 2 (l.map eW),[.dead]):=by
 rw [az (b:=wP) (rs:=[.t 2]) (n:=1) rfl rfl]
 have hlen:=bk (w:=b8) l
 have h:=Hi  l (by omega) hb
 try simp at h
 simp -implicitDefEqProofs [wP,h,(by omega : (l.length : Int) * 24≤140737488355328)]
 all_goals (repeat' split) <;> first | rfl | omega | (simp_all; done) | (simp_all; omega) | skip
theorem GU (ps : List (Wr×Wr)) (hb : ps.length≤9223372036854775807) (cM : ∀ x∈ps,b8 x.1≤1073741824) : aH (ai (ev LI TT) (ak TT) si) [(0,.row .af 2 (ps.map (fun x : Wr×Wr=>eW x.1))),(1,.row .af 2 (ps.map (fun x : Wr×Wr=>eW x.2))),(5,.int .i64 0)] = if aF bH (ps) = true then some (.exit 0,[(0,.row .af 2 (ps.map (fun x : Wr×Wr=>eW x.1))),(1,.row .af 2 (ps.map (fun x : Wr×Wr=>eW x.2))),(5,.int .i64 ps.length),(14,.bool false)]) else some (.ret,[(4,.bool false)]):=by
 refine bX (f:=ai (ev LI TT) (ak TT) si) (ps) (fun i=>[(0,.row .af 2 (ps.map (fun x : Wr×Wr=>eW x.1))),(1,.row .af 2 (ps.map (fun x : Wr×Wr=>eW x.2))),(5,.int .i64 i)]) bH _ _ (fun i b hi hl=>?_) ?_
 ·have hw:=aM i (by first | omega | (simp at hl; omega))
  obtain ⟨_,rfl⟩:=List.getElem?_eq_some_iff.1 hi
  have h:=IV  (ps[i]).1 (ps[i]).2 (cM _ (List.getElem_mem hl)); try simp at h
  simp -implicitDefEqProofs [si,AN,hl,hw,bH,h]
 ·simp -implicitDefEqProofs [si,AN]
theorem IW (a b : List Wr) (hb : wL b8 a≤1073741824) : ev LI TT 132 [.row .af 2 (a.map eW),.row .af 2 (b.map eW)] = some (.bool (decide (a = b)),[.dead,.dead]):=by
 rw [az (b:=wh) (rs:=[.t 4]) (n:=2) rfl rfl]
 simp -implicitDefEqProofs [wh]
 have hlen:=bk (w:=b8) a
 by_cases h : a.length = b.length
 ·obtain ⟨ps,rfl,rfl⟩:=iB h
  have h1:=GU  ps (by simp at hlen; omega) (fun x hx=>Nat.le_trans (dx (List.mem_map_of_mem hx)) hb)
  have h2:=gQ ps
  simp at h1
  rw [← h2]
  cases h3 : aF bH ps <;> rw [h3] at h1 <;> simp [h1,Function.comp_def]
 ·have : ¬ a = b:=fun e=>h (by rw [e])
  simp [this]
  omega
theorem I0 (a : eo) (n : Int) (hb : yg a) (hn : 0≤n) (hm : n≤9223372036854775807) : ev LI TT 44 [.agg ((fU .af) a),.int .i64 n] = some (.int .i64 (av n (cS a)),[.dead,.dead]):=by
 rw [az (b:=oW) (rs:=[.t 4]) (n:=2) rfl rfl]
 have hw : cS a = wL wS a.cells + wL b8 a.pending:=rfl
 have ht:=aX n (cS a)
 have c1:=yH  a.cells n hb.Ow (by omega) (by omega)
 have s1:=aX n (wL wS a.cells)
 obtain ⟨m1,e1⟩ : ∃ m,m = av n (wL wS a.cells):=⟨_,rfl⟩
 rw [← e1] at c1 s1
 try simp at c1
 by_cases h1 : m1 < 0
 ·have ef : av n (cS a) = -1:=by omega
  simp -implicitDefEqProofs [oW,c1,h1,ef]
 have c2:=Jd  a.pending m1 hb.OE (by omega) (by omega)
 have s2:=aX m1 (wL b8 a.pending)
 obtain ⟨m2,e2⟩ : ∃ m,m = av m1 (wL b8 a.pending):=⟨_,rfl⟩
 rw [← e2] at c2 s2
 try simp at c2
 by_cases h2 : m2 < 0
 ·have ef : av n (cS a) = -1:=by omega
  simp -implicitDefEqProofs [oW,c1,h1,c2,h2,ef]
 have ef : av n (cS a) = m2:=by omega
 simp -implicitDefEqProofs [oW,c1,h1,c2,h2,ef]
 all_goals (repeat' split) <;> first | rfl | omega | (simp_all; done) | (simp_all; omega) | skip
theorem Jh (a : eo) (hb : cS a≤1048576) : ev LI TT 46 [.agg ((fU .af) a)] = some (.agg ((fU .own) a),[.dead]):=by
 rw [az (b:=wq) (rs:=[.c 2 2 true 39]) (n:=1) rfl rfl]
 have hw : cS a = wL wS a.cells + wL b8 a.pending:=rfl
 have h1:=yL  a.cells (by omega)
 try simp at h1
 have h2:=Ju  a.pending (by omega)
 try simp at h2
 simp -implicitDefEqProofs [wq,h1,h2,hw]
 all_goals (repeat' split) <;> first | rfl | omega | (simp_all; done) | (simp_all; omega) | skip
theorem ID (a b : eo) (hb : cS a≤1073741824) : ev LI TT 48 [.agg ((fU .af) a),.agg ((fU .af) b)] = some (.bool (decide (a = b)),[.dead,.dead]):=by
 rw [az (b:=oR) (rs:=[.t 4]) (n:=2) rfl rfl]
 have hw : cS a = wL wS a.cells + wL b8 a.pending:=rfl
 rw [Kh]
 have c1:=yC  a.cells b.cells (by omega)
 cases g1 : decide (a.cells = b.cells)
 ·rw [g1] at c1
  try simp at c1
  simp -implicitDefEqProofs [oR,c1]
 rw [g1] at c1
 try simp at c1
 have c2:=IW  a.pending b.pending (by omega)
 cases g2 : decide (a.pending = b.pending)
 ·rw [g2] at c2
  try simp at c2
  simp -implicitDefEqProofs [oR,c1,c2]
 rw [g2] at c2
 try simp at c2
 simp -implicitDefEqProofs [oR,c1,c2]
 all_goals (repeat' split) <;> first | rfl | omega | (simp_all; done) | (simp_all; omega) | skip
theorem I1 (a : aL) (n : Int) (hb : kV a) (hn : 0≤n) (hm : n≤9223372036854775807) : ev LI TT 159 [.agg (aI a),.int .i64 n] = some (.int .i64 (av n (aJ a)),[.dead,.dead]):=by
 rw [az (b:=oY) (rs:=[.t 4]) (n:=2) rfl rfl]
 have hw : aJ a = a.name.length + a.value.length:=rfl
 have ht:=aX n (aJ a)
 have mJ : a.name.length≤9223372036854775807:=hb.OA
 obtain ⟨m1,e1⟩ : ∃ m,m = n - (a.name.length : Int):=⟨_,rfl⟩
 have c1 : IntKind.i64.wrap (n - (a.name.length : Int)) = m1:=by rw [e1]; exact cz (by omega) (by omega)
 by_cases h1 : m1 < 0
 ·have ef : av n (aJ a) = -1:=by omega
  simp -implicitDefEqProofs [oY,c1,h1,ef]
 have q7 : a.value.length≤9223372036854775807:=hb.OL
 obtain ⟨m2,e2⟩ : ∃ m,m = m1 - (a.value.length : Int):=⟨_,rfl⟩
 have c2 : IntKind.i64.wrap (m1 - (a.value.length : Int)) = m2:=by rw [e2]; exact cz (by omega) (by omega)
 by_cases h2 : m2 < 0
 ·have ef : av n (aJ a) = -1:=by omega
  simp -implicitDefEqProofs [oY,c1,h1,c2,h2,ef]
 have ef : av n (aJ a) = m2:=by omega
 simp -implicitDefEqProofs [oY,c1,h1,c2,h2,ef]
 all_goals (repeat' split) <;> first | rfl | omega | (simp_all; done) | (simp_all; omega) | skip
theorem Ji (a : aL) (hb : aJ a≤1048576) : ev LI TT 167 [.agg (aI a)] = some (.agg (aI a),[.dead]):=by
 rw [az (b:=wv) (rs:=[.c 2 2 true 214]) (n:=1) rfl rfl]
 have hw : aJ a = a.name.length + a.value.length:=rfl
 simp -implicitDefEqProofs [wv,hw]
 all_goals (repeat' split) <;> first | rfl | omega | (simp_all; done) | (simp_all; omega) | skip
theorem IE (a b : aL) (hb : aJ a≤1073741824) : ev LI TT 171 [.agg (aI a),.agg (aI b)] = some (.bool (decide (a = b)),[.dead,.dead]):=by
 rw [az (b:=oS) (rs:=[.t 4]) (n:=2) rfl rfl]
 have hw : aJ a = a.name.length + a.value.length:=rfl
 rw [Kj]
 by_cases g1 : a.name = b.name
 rotate_left
 ·simp -implicitDefEqProofs [oS,eq_false g1]
 by_cases g2 : a.value = b.value
 rotate_left
 ·simp -implicitDefEqProofs [oS,eq_true g1,eq_false g2]
 simp -implicitDefEqProofs [oS,eq_true g1,eq_true g2]
 all_goals (repeat' split) <;> first | rfl | omega | (simp_all; done) | (simp_all; omega) | skip
theorem GW (l : List aL) (hlen : l.length≤9223372036854775807) (hb : bL kV l) (n : Int) (hn : 0≤n) (hm : n≤9223372036854775807) : aH (ai (ev LI TT) (ak TT) sn) [(0,.row .af 2 (l.map (aI))),(1,.int .i64 n),(5,.int .i64 0)] = if cR (fun b n=>av n (aJ b)) (l) n < 0 then some (.ret,[(4,.int .i64 (-1))]) else some (.exit 0,[(0,.row .af 2 (l.map (aI))),(1,.int .i64 (cR (fun b n=>av n (aJ b)) (l) n)),(5,.int .i64 (l).length),(15,.bool false)]):=by
 refine lT (f:=ai (ev LI TT) (ak TT) sn) (l) (fun i n=>[(0,.row .af 2 (l.map (aI))),(1,.int .i64 n),(5,.int .i64 i)]) (fun b n=>av n (aJ b)) _ (fun n=>[(0,.row .af 2 (l.map (aI))),(1,.int .i64 n),(5,.int .i64 (l).length),(15,.bool false)]) n hn hm (fun b n=>l5 _ n) (fun i b n hi hl hn hm=>?_) (fun n=>?_)
 ·have hw:=aM i (by first | omega | (simp at hl; omega))
  obtain ⟨_,rfl⟩:=List.getElem?_eq_some_iff.1 hi
  have h2:=I1  l[i] n (hb.2 _ (List.getElem_mem hl)) hn hm
  obtain ⟨m,e1⟩ : ∃ m,m = av n (aJ l[i]):=⟨_,rfl⟩
  rw [← e1] at h2 ⊢
  try simp at h2
  simp -implicitDefEqProofs [sn,AP,hl,hw,h2]
 ·simp -implicitDefEqProofs [sn,AP]
theorem CM (l : List aL) (n : Int) (hb : bL kV l) (hn : 0≤n) (hm : n≤9223372036854775807) : ev LI TT 69 [.row .af 2 (l.map (aI)),.int .i64 n] = some (.int .i64 (av n (wL aJ l)),[.dead,.dead]):=by
 rw [az (b:=oX) (rs:=[.t 4]) (n:=2) rfl rfl]
 have hl:=hb.1
 have hw : wL aJ l = l.length + (l.map aJ).sum:=rfl
 have ht:=aX n (wL aJ l)
 obtain ⟨m,e1⟩ : ∃ m,m = n - (l.length : Int):=⟨_,rfl⟩
 have h2 : IntKind.i64.wrap (n - (l.length : Int)) = m:=by rw [e1]; exact cz (by omega) (by omega)
 by_cases h : m < 0
 ·have ef : av n (wL aJ l) = -1:=by omega
  simp -implicitDefEqProofs [oX,h2,h,ef]
 have h3:=GW  l hb.1 hb m (by omega) (by omega)
 rw [kI _ _ _ (by omega)] at h3
 have hs:=aX m (l.map aJ).sum
 obtain ⟨q,e2⟩ : ∃ q,q = av m (l.map aJ).sum:=⟨_,rfl⟩
 rw [← e2] at h3 hs
 try simp at h3
 by_cases h4 : q < 0
 ·have ef : av n (wL aJ l) = -1:=by omega
  simp only [h4,if_true] at h3
  simp -implicitDefEqProofs [oX,h2,h,h3,ef]
 have ef : av n (wL aJ l) = q:=by omega
 simp only [h4,if_false] at h3
 simp -implicitDefEqProofs [oX,h2,h,h3,ef]
 all_goals (repeat' split) <;> first | rfl | omega | (simp_all; done) | (simp_all; omega) | skip
theorem G7 (l : List aL) (hlen : l.length≤1048576) (hb : wL aJ l≤1048576) : aH (ai (ev LI TT) (ak TT) sE) [(0,.row .af 2 (l.map aI)),(3,.row .own 2 (cD (l.map aI) 0 [.str ⟨#[]⟩,.str ⟨#[]⟩])),(4,.int .i64 0),(6,.int .i64 l.length)] = some (.exit 0,[(0,.row .af 2 (l.map aI)),(3,.row .own 2 (l.map aI)),(4,.int .i64 (l).length),(6,.int .i64 l.length),(11,.bool false)]):=by
 refine iT (f:=ai (ev LI TT) (ak TT) sE) (l) (fun i=>[(0,.row .af 2 (l.map aI)),(3,.row .own 2 (cD (l.map aI) i [.str ⟨#[]⟩,.str ⟨#[]⟩])),(4,.int .i64 i),(6,.int .i64 l.length)]) _ (fun i b hi hl=>?_) ?_
 ·have hw:=aM i (by first | omega | (simp at hl; omega))
  obtain ⟨_,rfl⟩:=List.getElem?_eq_some_iff.1 hi
  have h:=Ji  l[i] (Nat.le_trans (dx (List.getElem_mem hl)) hb)
  try simp at h
  simp -implicitDefEqProofs [sE,AZ,hl,hw,h]
  first | done | (rw [ez _ _ _ _ (by simpa using hl) (by simp)]; done) | (simp only [kA]; rw [ez _ _ _ _ (by simpa using hl) (by simp)])
 ·simp -implicitDefEqProofs [sE,AZ]
theorem CN (l : List aL) (hb : wL aJ l≤1048576) : ev LI TT 75 [.row .af 2 (l.map aI)] = some (.row .own 2 (l.map aI),[.dead]):=by
 rw [az (b:=wu) (rs:=[.t 2]) (n:=1) rfl rfl]
 have hlen:=bk (w:=aJ) l
 have h:=G7  l (by omega) hb
 try simp at h
 simp -implicitDefEqProofs [wu,h,(by omega : (l.length : Int) * 32≤140737488355328)]
 all_goals (repeat' split) <;> first | rfl | omega | (simp_all; done) | (simp_all; omega) | skip
theorem GM (ps : List (aL×aL)) (hb : ps.length≤9223372036854775807) (cM : ∀ x∈ps,aJ x.1≤1073741824) : aH (ai (ev LI TT) (ak TT) rW) [(0,.row .af 2 (ps.map (fun x : aL×aL=>aI x.1))),(1,.row .af 2 (ps.map (fun x : aL×aL=>aI x.2))),(5,.int .i64 0)] = if aF bH (ps) = true then some (.exit 0,[(0,.row .af 2 (ps.map (fun x : aL×aL=>aI x.1))),(1,.row .af 2 (ps.map (fun x : aL×aL=>aI x.2))),(5,.int .i64 ps.length),(14,.bool false)]) else some (.ret,[(4,.bool false)]):=by
 refine bX (f:=ai (ev LI TT) (ak TT) rW) (ps) (fun i=>[(0,.row .af 2 (ps.map (fun x : aL×aL=>aI x.1))),(1,.row .af 2 (ps.map (fun x : aL×aL=>aI x.2))),(5,.int .i64 i)]) bH _ _ (fun i b hi hl=>?_) ?_
 ·have hw:=aM i (by first | omega | (simp at hl; omega))
  obtain ⟨_,rfl⟩:=List.getElem?_eq_some_iff.1 hi
  have h:=IE  (ps[i]).1 (ps[i]).2 (cM _ (List.getElem_mem hl)); try simp at h
  simp -implicitDefEqProofs [rW,AF,hl,hw,bH,h]
 ·simp -implicitDefEqProofs [rW,AF]
theorem CL (a b : List aL) (hb : wL aJ a≤1073741824) : ev LI TT 81 [.row .af 2 (a.map aI),.row .af 2 (b.map aI)] = some (.bool (decide (a = b)),[.dead,.dead]):=by
 rw [az (b:=vW) (rs:=[.t 4]) (n:=2) rfl rfl]
 simp -implicitDefEqProofs [vW]
 have hlen:=bk (w:=aJ) a
 by_cases h : a.length = b.length
 ·obtain ⟨ps,rfl,rfl⟩:=iB h
  have h1:=GM  ps (by simp at hlen; omega) (fun x hx=>Nat.le_trans (dx (List.mem_map_of_mem hx)) hb)
  have h2:=gQ ps
  simp at h1
  rw [← h2]
  cases h3 : aF bH ps <;> rw [h3] at h1 <;> simp [h1,Function.comp_def]
 ·have : ¬ a = b:=fun e=>h (by rw [e])
  simp [this]
  omega
theorem yG (a : dm) (n : Int) (hb : n5 a) (hn : 0≤n) (hm : n≤9223372036854775807) : ev LI TT 106 [.agg ((gV .af) a),.int .i64 n] = some (.int .i64 (av n (bT a)),[.dead,.dead]):=by
 rw [az (b:=o8) (rs:=[.t 4]) (n:=2) rfl rfl]
 have hw : bT a = wL aJ a.fields + a.body.length:=rfl
 have ht:=aX n (bT a)
 have c1:=CM  a.fields n hb.Aw (by omega) (by omega)
 have s1:=aX n (wL aJ a.fields)
 obtain ⟨m1,e1⟩ : ∃ m,m = av n (wL aJ a.fields):=⟨_,rfl⟩
 rw [← e1] at c1 s1
 try simp at c1
 by_cases h1 : m1 < 0
 ·have ef : av n (bT a) = -1:=by omega
  simp -implicitDefEqProofs [o8,c1,h1,ef]
 have q7 : a.body.length≤9223372036854775807:=hb.Av
 obtain ⟨m2,e2⟩ : ∃ m,m = m1 - (a.body.length : Int):=⟨_,rfl⟩
 have c2 : IntKind.i64.wrap (m1 - (a.body.length : Int)) = m2:=by rw [e2]; exact cz (by omega) (by omega)
 by_cases h2 : m2 < 0
 ·have ef : av n (bT a) = -1:=by omega
  simp -implicitDefEqProofs [o8,c1,h1,c2,h2,ef]
 have ef : av n (bT a) = m2:=by omega
 simp -implicitDefEqProofs [o8,c1,h1,c2,h2,ef]
 all_goals (repeat' split) <;> first | rfl | omega | (simp_all; done) | (simp_all; omega) | skip
theorem yK (a : dm) (hb : bT a≤1048576) : ev LI TT 112 [.agg ((gV .af) a)] = some (.agg ((gV .own) a),[.dead]):=by
 rw [az (b:=wI) (rs:=[.c 2 3 true 59]) (n:=1) rfl rfl]
 have hw : bT a = wL aJ a.fields + a.body.length:=rfl
 have h1:=CN  a.fields (by omega)
 try simp at h1
 simp -implicitDefEqProofs [wI,h1,hw]
 all_goals (repeat' split) <;> first | rfl | omega | (simp_all; done) | (simp_all; omega) | skip
theorem yB (a b : dm) (hb : bT a≤1073741824) : ev LI TT 78 [.agg ((gV .af) a),.agg ((gV .af) b)] = some (.bool (decide (a = b)),[.dead,.dead]):=by
 rw [az (b:=ng) (rs:=[.t 4]) (n:=2) rfl rfl]
 have hw : bT a = wL aJ a.fields + a.body.length:=rfl
 rw [Ko]
 by_cases g1 : a.status = b.status
 rotate_left
 ·simp -implicitDefEqProofs [ng,eq_false g1]
 have c2:=CL  a.fields b.fields (by omega)
 cases g2 : decide (a.fields = b.fields)
 ·rw [g2] at c2
  try simp at c2
  simp -implicitDefEqProofs [ng,eq_true g1,c2]
 rw [g2] at c2
 try simp at c2
 by_cases g3 : a.body = b.body
 rotate_left
 ·simp -implicitDefEqProofs [ng,eq_true g1,c2,eq_false g3]
 simp -implicitDefEqProofs [ng,eq_true g1,c2,eq_true g3]
 all_goals (repeat' split) <;> first | rfl | omega | (simp_all; done) | (simp_all; omega) | skip
theorem yE (a : Ob) (n : Int) (hb : qv a) (hn : 0≤n) (hm : n≤9223372036854775807) : ev LI TT 38 [.agg ((cL .af) a),.int .i64 n] = some (.int .i64 (av n (bA a)),[.dead,.dead]):=by
 rw [az (b:=lS) (rs:=[.t 4]) (n:=2) rfl rfl]
 have hw : bA a = a.path.length + wL wS a.names + wL wS a.values + bT a.resp:=rfl
 have ht:=aX n (bA a)
 have mJ : a.path.length≤9223372036854775807:=hb.Ay
 obtain ⟨m1,e1⟩ : ∃ m,m = n - (a.path.length : Int):=⟨_,rfl⟩
 have c1 : IntKind.i64.wrap (n - (a.path.length : Int)) = m1:=by rw [e1]; exact cz (by omega) (by omega)
 by_cases h1 : m1 < 0
 ·have ef : av n (bA a) = -1:=by omega
  simp -implicitDefEqProofs [lS,c1,h1,ef]
 have c2:=yH  a.names m1 hb.OB (by omega) (by omega)
 have s2:=aX m1 (wL wS a.names)
 obtain ⟨m2,e2⟩ : ∃ m,m = av m1 (wL wS a.names):=⟨_,rfl⟩
 rw [← e2] at c2 s2
 try simp at c2
 by_cases h2 : m2 < 0
 ·have ef : av n (bA a) = -1:=by omega
  simp -implicitDefEqProofs [lS,c1,h1,c2,h2,ef]
 have c3:=yH  a.values m2 hb.OM (by omega) (by omega)
 have s3:=aX m2 (wL wS a.values)
 obtain ⟨m3,e3⟩ : ∃ m,m = av m2 (wL wS a.values):=⟨_,rfl⟩
 rw [← e3] at c3 s3
 try simp at c3
 by_cases h3 : m3 < 0
 ·have ef : av n (bA a) = -1:=by omega
  simp -implicitDefEqProofs [lS,c1,h1,c2,h2,c3,h3,ef]
 have c4:=yG  a.resp m3 hb.oO (by omega) (by omega)
 have s4:=aX m3 (bT a.resp)
 obtain ⟨m4,e4⟩ : ∃ m,m = av m3 (bT a.resp):=⟨_,rfl⟩
 rw [← e4] at c4 s4
 try simp at c4
 by_cases h4 : m4 < 0
 ·have ef : av n (bA a) = -1:=by omega
  simp -implicitDefEqProofs [lS,c1,h1,c2,h2,c3,h3,c4,h4,ef]
 have ef : av n (bA a) = m4:=by omega
 simp -implicitDefEqProofs [lS,c1,h1,c2,h2,c3,h3,c4,h4,ef]
 all_goals (repeat' split) <;> first | rfl | omega | (simp_all; done) | (simp_all; omega) | skip
theorem yI (a : Ob) (hb : bA a≤1048576) : ev LI TT 40 [.agg ((cL .af) a)] = some (.agg ((cL .own) a),[.dead]):=by
 rw [az (b:=wE) (rs:=[.c 2 7 true 61]) (n:=1) rfl rfl]
 have hw : bA a = a.path.length + wL wS a.names + wL wS a.values + bT a.resp:=rfl
 have h1:=yL  a.names (by omega)
 try simp at h1
 have h2:=yL  a.values (by omega)
 try simp at h2
 have h3:=yK  a.resp (by omega)
 try simp at h3
 simp -implicitDefEqProofs [wE,h1,h2,h3,hw]
 all_goals (repeat' split) <;> first | rfl | omega | (simp_all; done) | (simp_all; omega) | skip
theorem yz (a b : Ob) (hb : bA a≤1073741824) : ev LI TT 24 [.agg ((cL .af) a),.agg ((cL .af) b)] = some (.bool (decide (a = b)),[.dead,.dead]):=by
 rw [az (b:=kq) (rs:=[.t 4]) (n:=2) rfl rfl]
 have hw : bA a = a.path.length + wL wS a.names + wL wS a.values + bT a.resp:=rfl
 rw [Kl]
 by_cases g1 : a.path = b.path
 rotate_left
 ·simp -implicitDefEqProofs [kq,eq_false g1]
 have c2:=yC  a.names b.names (by omega)
 cases g2 : decide (a.names = b.names)
 ·rw [g2] at c2
  try simp at c2
  simp -implicitDefEqProofs [kq,eq_true g1,c2]
 rw [g2] at c2
 try simp at c2
 have c3:=yC  a.values b.values (by omega)
 cases g3 : decide (a.values = b.values)
 ·rw [g3] at c3
  try simp at c3
  simp -implicitDefEqProofs [kq,eq_true g1,c2,c3]
 rw [g3] at c3
 try simp at c3
 have c4:=yB  a.resp b.resp (by omega)
 cases g4 : decide (a.resp = b.resp)
 ·rw [g4] at c4
  try simp at c4
  simp -implicitDefEqProofs [kq,eq_true g1,c2,c3,c4]
 rw [g4] at c4
 try simp at c4
 by_cases g5 : a.t = b.t
 rotate_left
 ·simp -implicitDefEqProofs [kq,eq_true g1,c2,c3,c4,eq_false g5]
 simp -implicitDefEqProofs [kq,eq_true g1,c2,c3,c4,eq_true g5]
 all_goals (repeat' split) <;> first | rfl | omega | (simp_all; done) | (simp_all; omega) | skip
theorem I5 (a : Kp) (n : Int) (hb : nY a) (hn : 0≤n) (hm : n≤9223372036854775807) : ev LI TT 158 [.agg ((aU .af) a),.int .i64 n] = some (.int .i64 (av n (bu a)),[.dead,.dead]):=by
 rw [az (b:=sx) (rs:=[.t 4]) (n:=2) rfl rfl]
 have hw : bu a = bA a.obj:=rfl
 have ht:=aX n (bu a)
 have c1:=yE  a.obj n hb.Ax (by omega) (by omega)
 have s1:=aX n (bA a.obj)
 obtain ⟨m1,e1⟩ : ∃ m,m = av n (bA a.obj):=⟨_,rfl⟩
 rw [← e1] at c1 s1
 try simp at c1
 by_cases h1 : m1 < 0
 ·have ef : av n (bu a) = -1:=by omega
  simp -implicitDefEqProofs [sx,c1,h1,ef]
 have ef : av n (bu a) = m1:=by omega
 simp -implicitDefEqProofs [sx,c1,h1,ef]
 all_goals (repeat' split) <;> first | rfl | omega | (simp_all; done) | (simp_all; omega) | skip
theorem Jm (a : Kp) (hb : bu a≤1048576) : ev LI TT 166 [.agg ((aU .af) a)] = some (.agg ((aU .own) a),[.dead]):=by
 rw [az (b:=wD) (rs:=[.c 2 9 true 108]) (n:=1) rfl rfl]
 have hw : bu a = bA a.obj:=rfl
 have h1:=yI  a.obj (by omega)
 try simp at h1
 simp -implicitDefEqProofs [wD,h1,hw]
 all_goals (repeat' split) <;> first | rfl | omega | (simp_all; done) | (simp_all; omega) | skip
theorem IJ (a b : Kp) (hb : bu a≤1073741824) : ev LI TT 169 [.agg ((aU .af) a),.agg ((aU .af) b)] = some (.bool (decide (a = b)),[.dead,.dead]):=by
 rw [az (b:=mZ) (rs:=[.t 4]) (n:=2) rfl rfl]
 have hw : bu a = bA a.obj:=rfl
 rw [Kk]
 have c1:=yz  a.obj b.obj (by omega)
 cases g1 : decide (a.obj = b.obj)
 ·rw [g1] at c1
  try simp at c1
  simp -implicitDefEqProofs [mZ,c1]
 rw [g1] at c1
 try simp at c1
 by_cases g2 : a.at_ = b.at_
 rotate_left
 ·simp -implicitDefEqProofs [mZ,c1,eq_false g2]
 by_cases g3 : a.seq = b.seq
 rotate_left
 ·simp -implicitDefEqProofs [mZ,c1,eq_true g2,eq_false g3]
 simp -implicitDefEqProofs [mZ,c1,eq_true g2,eq_true g3]
 all_goals (repeat' split) <;> first | rfl | omega | (simp_all; done) | (simp_all; omega) | skip
theorem GY (l : List Kp) (hlen : l.length≤9223372036854775807) (hb : bL nY l) (n : Int) (hn : 0≤n) (hm : n≤9223372036854775807) : aH (ai (ev LI TT) (ak TT) sw) [(0,.row .af 9 (l.map (aU .af))),(1,.int .i64 n),(5,.int .i64 0)] = if cR (fun b n=>av n (bu b)) (l) n < 0 then some (.ret,[(4,.int .i64 (-1))]) else some (.exit 0,[(0,.row .af 9 (l.map (aU .af))),(1,.int .i64 (cR (fun b n=>av n (bu b)) (l) n)),(5,.int .i64 (l).length),(15,.bool false)]):=by
 refine lT (f:=ai (ev LI TT) (ak TT) sw) (l) (fun i n=>[(0,.row .af 9 (l.map (aU .af))),(1,.int .i64 n),(5,.int .i64 i)]) (fun b n=>av n (bu b)) _ (fun n=>[(0,.row .af 9 (l.map (aU .af))),(1,.int .i64 n),(5,.int .i64 (l).length),(15,.bool false)]) n hn hm (fun b n=>l5 _ n) (fun i b n hi hl hn hm=>?_) (fun n=>?_)
 ·have hw:=aM i (by first | omega | (simp at hl; omega))
  obtain ⟨_,rfl⟩:=List.getElem?_eq_some_iff.1 hi
  have h2:=I5  l[i] n (hb.2 _ (List.getElem_mem hl)) hn hm
  obtain ⟨m,e1⟩ : ∃ m,m = av n (bu l[i]):=⟨_,rfl⟩
  rw [← e1] at h2 ⊢
  try simp at h2
  simp -implicitDefEqProofs [sw,AR,hl,hw,h2]
 ·simp -implicitDefEqProofs [sw,AR]
theorem I6 (l : List Kp) (n : Int) (hb : bL nY l) (hn : 0≤n) (hm : n≤9223372036854775807) : ev LI TT 67 [.row .af 9 (l.map (aU .af)),.int .i64 n] = some (.int .i64 (av n (wL bu l)),[.dead,.dead]):=by
 rw [az (b:=o6) (rs:=[.t 4]) (n:=2) rfl rfl]
 have hl:=hb.1
 have hw : wL bu l = l.length + (l.map bu).sum:=rfl
 have ht:=aX n (wL bu l)
 obtain ⟨m,e1⟩ : ∃ m,m = n - (l.length : Int):=⟨_,rfl⟩
 have h2 : IntKind.i64.wrap (n - (l.length : Int)) = m:=by rw [e1]; exact cz (by omega) (by omega)
 by_cases h : m < 0
 ·have ef : av n (wL bu l) = -1:=by omega
  simp -implicitDefEqProofs [o6,h2,h,ef]
 have h3:=GY  l hb.1 hb m (by omega) (by omega)
 rw [kI _ _ _ (by omega)] at h3
 have hs:=aX m (l.map bu).sum
 obtain ⟨q,e2⟩ : ∃ q,q = av m (l.map bu).sum:=⟨_,rfl⟩
 rw [← e2] at h3 hs
 try simp at h3
 by_cases h4 : q < 0
 ·have ef : av n (wL bu l) = -1:=by omega
  simp only [h4,if_true] at h3
  simp -implicitDefEqProofs [o6,h2,h,h3,ef]
 have ef : av n (wL bu l) = q:=by omega
 simp only [h4,if_false] at h3
 simp -implicitDefEqProofs [o6,h2,h,h3,ef]
 all_goals (repeat' split) <;> first | rfl | omega | (simp_all; done) | (simp_all; omega) | skip
theorem He (l : List Kp) (hlen : l.length≤1048576) (hb : wL bu l≤1048576) : aH (ai (ev LI TT) (ak TT) sH) [(0,.row .af 9 (l.map (aU .af))),(3,.row .own 9 (cD (l.map (aU .own)) 0 [.str ⟨#[]⟩,.row .own 1 [],.row .own 1 [],.int .i64 0,.row .own 2 [],.str ⟨#[]⟩,.int .i64 0,.int .i64 0,.int .i64 0])),(4,.int .i64 0),(6,.int .i64 l.length)] = some (.exit 0,[(0,.row .af 9 (l.map (aU .af))),(3,.row .own 9 (l.map (aU .own))),(4,.int .i64 (l).length),(6,.int .i64 l.length),(11,.bool false)]):=by
 refine iT (f:=ai (ev LI TT) (ak TT) sH) (l) (fun i=>[(0,.row .af 9 (l.map (aU .af))),(3,.row .own 9 (cD (l.map (aU .own)) i [.str ⟨#[]⟩,.row .own 1 [],.row .own 1 [],.int .i64 0,.row .own 2 [],.str ⟨#[]⟩,.int .i64 0,.int .i64 0,.int .i64 0])),(4,.int .i64 i),(6,.int .i64 l.length)]) _ (fun i b hi hl=>?_) ?_
 ·have hw:=aM i (by first | omega | (simp at hl; omega))
  obtain ⟨_,rfl⟩:=List.getElem?_eq_some_iff.1 hi
  have h:=Jm  l[i] (Nat.le_trans (dx (List.getElem_mem hl)) hb)
  try simp at h
  simp -implicitDefEqProofs [sH,A4,hl,hw,h]
  first | done | (rw [ez _ _ _ _ (by simpa using hl) (by simp)]; done) | (simp only [kA]; rw [ez _ _ _ _ (by simpa using hl) (by simp)])
 ·simp -implicitDefEqProofs [sH,A4]
theorem Jn (l : List Kp) (hb : wL bu l≤1048576) : ev LI TT 73 [.row .af 9 (l.map (aU .af))] = some (.row .own 9 (l.map (aU .own)),[.dead]):=by
 rw [az (b:=wC) (rs:=[.t 2]) (n:=1) rfl rfl]
 have hlen:=bk (w:=bu) l
 have h:=He  l (by omega) hb
 try simp at h
 simp -implicitDefEqProofs [wC,h,(by omega : (l.length : Int) * 136≤140737488355328)]
 all_goals (repeat' split) <;> first | rfl | omega | (simp_all; done) | (simp_all; omega) | skip
theorem GP (ps : List (Kp×Kp)) (hb : ps.length≤9223372036854775807) (cM : ∀ x∈ps,bu x.1≤1073741824) : aH (ai (ev LI TT) (ak TT) rZ) [(0,.row .af 9 (ps.map (fun x : Kp×Kp=>(aU .af) x.1))),(1,.row .af 9 (ps.map (fun x : Kp×Kp=>(aU .af) x.2))),(5,.int .i64 0)] = if aF bH (ps) = true then some (.exit 0,[(0,.row .af 9 (ps.map (fun x : Kp×Kp=>(aU .af) x.1))),(1,.row .af 9 (ps.map (fun x : Kp×Kp=>(aU .af) x.2))),(5,.int .i64 ps.length),(14,.bool false)]) else some (.ret,[(4,.bool false)]):=by
 refine bX (f:=ai (ev LI TT) (ak TT) rZ) (ps) (fun i=>[(0,.row .af 9 (ps.map (fun x : Kp×Kp=>(aU .af) x.1))),(1,.row .af 9 (ps.map (fun x : Kp×Kp=>(aU .af) x.2))),(5,.int .i64 i)]) bH _ _ (fun i b hi hl=>?_) ?_
 ·have hw:=aM i (by first | omega | (simp at hl; omega))
  obtain ⟨_,rfl⟩:=List.getElem?_eq_some_iff.1 hi
  have h:=IJ  (ps[i]).1 (ps[i]).2 (cM _ (List.getElem_mem hl)); try simp at h
  simp -implicitDefEqProofs [rZ,AJ,hl,hw,bH,h]
 ·simp -implicitDefEqProofs [rZ,AJ]
theorem IK (a b : List Kp) (hb : wL bu a≤1073741824) : ev LI TT 79 [.row .af 9 (a.map (aU .af)),.row .af 9 (b.map (aU .af))] = some (.bool (decide (a = b)),[.dead,.dead]):=by
 rw [az (b:=vZ) (rs:=[.t 4]) (n:=2) rfl rfl]
 simp -implicitDefEqProofs [vZ]
 have hlen:=bk (w:=bu) a
 by_cases h : a.length = b.length
 ·obtain ⟨ps,rfl,rfl⟩:=iB h
  have h1:=GP  ps (by simp at hlen; omega) (fun x hx=>Nat.le_trans (dx (List.mem_map_of_mem hx)) hb)
  have h2:=gQ ps
  simp at h1
  rw [← h2]
  cases h3 : aF bH ps <;> rw [h3] at h1 <;> simp [h1,Function.comp_def]
 ·have : ¬ a = b:=fun e=>h (by rw [e])
  simp [this]
  omega
theorem IX (a : Bn) (n : Int) (hb : mo a) (hn : 0≤n) (hm : n≤9223372036854775807) : ev LI TT 33 [.agg (br a),.int .i64 n] = some (.int .i64 (av n (aQ a)),[.dead,.dead]):=by
 rw [az (b:=oV) (rs:=[.t 4]) (n:=2) rfl rfl]
 have hw : aQ a = a.a.length + a.b.length:=rfl
 have ht:=aX n (aQ a)
 have mJ : a.a.length≤9223372036854775807:=hb.EL
 obtain ⟨m1,e1⟩ : ∃ m,m = n - (a.a.length : Int):=⟨_,rfl⟩
 have c1 : IntKind.i64.wrap (n - (a.a.length : Int)) = m1:=by rw [e1]; exact cz (by omega) (by omega)
 by_cases h1 : m1 < 0
 ·have ef : av n (aQ a) = -1:=by omega
  simp -implicitDefEqProofs [oV,c1,h1,ef]
 have q7 : a.b.length≤9223372036854775807:=hb.Ov
 obtain ⟨m2,e2⟩ : ∃ m,m = m1 - (a.b.length : Int):=⟨_,rfl⟩
 have c2 : IntKind.i64.wrap (m1 - (a.b.length : Int)) = m2:=by rw [e2]; exact cz (by omega) (by omega)
 by_cases h2 : m2 < 0
 ·have ef : av n (aQ a) = -1:=by omega
  simp -implicitDefEqProofs [oV,c1,h1,c2,h2,ef]
 have ef : av n (aQ a) = m2:=by omega
 simp -implicitDefEqProofs [oV,c1,h1,c2,h2,ef]
 all_goals (repeat' split) <;> first | rfl | omega | (simp_all; done) | (simp_all; omega) | skip
theorem Je (a : Bn) (hb : aQ a≤1048576) : ev LI TT 35 [.agg (br a)] = some (.agg (br a),[.dead]):=by
 rw [az (b:=wm) (rs:=[.c 2 4 true 83]) (n:=1) rfl rfl]
 have hw : aQ a = a.a.length + a.b.length:=rfl
 simp -implicitDefEqProofs [wm,hw]
 all_goals (repeat' split) <;> first | rfl | omega | (simp_all; done) | (simp_all; omega) | skip
theorem IA (a b : Bn) (hb : aQ a≤1073741824) : ev LI TT 170 [.agg (br a),.agg (br b)] = some (.bool (decide (a = b)),[.dead,.dead]):=by
 rw [az (b:=lO) (rs:=[.t 4]) (n:=2) rfl rfl]
 have hw : aQ a = a.a.length + a.b.length:=rfl
 rw [Kf]
 by_cases g1 : a.kind = b.kind
 rotate_left
 ·simp -implicitDefEqProofs [lO,eq_false g1]
 by_cases g2 : a.a = b.a
 rotate_left
 ·simp -implicitDefEqProofs [lO,eq_true g1,eq_false g2]
 by_cases g3 : a.b = b.b
 rotate_left
 ·simp -implicitDefEqProofs [lO,eq_true g1,eq_true g2,eq_false g3]
 by_cases g4 : a.t = b.t
 rotate_left
 ·simp -implicitDefEqProofs [lO,eq_true g1,eq_true g2,eq_true g3,eq_false g4]
 simp -implicitDefEqProofs [lO,eq_true g1,eq_true g2,eq_true g3,eq_true g4]
 all_goals (repeat' split) <;> first | rfl | omega | (simp_all; done) | (simp_all; omega) | skip
theorem GV (l : List Bn) (hlen : l.length≤9223372036854775807) (hb : bL mo l) (n : Int) (hn : 0≤n) (hm : n≤9223372036854775807) : aH (ai (ev LI TT) (ak TT) sj) [(0,.row .af 4 (l.map (br))),(1,.int .i64 n),(5,.int .i64 0)] = if cR (fun b n=>av n (aQ b)) (l) n < 0 then some (.ret,[(4,.int .i64 (-1))]) else some (.exit 0,[(0,.row .af 4 (l.map (br))),(1,.int .i64 (cR (fun b n=>av n (aQ b)) (l) n)),(5,.int .i64 (l).length),(15,.bool false)]):=by
 refine lT (f:=ai (ev LI TT) (ak TT) sj) (l) (fun i n=>[(0,.row .af 4 (l.map (br))),(1,.int .i64 n),(5,.int .i64 i)]) (fun b n=>av n (aQ b)) _ (fun n=>[(0,.row .af 4 (l.map (br))),(1,.int .i64 n),(5,.int .i64 (l).length),(15,.bool false)]) n hn hm (fun b n=>l5 _ n) (fun i b n hi hl hn hm=>?_) (fun n=>?_)
 ·have hw:=aM i (by first | omega | (simp at hl; omega))
  obtain ⟨_,rfl⟩:=List.getElem?_eq_some_iff.1 hi
  have h2:=IX  l[i] n (hb.2 _ (List.getElem_mem hl)) hn hm
  obtain ⟨m,e1⟩ : ∃ m,m = av n (aQ l[i]):=⟨_,rfl⟩
  rw [← e1] at h2 ⊢
  try simp at h2
  simp -implicitDefEqProofs [sj,AO,hl,hw,h2]
 ·simp -implicitDefEqProofs [sj,AO]
theorem IY (l : List Bn) (n : Int) (hb : bL mo l) (hn : 0≤n) (hm : n≤9223372036854775807) : ev LI TT 68 [.row .af 4 (l.map (br)),.int .i64 n] = some (.int .i64 (av n (wL aQ l)),[.dead,.dead]):=by
 rw [az (b:=oU) (rs:=[.t 4]) (n:=2) rfl rfl]
 have hl:=hb.1
 have hw : wL aQ l = l.length + (l.map aQ).sum:=rfl
 have ht:=aX n (wL aQ l)
 obtain ⟨m,e1⟩ : ∃ m,m = n - (l.length : Int):=⟨_,rfl⟩
 have h2 : IntKind.i64.wrap (n - (l.length : Int)) = m:=by rw [e1]; exact cz (by omega) (by omega)
 by_cases h : m < 0
 ·have ef : av n (wL aQ l) = -1:=by omega
  simp -implicitDefEqProofs [oU,h2,h,ef]
 have h3:=GV  l hb.1 hb m (by omega) (by omega)
 rw [kI _ _ _ (by omega)] at h3
 have hs:=aX m (l.map aQ).sum
 obtain ⟨q,e2⟩ : ∃ q,q = av m (l.map aQ).sum:=⟨_,rfl⟩
 rw [← e2] at h3 hs
 try simp at h3
 by_cases h4 : q < 0
 ·have ef : av n (wL aQ l) = -1:=by omega
  simp only [h4,if_true] at h3
  simp -implicitDefEqProofs [oU,h2,h,h3,ef]
 have ef : av n (wL aQ l) = q:=by omega
 simp only [h4,if_false] at h3
 simp -implicitDefEqProofs [oU,h2,h,h3,ef]
 all_goals (repeat' split) <;> first | rfl | omega | (simp_all; done) | (simp_all; omega) | skip
theorem G6 (l : List Bn) (hlen : l.length≤1048576) (hb : wL aQ l≤1048576) : aH (ai (ev LI TT) (ak TT) sD) [(0,.row .af 4 (l.map br)),(3,.row .own 4 (cD (l.map br) 0 [.int .i64 0,.str ⟨#[]⟩,.str ⟨#[]⟩,.int .i64 0])),(4,.int .i64 0),(6,.int .i64 l.length)] = some (.exit 0,[(0,.row .af 4 (l.map br)),(3,.row .own 4 (l.map br)),(4,.int .i64 (l).length),(6,.int .i64 l.length),(11,.bool false)]):=by
 refine iT (f:=ai (ev LI TT) (ak TT) sD) (l) (fun i=>[(0,.row .af 4 (l.map br)),(3,.row .own 4 (cD (l.map br) i [.int .i64 0,.str ⟨#[]⟩,.str ⟨#[]⟩,.int .i64 0])),(4,.int .i64 i),(6,.int .i64 l.length)]) _ (fun i b hi hl=>?_) ?_
 ·have hw:=aM i (by first | omega | (simp at hl; omega))
  obtain ⟨_,rfl⟩:=List.getElem?_eq_some_iff.1 hi
  have h:=Je  l[i] (Nat.le_trans (dx (List.getElem_mem hl)) hb)
  try simp at h
  simp -implicitDefEqProofs [sD,AY,hl,hw,h]
  first | done | (rw [ez _ _ _ _ (by simpa using hl) (by simp)]; done) | (simp only [kA]; rw [ez _ _ _ _ (by simpa using hl) (by simp)])
 ·simp -implicitDefEqProofs [sD,AY]
theorem Jf (l : List Bn) (hb : wL aQ l≤1048576) : ev LI TT 74 [.row .af 4 (l.map br)] = some (.row .own 4 (l.map br),[.dead]):=by
 rw [az (b:=wk) (rs:=[.t 2]) (n:=1) rfl rfl]
 have hlen:=bk (w:=aQ) l
 have h:=G6  l (by omega) hb
 try simp at h
 simp -implicitDefEqProofs [wk,h,(by omega : (l.length : Int) * 48≤140737488355328)]
 all_goals (repeat' split) <;> first | rfl | omega | (simp_all; done) | (simp_all; omega) | skip
theorem GL (ps : List (Bn×Bn)) (hb : ps.length≤9223372036854775807) (cM : ∀ x∈ps,aQ x.1≤1073741824) : aH (ai (ev LI TT) (ak TT) rV) [(0,.row .af 4 (ps.map (fun x : Bn×Bn=>br x.1))),(1,.row .af 4 (ps.map (fun x : Bn×Bn=>br x.2))),(5,.int .i64 0)] = if aF bH (ps) = true then some (.exit 0,[(0,.row .af 4 (ps.map (fun x : Bn×Bn=>br x.1))),(1,.row .af 4 (ps.map (fun x : Bn×Bn=>br x.2))),(5,.int .i64 ps.length),(14,.bool false)]) else some (.ret,[(4,.bool false)]):=by
 refine bX (f:=ai (ev LI TT) (ak TT) rV) (ps) (fun i=>[(0,.row .af 4 (ps.map (fun x : Bn×Bn=>br x.1))),(1,.row .af 4 (ps.map (fun x : Bn×Bn=>br x.2))),(5,.int .i64 i)]) bH _ _ (fun i b hi hl=>?_) ?_
 ·have hw:=aM i (by first | omega | (simp at hl; omega))
  obtain ⟨_,rfl⟩:=List.getElem?_eq_some_iff.1 hi
  have h:=IA  (ps[i]).1 (ps[i]).2 (cM _ (List.getElem_mem hl)); try simp at h
  simp -implicitDefEqProofs [rV,AE,hl,hw,bH,h]
 ·simp -implicitDefEqProofs [rV,AE]
theorem IB (a b : List Bn) (hb : wL aQ a≤1073741824) : ev LI TT 80 [.row .af 4 (a.map br),.row .af 4 (b.map br)] = some (.bool (decide (a = b)),[.dead,.dead]):=by
 rw [az (b:=vV) (rs:=[.t 4]) (n:=2) rfl rfl]
 simp -implicitDefEqProofs [vV]
 have hlen:=bk (w:=aQ) a
 by_cases h : a.length = b.length
 ·obtain ⟨ps,rfl,rfl⟩:=iB h
  have h1:=GL  ps (by simp at hlen; omega) (fun x hx=>Nat.le_trans (dx (List.mem_map_of_mem hx)) hb)
  have h2:=gQ ps
  simp at h1
  rw [← h2]
  cases h3 : aF bH ps <;> rw [h3] at h1 <;> simp [h1,Function.comp_def]
 ·have : ¬ a = b:=fun e=>h (by rw [e])
  simp [this]
  omega
theorem Jb (a : Sh) (n : Int) (hb : yh a) (hn : 0≤n) (hm : n≤9223372036854775807) : ev LI TT 18 [.agg ((b9 .af) a),.int .i64 n] = some (.int .i64 (av n (cg a)),[.dead,.dead]):=by
 rw [az (b:=nq) (rs:=[.t 4]) (n:=2) rfl rfl]
 have hw : cg a = cS a.bC + wL bu a.aB + wL aQ a.aC:=rfl
 have ht:=aX n (cg a)
 have c1:=I0  a.bC n hb.Oy (by omega) (by omega)
 have s1:=aX n (cS a.bC)
 obtain ⟨m1,e1⟩ : ∃ m,m = av n (cS a.bC):=⟨_,rfl⟩
 rw [← e1] at c1 s1
 try simp at c1
 by_cases h1 : m1 < 0
 ·have ef : av n (cg a) = -1:=by omega
  simp -implicitDefEqProofs [nq,c1,h1,ef]
 have c2:=I6  a.aB m1 hb.OC (by omega) (by omega)
 have s2:=aX m1 (wL bu a.aB)
 obtain ⟨m2,e2⟩ : ∃ m,m = av m1 (wL bu a.aB):=⟨_,rfl⟩
 rw [← e2] at c2 s2
 try simp at c2
 by_cases h2 : m2 < 0
 ·have ef : av n (cg a) = -1:=by omega
  simp -implicitDefEqProofs [nq,c1,h1,c2,h2,ef]
 have c3:=IY  a.aC m2 hb.EM (by omega) (by omega)
 have s3:=aX m2 (wL aQ a.aC)
 obtain ⟨m3,e3⟩ : ∃ m,m = av m2 (wL aQ a.aC):=⟨_,rfl⟩
 rw [← e3] at c3 s3
 try simp at c3
 by_cases h3 : m3 < 0
 ·have ef : av n (cg a) = -1:=by omega
  simp -implicitDefEqProofs [nq,c1,h1,c2,h2,c3,h3,ef]
 have ef : av n (cg a) = m3:=by omega
 simp -implicitDefEqProofs [nq,c1,h1,c2,h2,c3,h3,ef]
 all_goals (repeat' split) <;> first | rfl | omega | (simp_all; done) | (simp_all; omega) | skip
theorem Js (a : Sh) (hb : cg a≤1048576) : ev LI TT 21 [.agg ((b9 .af) a)] = some (.agg ((b9 .own) a),[.dead]):=by
 rw [az (b:=wM) (rs:=[.c 2 6 true 43]) (n:=1) rfl rfl]
 have hw : cg a = cS a.bC + wL bu a.aB + wL aQ a.aC:=rfl
 have h1:=Jh  a.bC (by omega)
 try simp at h1
 have h2:=Jn  a.aB (by omega)
 try simp at h2
 have h3:=Jf  a.aC (by omega)
 try simp at h3
 simp -implicitDefEqProofs [wM,h1,h2,h3,hw]
 all_goals (repeat' split) <;> first | rfl | omega | (simp_all; done) | (simp_all; omega) | skip
theorem IU (a b : Sh) (hb : cg a≤1073741824) : ev LI TT 25 [.agg ((b9 .af) a),.agg ((b9 .af) b)] = some (.bool (decide (a = b)),[.dead,.dead]):=by
 rw [az (b:=kr) (rs:=[.t 4]) (n:=2) rfl rfl]
 have hw : cg a = cS a.bC + wL bu a.aB + wL aQ a.aC:=rfl
 rw [Kr]
 have c1:=ID  a.bC b.bC (by omega)
 cases g1 : decide (a.bC = b.bC)
 ·rw [g1] at c1
  try simp at c1
  simp -implicitDefEqProofs [kr,c1]
 rw [g1] at c1
 try simp at c1
 have c2:=IK  a.aB b.aB (by omega)
 cases g2 : decide (a.aB = b.aB)
 ·rw [g2] at c2
  try simp at c2
  simp -implicitDefEqProofs [kr,c1,c2]
 rw [g2] at c2
 try simp at c2
 have c3:=IB  a.aC b.aC (by omega)
 cases g3 : decide (a.aC = b.aC)
 ·rw [g3] at c3
  try simp at c3
  simp -implicitDefEqProofs [kr,c1,c2,c3]
 rw [g3] at c3
 try simp at c3
 by_cases g4 : a.next = b.next
 rotate_left
 ·simp -implicitDefEqProofs [kr,c1,c2,c3,eq_false g4]
 by_cases g5 : a.seq = b.seq
 rotate_left
 ·simp -implicitDefEqProofs [kr,c1,c2,c3,eq_true g4,eq_false g5]
 simp -implicitDefEqProofs [kr,c1,c2,c3,eq_true g4,eq_true g5]
 all_goals (repeat' split) <;> first | rfl | omega | (simp_all; done) | (simp_all; omega) | skip
theorem yF (a : Rq) (n : Int) (hb : n4 a) (hn : 0≤n) (hm : n≤9223372036854775807) : ev LI TT 19 [.agg ((eP .af) a),.int .i64 n] = some (.int .i64 (av n (bD a)),[.dead,.dead]):=by
 rw [az (b:=nk) (rs:=[.t 4]) (n:=2) rfl rfl]
 have hw : bD a = a.path.length + wL aJ a.fields + a.body.length:=rfl
 have ht:=aX n (bD a)
 have mJ : a.path.length≤9223372036854775807:=hb.Ay
 obtain ⟨m1,e1⟩ : ∃ m,m = n - (a.path.length : Int):=⟨_,rfl⟩
 have c1 : IntKind.i64.wrap (n - (a.path.length : Int)) = m1:=by rw [e1]; exact cz (by omega) (by omega)
 by_cases h1 : m1 < 0
 ·have ef : av n (bD a) = -1:=by omega
  simp -implicitDefEqProofs [nk,c1,h1,ef]
 have c2:=CM  a.fields m1 hb.Aw (by omega) (by omega)
 have s2:=aX m1 (wL aJ a.fields)
 obtain ⟨m2,e2⟩ : ∃ m,m = av m1 (wL aJ a.fields):=⟨_,rfl⟩
 rw [← e2] at c2 s2
 try simp at c2
 by_cases h2 : m2 < 0
 ·have ef : av n (bD a) = -1:=by omega
  simp -implicitDefEqProofs [nk,c1,h1,c2,h2,ef]
 have VR : a.body.length≤9223372036854775807:=hb.Av
 obtain ⟨m3,e3⟩ : ∃ m,m = m2 - (a.body.length : Int):=⟨_,rfl⟩
 have c3 : IntKind.i64.wrap (m2 - (a.body.length : Int)) = m3:=by rw [e3]; exact cz (by omega) (by omega)
 by_cases h3 : m3 < 0
 ·have ef : av n (bD a) = -1:=by omega
  simp -implicitDefEqProofs [nk,c1,h1,c2,h2,c3,h3,ef]
 have ef : av n (bD a) = m3:=by omega
 simp -implicitDefEqProofs [nk,c1,h1,c2,h2,c3,h3,ef]
 all_goals (repeat' split) <;> first | rfl | omega | (simp_all; done) | (simp_all; omega) | skip
theorem yJ (a : Rq) (hb : bD a≤1048576) : ev LI TT 22 [.agg ((eP .af) a)] = some (.agg ((eP .own) a),[.dead]):=by
 rw [az (b:=wH) (rs:=[.c 2 4 true 66]) (n:=1) rfl rfl]
 have hw : bD a = a.path.length + wL aJ a.fields + a.body.length:=rfl
 have h1:=CN  a.fields (by omega)
 try simp at h1
 simp -implicitDefEqProofs [wH,h1,hw]
 all_goals (repeat' split) <;> first | rfl | omega | (simp_all; done) | (simp_all; omega) | skip
theorem yA (a b : Rq) (hb : bD a≤1073741824) : ev LI TT 26 [.agg ((eP .af) a),.agg ((eP .af) b)] = some (.bool (decide (a = b)),[.dead,.dead]):=by
 rw [az (b:=lQ) (rs:=[.t 4]) (n:=2) rfl rfl]
 have hw : bD a = a.path.length + wL aJ a.fields + a.body.length:=rfl
 rw [Kn]
 by_cases g1 : a.method = b.method
 rotate_left
 ·simp -implicitDefEqProofs [lQ,eq_false g1]
 by_cases g2 : a.path = b.path
 rotate_left
 ·simp -implicitDefEqProofs [lQ,eq_true g1,eq_false g2]
 have c3:=CL  a.fields b.fields (by omega)
 cases g3 : decide (a.fields = b.fields)
 ·rw [g3] at c3
  try simp at c3
  simp -implicitDefEqProofs [lQ,eq_true g1,eq_true g2,c3]
 rw [g3] at c3
 try simp at c3
 by_cases g4 : a.body = b.body
 rotate_left
 ·simp -implicitDefEqProofs [lQ,eq_true g1,eq_true g2,c3,eq_false g4]
 simp -implicitDefEqProofs [lQ,eq_true g1,eq_true g2,c3,eq_true g4]
 all_goals (repeat' split) <;> first | rfl | omega | (simp_all; done) | (simp_all; omega) | skip
theorem I4 (l : List Int) (n : Int) (hb : l.length≤9223372036854775807) (hn : 0≤n) (hm : n≤9223372036854775807) : ev LI TT 228 [.row .af 1 (l.map eI),.int .i64 n] = some (.int .i64 (av n (wL wO l)),[.dead,.dead]):=by
 rw [az (b:=su) (rs:=[.t 4]) (n:=2) rfl rfl]
 have hw : wL wO l = l.length:=by simp [wL,wO]; clear hb; induction l <;> simp_all [wO]
 have ht:=aX n (wL wO l)
 obtain ⟨m,e1⟩ : ∃ m,m = n - (l.length : Int):=⟨_,rfl⟩
 have h2 : IntKind.i64.wrap (n - (l.length : Int)) = m:=by rw [e1]; exact cz (by omega) (by omega)
 by_cases h : m < 0
 ·have ef : av n (wL wO l) = -1:=by omega
  simp -implicitDefEqProofs [su,h2,h,ef]
 have ef : av n (wL wO l) = m:=by omega
 simp -implicitDefEqProofs [su,h2,h,ef]
 all_goals (repeat' split) <;> first | rfl | omega | (simp_all; done) | (simp_all; omega) | skip
theorem G9 (l : List Int) (hlen : l.length≤1048576) (hb : wL wO l≤1048576) : aH (ai (ev LI TT) (ak TT) sG) [(0,.row .af 1 (l.map eI)),(3,.row .own 1 (cD (l.map eI) 0 [.int .i64 0])),(4,.int .i64 0),(6,.int .i64 l.length)] = some (.exit 0,[(0,.row .af 1 (l.map eI)),(3,.row .own 1 (l.map eI)),(4,.int .i64 (l).length),(6,.int .i64 l.length),(11,.bool false)]):=by
 refine iT (f:=ai (ev LI TT) (ak TT) sG) (l) (fun i=>[(0,.row .af 1 (l.map eI)),(3,.row .own 1 (cD (l.map eI) i [.int .i64 0])),(4,.int .i64 i),(6,.int .i64 l.length)]) _ (fun i b hi hl=>?_) ?_
 ·have hw:=aM i (by first | omega | (simp at hl; omega))
  obtain ⟨_,rfl⟩:=List.getElem?_eq_some_iff.1 hi
  skip
  simp -implicitDefEqProofs [sG,A1,hl,hw]
  first | done | (rw [ez _ _ _ _ (by simpa using hl) (by simp)]; done) | (simp only [kA]; rw [ez _ _ _ _ (by simpa using hl) (by simp)])
 ·simp -implicitDefEqProofs [sG,A1]
theorem Jl (l : List Int) (hb : wL wO l≤1048576) : ev LI TT 230 [.row .af 1 (l.map eI)] = some (.row .own 1 (l.map eI),[.dead]):=by
 rw [az (b:=wB) (rs:=[.t 2]) (n:=1) rfl rfl]
 have hlen:=bk (w:=wO) l
 have h:=G9  l (by omega) hb
 try simp at h
 simp -implicitDefEqProofs [wB,h,(by omega : (l.length : Int) * 8≤140737488355328)]
 all_goals (repeat' split) <;> first | rfl | omega | (simp_all; done) | (simp_all; omega) | skip
theorem GO (ps : List (Int×Int)) (hb : ps.length≤9223372036854775807) (cM : ∀ x∈ps,wO x.1≤1073741824) : aH (ai (ev LI TT) (ak TT) rY) [(0,.row .af 1 (ps.map (fun x : Int×Int=>eI x.1))),(1,.row .af 1 (ps.map (fun x : Int×Int=>eI x.2))),(5,.int .i64 0)] = if aF bH (ps) = true then some (.exit 0,[(0,.row .af 1 (ps.map (fun x : Int×Int=>eI x.1))),(1,.row .af 1 (ps.map (fun x : Int×Int=>eI x.2))),(5,.int .i64 ps.length),(14,.bool false)]) else some (.ret,[(4,.bool false)]):=by
 refine bX (f:=ai (ev LI TT) (ak TT) rY) (ps) (fun i=>[(0,.row .af 1 (ps.map (fun x : Int×Int=>eI x.1))),(1,.row .af 1 (ps.map (fun x : Int×Int=>eI x.2))),(5,.int .i64 i)]) bH _ _ (fun i b hi hl=>?_) ?_
 ·have hw:=aM i (by first | omega | (simp at hl; omega))
  obtain ⟨_,rfl⟩:=List.getElem?_eq_some_iff.1 hi
  simp -implicitDefEqProofs [rY,AH,hl,hw,bH]
  first | done | (split <;> simp_all)
 ·simp -implicitDefEqProofs [rY,AH]
theorem II (a b : List Int) (hb : wL wO a≤1073741824) : ev LI TT 235 [.row .af 1 (a.map eI),.row .af 1 (b.map eI)] = some (.bool (decide (a = b)),[.dead,.dead]):=by
 rw [az (b:=vY) (rs:=[.t 4]) (n:=2) rfl rfl]
 simp -implicitDefEqProofs [vY]
 have hlen:=bk (w:=wO) a
 by_cases h : a.length = b.length
 ·obtain ⟨ps,rfl,rfl⟩:=iB h
  have h1:=GO  ps (by simp at hlen; omega) (fun x hx=>Nat.le_trans (dx (List.mem_map_of_mem hx)) hb)
  have h2:=gQ ps
  simp at h1
  rw [← h2]
  cases h3 : aF bH ps <;> rw [h3] at h1 <;> simp [h1,Function.comp_def]
 ·have : ¬ a = b:=fun e=>h (by rw [e])
  simp [this]
  omega
theorem I2 (a : Fl) (n : Int) (hb : nX a) (hn : 0≤n) (hm : n≤9223372036854775807) : ev LI TT 134 [.agg ((bg .af) a),.int .i64 n] = some (.int .i64 (av n (bz a)),[.dead,.dead]):=by
 rw [az (b:=ni) (rs:=[.t 4]) (n:=2) rfl rfl]
 have hw : bz a = bD a.q + wL wO a.who + bA a.old:=rfl
 have ht:=aX n (bz a)
 have c1:=yF  a.q n hb.oN (by omega) (by omega)
 have s1:=aX n (bD a.q)
 obtain ⟨m1,e1⟩ : ∃ m,m = av n (bD a.q):=⟨_,rfl⟩
 rw [← e1] at c1 s1
 try simp at c1
 by_cases h1 : m1 < 0
 ·have ef : av n (bz a) = -1:=by omega
  simp -implicitDefEqProofs [ni,c1,h1,ef]
 have c2:=I4  a.who m1 hb.ON.1 (by omega) (by omega)
 have s2:=aX m1 (wL wO a.who)
 obtain ⟨m2,e2⟩ : ∃ m,m = av m1 (wL wO a.who):=⟨_,rfl⟩
 rw [← e2] at c2 s2
 try simp at c2
 by_cases h2 : m2 < 0
 ·have ef : av n (bz a) = -1:=by omega
  simp -implicitDefEqProofs [ni,c1,h1,c2,h2,ef]
 have c3:=yE  a.old m2 hb.OD (by omega) (by omega)
 have s3:=aX m2 (bA a.old)
 obtain ⟨m3,e3⟩ : ∃ m,m = av m2 (bA a.old):=⟨_,rfl⟩
 rw [← e3] at c3 s3
 try simp at c3
 by_cases h3 : m3 < 0
 ·have ef : av n (bz a) = -1:=by omega
  simp -implicitDefEqProofs [ni,c1,h1,c2,h2,c3,h3,ef]
 have ef : av n (bz a) = m3:=by omega
 simp -implicitDefEqProofs [ni,c1,h1,c2,h2,c3,h3,ef]
 all_goals (repeat' split) <;> first | rfl | omega | (simp_all; done) | (simp_all; omega) | skip
theorem Jj (a : Fl) (hb : bz a≤1048576) : ev LI TT 140 [.agg ((bg .af) a)] = some (.agg ((bg .own) a),[.dead]):=by
 rw [az (b:=wA) (rs:=[.c 2 13 true 184]) (n:=1) rfl rfl]
 have hw : bz a = bD a.q + wL wO a.who + bA a.old:=rfl
 have h1:=yJ  a.q (by omega)
 try simp at h1
 have h2:=Jl  a.who (by omega)
 try simp at h2
 have h3:=yI  a.old (by omega)
 try simp at h3
 simp -implicitDefEqProofs [wA,h1,h2,h3,hw]
 all_goals (repeat' split) <;> first | rfl | omega | (simp_all; done) | (simp_all; omega) | skip
theorem IF (a b : Fl) (hb : bz a≤1073741824) : ev LI TT 146 [.agg ((bg .af) a),.agg ((bg .af) b)] = some (.bool (decide (a = b)),[.dead,.dead]):=by
 rw [az (b:=lP) (rs:=[.t 4]) (n:=2) rfl rfl]
 have hw : bz a = bD a.q + wL wO a.who + bA a.old:=rfl
 rw [Ki]
 have c1:=yA  a.q b.q (by omega)
 cases g1 : decide (a.q = b.q)
 ·rw [g1] at c1
  try simp at c1
  simp -implicitDefEqProofs [lP,c1]
 rw [g1] at c1
 try simp at c1
 have c2:=II  a.who b.who (by omega)
 cases g2 : decide (a.who = b.who)
 ·rw [g2] at c2
  try simp at c2
  simp -implicitDefEqProofs [lP,c1,c2]
 rw [g2] at c2
 try simp at c2
 have c3:=yz  a.old b.old (by omega)
 cases g3 : decide (a.old = b.old)
 ·rw [g3] at c3
  try simp at c3
  simp -implicitDefEqProofs [lP,c1,c2,c3]
 rw [g3] at c3
 try simp at c3
 by_cases g4 : a.jo = b.jo
 rotate_left
 ·simp -implicitDefEqProofs [lP,c1,c2,c3,eq_false g4]
 simp -implicitDefEqProofs [lP,c1,c2,c3,eq_true g4]
 all_goals (repeat' split) <;> first | rfl | omega | (simp_all; done) | (simp_all; omega) | skip
theorem GX (l : List Fl) (hlen : l.length≤9223372036854775807) (hb : bL nX l) (n : Int) (hn : 0≤n) (hm : n≤9223372036854775807) : aH (ai (ev LI TT) (ak TT) so) [(0,.row .af 13 (l.map (bg .af))),(1,.int .i64 n),(5,.int .i64 0)] = if cR (fun b n=>av n (bz b)) (l) n < 0 then some (.ret,[(4,.int .i64 (-1))]) else some (.exit 0,[(0,.row .af 13 (l.map (bg .af))),(1,.int .i64 (cR (fun b n=>av n (bz b)) (l) n)),(5,.int .i64 (l).length),(15,.bool false)]):=by
 refine lT (f:=ai (ev LI TT) (ak TT) so) (l) (fun i n=>[(0,.row .af 13 (l.map (bg .af))),(1,.int .i64 n),(5,.int .i64 i)]) (fun b n=>av n (bz b)) _ (fun n=>[(0,.row .af 13 (l.map (bg .af))),(1,.int .i64 n),(5,.int .i64 (l).length),(15,.bool false)]) n hn hm (fun b n=>l5 _ n) (fun i b n hi hl hn hm=>?_) (fun n=>?_)
 ·have hw:=aM i (by first | omega | (simp at hl; omega))
  obtain ⟨_,rfl⟩:=List.getElem?_eq_some_iff.1 hi
  have h2:=I2  l[i] n (hb.2 _ (List.getElem_mem hl)) hn hm
  obtain ⟨m,e1⟩ : ∃ m,m = av n (bz l[i]):=⟨_,rfl⟩
  rw [← e1] at h2 ⊢
  try simp at h2
  simp -implicitDefEqProofs [so,AQ,hl,hw,h2]
 ·simp -implicitDefEqProofs [so,AQ]
theorem I3 (l : List Fl) (n : Int) (hb : bL nX l) (hn : 0≤n) (hm : n≤9223372036854775807) : ev LI TT 50 [.row .af 13 (l.map (bg .af)),.int .i64 n] = some (.int .i64 (av n (wL bz l)),[.dead,.dead]):=by
 rw [az (b:=oZ) (rs:=[.t 4]) (n:=2) rfl rfl]
 have hl:=hb.1
 have hw : wL bz l = l.length + (l.map bz).sum:=rfl
 have ht:=aX n (wL bz l)
 obtain ⟨m,e1⟩ : ∃ m,m = n - (l.length : Int):=⟨_,rfl⟩
 have h2 : IntKind.i64.wrap (n - (l.length : Int)) = m:=by rw [e1]; exact cz (by omega) (by omega)
 by_cases h : m < 0
 ·have ef : av n (wL bz l) = -1:=by omega
  simp -implicitDefEqProofs [oZ,h2,h,ef]
 have h3:=GX  l hb.1 hb m (by omega) (by omega)
 rw [kI _ _ _ (by omega)] at h3
 have hs:=aX m (l.map bz).sum
 obtain ⟨q,e2⟩ : ∃ q,q = av m (l.map bz).sum:=⟨_,rfl⟩
 rw [← e2] at h3 hs
 try simp at h3
 by_cases h4 : q < 0
 ·have ef : av n (wL bz l) = -1:=by omega
  simp only [h4,if_true] at h3
  simp -implicitDefEqProofs [oZ,h2,h,h3,ef]
 have ef : av n (wL bz l) = q:=by omega
 simp only [h4,if_false] at h3
 simp -implicitDefEqProofs [oZ,h2,h,h3,ef]
 all_goals (repeat' split) <;> first | rfl | omega | (simp_all; done) | (simp_all; omega) | skip
theorem G8 (l : List Fl) (hlen : l.length≤1048576) (hb : wL bz l≤1048576) : aH (ai (ev LI TT) (ak TT) sF) [(0,.row .af 13 (l.map (bg .af))),(3,.row .own 13 (cD (l.map (bg .own)) 0 [.int .i64 0,.str ⟨#[]⟩,.row .own 2 [],.str ⟨#[]⟩,.row .own 1 [],.str ⟨#[]⟩,.row .own 1 [],.row .own 1 [],.int .i64 0,.row .own 2 [],.str ⟨#[]⟩,.int .i64 0,.bool false])),(4,.int .i64 0),(6,.int .i64 l.length)] = some (.exit 0,[(0,.row .af 13 (l.map (bg .af))),(3,.row .own 13 (l.map (bg .own))),(4,.int .i64 (l).length),(6,.int .i64 l.length),(11,.bool false)]):=by
 refine iT (f:=ai (ev LI TT) (ak TT) sF) (l) (fun i=>[(0,.row .af 13 (l.map (bg .af))),(3,.row .own 13 (cD (l.map (bg .own)) i [.int .i64 0,.str ⟨#[]⟩,.row .own 2 [],.str ⟨#[]⟩,.row .own 1 [],.str ⟨#[]⟩,.row .own 1 [],.row .own 1 [],.int .i64 0,.row .own 2 [],.str ⟨#[]⟩,.int .i64 0,.bool false])),(4,.int .i64 i),(6,.int .i64 l.length)]) _ (fun i b hi hl=>?_) ?_
 ·have hw:=aM i (by first | omega | (simp at hl; omega))
  obtain ⟨_,rfl⟩:=List.getElem?_eq_some_iff.1 hi
  have h:=Jj  l[i] (Nat.le_trans (dx (List.getElem_mem hl)) hb)
  try simp at h
  simp -implicitDefEqProofs [sF,A0,hl,hw,h]
  first | done | (rw [ez _ _ _ _ (by simpa using hl) (by simp)]; done) | (simp only [kA]; rw [ez _ _ _ _ (by simpa using hl) (by simp)])
 ·simp -implicitDefEqProofs [sF,A0]
theorem Jk (l : List Fl) (hb : wL bz l≤1048576) : ev LI TT 57 [.row .af 13 (l.map (bg .af))] = some (.row .own 13 (l.map (bg .own)),[.dead]):=by
 rw [az (b:=wz) (rs:=[.t 2]) (n:=1) rfl rfl]
 have hlen:=bk (w:=bz) l
 have h:=G8  l (by omega) hb
 try simp at h
 simp -implicitDefEqProofs [wz,h,(by omega : (l.length : Int) * 216≤140737488355328)]
 all_goals (repeat' split) <;> first | rfl | omega | (simp_all; done) | (simp_all; omega) | skip
theorem GN (ps : List (Fl×Fl)) (hb : ps.length≤9223372036854775807) (cM : ∀ x∈ps,bz x.1≤1073741824) : aH (ai (ev LI TT) (ak TT) rX) [(0,.row .af 13 (ps.map (fun x : Fl×Fl=>(bg .af) x.1))),(1,.row .af 13 (ps.map (fun x : Fl×Fl=>(bg .af) x.2))),(5,.int .i64 0)] = if aF bH (ps) = true then some (.exit 0,[(0,.row .af 13 (ps.map (fun x : Fl×Fl=>(bg .af) x.1))),(1,.row .af 13 (ps.map (fun x : Fl×Fl=>(bg .af) x.2))),(5,.int .i64 ps.length),(14,.bool false)]) else some (.ret,[(4,.bool false)]):=by
 refine bX (f:=ai (ev LI TT) (ak TT) rX) (ps) (fun i=>[(0,.row .af 13 (ps.map (fun x : Fl×Fl=>(bg .af) x.1))),(1,.row .af 13 (ps.map (fun x : Fl×Fl=>(bg .af) x.2))),(5,.int .i64 i)]) bH _ _ (fun i b hi hl=>?_) ?_
 ·have hw:=aM i (by first | omega | (simp at hl; omega))
  obtain ⟨_,rfl⟩:=List.getElem?_eq_some_iff.1 hi
  have h:=IF  (ps[i]).1 (ps[i]).2 (cM _ (List.getElem_mem hl)); try simp at h
  simp -implicitDefEqProofs [rX,AG,hl,hw,bH,h]
 ·simp -implicitDefEqProofs [rX,AG]
theorem IG (a b : List Fl) (hb : wL bz a≤1073741824) : ev LI TT 62 [.row .af 13 (a.map (bg .af)),.row .af 13 (b.map (bg .af))] = some (.bool (decide (a = b)),[.dead,.dead]):=by
 rw [az (b:=vX) (rs:=[.t 4]) (n:=2) rfl rfl]
 simp -implicitDefEqProofs [vX]
 have hlen:=bk (w:=bz) a
 by_cases h : a.length = b.length
 ·obtain ⟨ps,rfl,rfl⟩:=iB h
  have h1:=GN  ps (by simp at hlen; omega) (fun x hx=>Nat.le_trans (dx (List.mem_map_of_mem hx)) hb)
  have h2:=gQ ps
  simp at h1
  rw [← h2]
  cases h3 : aF bH ps <;> rw [h3] at h1 <;> simp [h1,Function.comp_def]
 ·have : ¬ a = b:=fun e=>h (by rw [e])
  simp [this]
  omega
theorem I9 (a : Se) (n : Int) (hb : n6 a) (hn : 0≤n) (hm : n≤9223372036854775807) : ev LI TT 135 [.agg ((cx .af) a),.int .i64 n] = some (.int .i64 (av n (cq a)),[.dead,.dead]):=by
 rw [az (b:=pg) (rs:=[.t 4]) (n:=2) rfl rfl]
 have hw : cq a = bD a.q + bT a.resp:=rfl
 have ht:=aX n (cq a)
 have c1:=yF  a.q n hb.oN (by omega) (by omega)
 have s1:=aX n (bD a.q)
 obtain ⟨m1,e1⟩ : ∃ m,m = av n (bD a.q):=⟨_,rfl⟩
 rw [← e1] at c1 s1
 try simp at c1
 by_cases h1 : m1 < 0
 ·have ef : av n (cq a) = -1:=by omega
  simp -implicitDefEqProofs [pg,c1,h1,ef]
 have c2:=yG  a.resp m1 hb.oO (by omega) (by omega)
 have s2:=aX m1 (bT a.resp)
 obtain ⟨m2,e2⟩ : ∃ m,m = av m1 (bT a.resp):=⟨_,rfl⟩
 rw [← e2] at c2 s2
 try simp at c2
 by_cases h2 : m2 < 0
 ·have ef : av n (cq a) = -1:=by omega
  simp -implicitDefEqProofs [pg,c1,h1,c2,h2,ef]
 have ef : av n (cq a) = m2:=by omega
 simp -implicitDefEqProofs [pg,c1,h1,c2,h2,ef]
 all_goals (repeat' split) <;> first | rfl | omega | (simp_all; done) | (simp_all; omega) | skip
theorem Jq (a : Se) (hb : cq a≤1048576) : ev LI TT 141 [.agg ((cx .af) a)] = some (.agg ((cx .own) a),[.dead]):=by
 rw [az (b:=wK) (rs:=[.c 2 8 true 188]) (n:=1) rfl rfl]
 have hw : cq a = bD a.q + bT a.resp:=rfl
 have h1:=yJ  a.q (by omega)
 try simp at h1
 have h2:=yK  a.resp (by omega)
 try simp at h2
 simp -implicitDefEqProofs [wK,h1,h2,hw]
 all_goals (repeat' split) <;> first | rfl | omega | (simp_all; done) | (simp_all; omega) | skip
theorem IP (a b : Se) (hb : cq a≤1073741824) : ev LI TT 147 [.agg ((cx .af) a),.agg ((cx .af) b)] = some (.bool (decide (a = b)),[.dead,.dead]):=by
 rw [az (b:=nh) (rs:=[.t 4]) (n:=2) rfl rfl]
 have hw : cq a = bD a.q + bT a.resp:=rfl
 rw [Kq]
 have c1:=yA  a.q b.q (by omega)
 cases g1 : decide (a.q = b.q)
 ·rw [g1] at c1
  try simp at c1
  simp -implicitDefEqProofs [nh,c1]
 rw [g1] at c1
 try simp at c1
 have c2:=yB  a.resp b.resp (by omega)
 cases g2 : decide (a.resp = b.resp)
 ·rw [g2] at c2
  try simp at c2
  simp -implicitDefEqProofs [nh,c1,c2]
 rw [g2] at c2
 try simp at c2
 by_cases g3 : a.t = b.t
 rotate_left
 ·simp -implicitDefEqProofs [nh,c1,c2,eq_false g3]
 simp -implicitDefEqProofs [nh,c1,c2,eq_true g3]
 all_goals (repeat' split) <;> first | rfl | omega | (simp_all; done) | (simp_all; omega) | skip
theorem G0 (l : List Se) (hlen : l.length≤9223372036854775807) (hb : bL n6 l) (n : Int) (hn : 0≤n) (hm : n≤9223372036854775807) : aH (ai (ev LI TT) (ak TT) sA) [(0,.row .af 8 (l.map (cx .af))),(1,.int .i64 n),(5,.int .i64 0)] = if cR (fun b n=>av n (cq b)) (l) n < 0 then some (.ret,[(4,.int .i64 (-1))]) else some (.exit 0,[(0,.row .af 8 (l.map (cx .af))),(1,.int .i64 (cR (fun b n=>av n (cq b)) (l) n)),(5,.int .i64 (l).length),(15,.bool false)]):=by
 refine lT (f:=ai (ev LI TT) (ak TT) sA) (l) (fun i n=>[(0,.row .af 8 (l.map (cx .af))),(1,.int .i64 n),(5,.int .i64 i)]) (fun b n=>av n (cq b)) _ (fun n=>[(0,.row .af 8 (l.map (cx .af))),(1,.int .i64 n),(5,.int .i64 (l).length),(15,.bool false)]) n hn hm (fun b n=>l5 _ n) (fun i b n hi hl hn hm=>?_) (fun n=>?_)
 ·have hw:=aM i (by first | omega | (simp at hl; omega))
  obtain ⟨_,rfl⟩:=List.getElem?_eq_some_iff.1 hi
  have h2:=I9  l[i] n (hb.2 _ (List.getElem_mem hl)) hn hm
  obtain ⟨m,e1⟩ : ∃ m,m = av n (cq l[i]):=⟨_,rfl⟩
  rw [← e1] at h2 ⊢
  try simp at h2
  simp -implicitDefEqProofs [sA,AW,hl,hw,h2]
 ·simp -implicitDefEqProofs [sA,AW]
theorem Ja (l : List Se) (n : Int) (hb : bL n6 l) (hn : 0≤n) (hm : n≤9223372036854775807) : ev LI TT 51 [.row .af 8 (l.map (cx .af)),.int .i64 n] = some (.int .i64 (av n (wL cq l)),[.dead,.dead]):=by
 rw [az (b:=o9) (rs:=[.t 4]) (n:=2) rfl rfl]
 have hl:=hb.1
 have hw : wL cq l = l.length + (l.map cq).sum:=rfl
 have ht:=aX n (wL cq l)
 obtain ⟨m,e1⟩ : ∃ m,m = n - (l.length : Int):=⟨_,rfl⟩
 have h2 : IntKind.i64.wrap (n - (l.length : Int)) = m:=by rw [e1]; exact cz (by omega) (by omega)
 by_cases h : m < 0
 ·have ef : av n (wL cq l) = -1:=by omega
  simp -implicitDefEqProofs [o9,h2,h,ef]
 have h3:=G0  l hb.1 hb m (by omega) (by omega)
 rw [kI _ _ _ (by omega)] at h3
 have hs:=aX m (l.map cq).sum
 obtain ⟨q,e2⟩ : ∃ q,q = av m (l.map cq).sum:=⟨_,rfl⟩
 rw [← e2] at h3 hs
 try simp at h3
 by_cases h4 : q < 0
 ·have ef : av n (wL cq l) = -1:=by omega
  simp only [h4,if_true] at h3
  simp -implicitDefEqProofs [o9,h2,h,h3,ef]
 have ef : av n (wL cq l) = q:=by omega
 simp only [h4,if_false] at h3
 simp -implicitDefEqProofs [o9,h2,h,h3,ef]
 all_goals (repeat' split) <;> first | rfl | omega | (simp_all; done) | (simp_all; omega) | skip
theorem Hg (l : List Se) (hlen : l.length≤1048576) (hb : wL cq l≤1048576) : aH (ai (ev LI TT) (ak TT) sJ) [(0,.row .af 8 (l.map (cx .af))),(3,.row .own 8 (cD (l.map (cx .own)) 0 [.int .i64 0,.str ⟨#[]⟩,.row .own 2 [],.str ⟨#[]⟩,.int .i64 0,.row .own 2 [],.str ⟨#[]⟩,.int .i64 0])),(4,.int .i64 0),(6,.int .i64 l.length)] = some (.exit 0,[(0,.row .af 8 (l.map (cx .af))),(3,.row .own 8 (l.map (cx .own))),(4,.int .i64 (l).length),(6,.int .i64 l.length),(11,.bool false)]):=by
 refine iT (f:=ai (ev LI TT) (ak TT) sJ) (l) (fun i=>[(0,.row .af 8 (l.map (cx .af))),(3,.row .own 8 (cD (l.map (cx .own)) i [.int .i64 0,.str ⟨#[]⟩,.row .own 2 [],.str ⟨#[]⟩,.int .i64 0,.row .own 2 [],.str ⟨#[]⟩,.int .i64 0])),(4,.int .i64 i),(6,.int .i64 l.length)]) _ (fun i b hi hl=>?_) ?_
 ·have hw:=aM i (by first | omega | (simp at hl; omega))
  obtain ⟨_,rfl⟩:=List.getElem?_eq_some_iff.1 hi
  have h:=Jq  l[i] (Nat.le_trans (dx (List.getElem_mem hl)) hb)
  try simp at h
  simp -implicitDefEqProofs [sJ,A6,hl,hw,h]
  first | done | (rw [ez _ _ _ _ (by simpa using hl) (by simp)]; done) | (simp only [kA]; rw [ez _ _ _ _ (by simpa using hl) (by simp)])
 ·simp -implicitDefEqProofs [sJ,A6]
theorem Jr (l : List Se) (hb : wL cq l≤1048576) : ev LI TT 58 [.row .af 8 (l.map (cx .af))] = some (.row .own 8 (l.map (cx .own)),[.dead]):=by
 rw [az (b:=wJ) (rs:=[.t 2]) (n:=1) rfl rfl]
 have hlen:=bk (w:=cq) l
 have h:=Hg  l (by omega) hb
 try simp at h
 simp -implicitDefEqProofs [wJ,h,(by omega : (l.length : Int) * 120≤140737488355328)]
 all_goals (repeat' split) <;> first | rfl | omega | (simp_all; done) | (simp_all; omega) | skip
theorem GR (ps : List (Se×Se)) (hb : ps.length≤9223372036854775807) (cM : ∀ x∈ps,cq x.1≤1073741824) : aH (ai (ev LI TT) (ak TT) r9) [(0,.row .af 8 (ps.map (fun x : Se×Se=>(cx .af) x.1))),(1,.row .af 8 (ps.map (fun x : Se×Se=>(cx .af) x.2))),(5,.int .i64 0)] = if aF bH (ps) = true then some (.exit 0,[(0,.row .af 8 (ps.map (fun x : Se×Se=>(cx .af) x.1))),(1,.row .af 8 (ps.map (fun x : Se×Se=>(cx .af) x.2))),(5,.int .i64 ps.length),(14,.bool false)]) else some (.ret,[(4,.bool false)]):=by
 refine bX (f:=ai (ev LI TT) (ak TT) r9) (ps) (fun i=>[(0,.row .af 8 (ps.map (fun x : Se×Se=>(cx .af) x.1))),(1,.row .af 8 (ps.map (fun x : Se×Se=>(cx .af) x.2))),(5,.int .i64 i)]) bH _ _ (fun i b hi hl=>?_) ?_
 ·have hw:=aM i (by first | omega | (simp at hl; omega))
  obtain ⟨_,rfl⟩:=List.getElem?_eq_some_iff.1 hi
  have h:=IP  (ps[i]).1 (ps[i]).2 (cM _ (List.getElem_mem hl)); try simp at h
  simp -implicitDefEqProofs [r9,AL,hl,hw,bH,h]
 ·simp -implicitDefEqProofs [r9,AL]
theorem IQ (a b : List Se) (hb : wL cq a≤1073741824) : ev LI TT 63 [.row .af 8 (a.map (cx .af)),.row .af 8 (b.map (cx .af))] = some (.bool (decide (a = b)),[.dead,.dead]):=by
 rw [az (b:=v8) (rs:=[.t 4]) (n:=2) rfl rfl]
 simp -implicitDefEqProofs [v8]
 have hlen:=bk (w:=cq) a
 by_cases h : a.length = b.length
 ·obtain ⟨ps,rfl,rfl⟩:=iB h
  have h1:=GR  ps (by simp at hlen; omega) (fun x hx=>Nat.le_trans (dx (List.mem_map_of_mem hx)) hb)
  have h2:=gQ ps
  simp at h1
  rw [← h2]
  cases h3 : aF bH ps <;> rw [h3] at h1 <;> simp [h1,Function.comp_def]
 ·have : ¬ a = b:=fun e=>h (by rw [e])
  simp [this]
  omega
theorem I7 (a : Rp) (n : Int) (hb : nZ a) (hn : 0≤n) (hm : n≤9223372036854775807) : ev LI TT 136 [.agg ((cj .af) a),.int .i64 n] = some (.int .i64 (av n (bR a)),[.dead,.dead]):=by
 rw [az (b:=nj) (rs:=[.t 4]) (n:=2) rfl rfl]
 have hw : bR a = bD a.q + bT a.resp + bA a.obj:=rfl
 have ht:=aX n (bR a)
 have c1:=yF  a.q n hb.oN (by omega) (by omega)
 have s1:=aX n (bD a.q)
 obtain ⟨m1,e1⟩ : ∃ m,m = av n (bD a.q):=⟨_,rfl⟩
 rw [← e1] at c1 s1
 try simp at c1
 by_cases h1 : m1 < 0
 ·have ef : av n (bR a) = -1:=by omega
  simp -implicitDefEqProofs [nj,c1,h1,ef]
 have c2:=yG  a.resp m1 hb.oO (by omega) (by omega)
 have s2:=aX m1 (bT a.resp)
 obtain ⟨m2,e2⟩ : ∃ m,m = av m1 (bT a.resp):=⟨_,rfl⟩
 rw [← e2] at c2 s2
 try simp at c2
 by_cases h2 : m2 < 0
 ·have ef : av n (bR a) = -1:=by omega
  simp -implicitDefEqProofs [nj,c1,h1,c2,h2,ef]
 have c3:=yE  a.obj m2 hb.Ax (by omega) (by omega)
 have s3:=aX m2 (bA a.obj)
 obtain ⟨m3,e3⟩ : ∃ m,m = av m2 (bA a.obj):=⟨_,rfl⟩
 rw [← e3] at c3 s3
 try simp at c3
 by_cases h3 : m3 < 0
 ·have ef : av n (bR a) = -1:=by omega
  simp -implicitDefEqProofs [nj,c1,h1,c2,h2,c3,h3,ef]
 have ef : av n (bR a) = m3:=by omega
 simp -implicitDefEqProofs [nj,c1,h1,c2,h2,c3,h3,ef]
 all_goals (repeat' split) <;> first | rfl | omega | (simp_all; done) | (simp_all; omega) | skip
theorem Jo (a : Rp) (hb : bR a≤1048576) : ev LI TT 142 [.agg ((cj .af) a)] = some (.agg ((cj .own) a),[.dead]):=by
 rw [az (b:=wG) (rs:=[.c 2 18 true 104]) (n:=1) rfl rfl]
 have hw : bR a = bD a.q + bT a.resp + bA a.obj:=rfl
 have h1:=yJ  a.q (by omega)
 try simp at h1
 have h2:=yK  a.resp (by omega)
 try simp at h2
 have h3:=yI  a.obj (by omega)
 try simp at h3
 simp -implicitDefEqProofs [wG,h1,h2,h3,hw]
 all_goals (repeat' split) <;> first | rfl | omega | (simp_all; done) | (simp_all; omega) | skip
theorem IL (a b : Rp) (hb : bR a≤1073741824) : ev LI TT 148 [.agg ((cj .af) a),.agg ((cj .af) b)] = some (.bool (decide (a = b)),[.dead,.dead]):=by
 rw [az (b:=iR) (rs:=[.t 4]) (n:=2) rfl rfl]
 have hw : bR a = bD a.q + bT a.resp + bA a.obj:=rfl
 rw [Km]
 by_cases g1 : a.client = b.client
 rotate_left
 ·simp -implicitDefEqProofs [iR,eq_false g1]
 have c2:=yA  a.q b.q (by omega)
 cases g2 : decide (a.q = b.q)
 ·rw [g2] at c2
  try simp at c2
  simp -implicitDefEqProofs [iR,eq_true g1,c2]
 rw [g2] at c2
 try simp at c2
 have c3:=yB  a.resp b.resp (by omega)
 cases g3 : decide (a.resp = b.resp)
 ·rw [g3] at c3
  try simp at c3
  simp -implicitDefEqProofs [iR,eq_true g1,c2,c3]
 rw [g3] at c3
 try simp at c3
 by_cases g4 : a.kind = b.kind
 rotate_left
 ·simp -implicitDefEqProofs [iR,eq_true g1,c2,c3,eq_false g4]
 by_cases g5 : a.t = b.t
 rotate_left
 ·simp -implicitDefEqProofs [iR,eq_true g1,c2,c3,eq_true g4,eq_false g5]
 have c6:=yz  a.obj b.obj (by omega)
 cases g6 : decide (a.obj = b.obj)
 ·rw [g6] at c6
  try simp at c6
  simp -implicitDefEqProofs [iR,eq_true g1,c2,c3,eq_true g4,eq_true g5,c6]
 rw [g6] at c6
 try simp at c6
 by_cases g7 : a.aC = b.aC
 rotate_left
 ·simp -implicitDefEqProofs [iR,eq_true g1,c2,c3,eq_true g4,eq_true g5,c6,eq_false g7]
 simp -implicitDefEqProofs [iR,eq_true g1,c2,c3,eq_true g4,eq_true g5,c6,eq_true g7]
 all_goals (repeat' split) <;> first | rfl | omega | (simp_all; done) | (simp_all; omega) | skip
theorem GZ (l : List Rp) (hlen : l.length≤9223372036854775807) (hb : bL nZ l) (n : Int) (hn : 0≤n) (hm : n≤9223372036854775807) : aH (ai (ev LI TT) (ak TT) sy) [(0,.row .af 18 (l.map (cj .af))),(1,.int .i64 n),(5,.int .i64 0)] = if cR (fun b n=>av n (bR b)) (l) n < 0 then some (.ret,[(4,.int .i64 (-1))]) else some (.exit 0,[(0,.row .af 18 (l.map (cj .af))),(1,.int .i64 (cR (fun b n=>av n (bR b)) (l) n)),(5,.int .i64 (l).length),(15,.bool false)]):=by
 refine lT (f:=ai (ev LI TT) (ak TT) sy) (l) (fun i n=>[(0,.row .af 18 (l.map (cj .af))),(1,.int .i64 n),(5,.int .i64 i)]) (fun b n=>av n (bR b)) _ (fun n=>[(0,.row .af 18 (l.map (cj .af))),(1,.int .i64 n),(5,.int .i64 (l).length),(15,.bool false)]) n hn hm (fun b n=>l5 _ n) (fun i b n hi hl hn hm=>?_) (fun n=>?_)
 ·have hw:=aM i (by first | omega | (simp at hl; omega))
  obtain ⟨_,rfl⟩:=List.getElem?_eq_some_iff.1 hi
  have h2:=I7  l[i] n (hb.2 _ (List.getElem_mem hl)) hn hm
  obtain ⟨m,e1⟩ : ∃ m,m = av n (bR l[i]):=⟨_,rfl⟩
  rw [← e1] at h2 ⊢
  try simp at h2
  simp -implicitDefEqProofs [sy,AU,hl,hw,h2]
 ·simp -implicitDefEqProofs [sy,AU]
theorem I8 (l : List Rp) (n : Int) (hb : bL nZ l) (hn : 0≤n) (hm : n≤9223372036854775807) : ev LI TT 52 [.row .af 18 (l.map (cj .af)),.int .i64 n] = some (.int .i64 (av n (wL bR l)),[.dead,.dead]):=by
 rw [az (b:=o7) (rs:=[.t 4]) (n:=2) rfl rfl]
 have hl:=hb.1
 have hw : wL bR l = l.length + (l.map bR).sum:=rfl
 have ht:=aX n (wL bR l)
 obtain ⟨m,e1⟩ : ∃ m,m = n - (l.length : Int):=⟨_,rfl⟩
 have h2 : IntKind.i64.wrap (n - (l.length : Int)) = m:=by rw [e1]; exact cz (by omega) (by omega)
 by_cases h : m < 0
 ·have ef : av n (wL bR l) = -1:=by omega
  simp -implicitDefEqProofs [o7,h2,h,ef]
 have h3:=GZ  l hb.1 hb m (by omega) (by omega)
 rw [kI _ _ _ (by omega)] at h3
 have hs:=aX m (l.map bR).sum
 obtain ⟨q,e2⟩ : ∃ q,q = av m (l.map bR).sum:=⟨_,rfl⟩
 rw [← e2] at h3 hs
 try simp at h3
 by_cases h4 : q < 0
 ·have ef : av n (wL bR l) = -1:=by omega
  simp only [h4,if_true] at h3
  simp -implicitDefEqProofs [o7,h2,h,h3,ef]
 have ef : av n (wL bR l) = q:=by omega
 simp only [h4,if_false] at h3
 simp -implicitDefEqProofs [o7,h2,h,h3,ef]
 all_goals (repeat' split) <;> first | rfl | omega | (simp_all; done) | (simp_all; omega) | skip
theorem Hf (l : List Rp) (hlen : l.length≤1048576) (hb : wL bR l≤1048576) : aH (ai (ev LI TT) (ak TT) sI) [(0,.row .af 18 (l.map (cj .af))),(3,.row .own 18 (cD (l.map (cj .own)) 0 [.int .i64 0,.int .i64 0,.str ⟨#[]⟩,.row .own 2 [],.str ⟨#[]⟩,.int .i64 0,.row .own 2 [],.str ⟨#[]⟩,.int .i64 0,.int .i64 0,.str ⟨#[]⟩,.row .own 1 [],.row .own 1 [],.int .i64 0,.row .own 2 [],.str ⟨#[]⟩,.int .i64 0,.int .i64 0])),(4,.int .i64 0),(6,.int .i64 l.length)] = some (.exit 0,[(0,.row .af 18 (l.map (cj .af))),(3,.row .own 18 (l.map (cj .own))),(4,.int .i64 (l).length),(6,.int .i64 l.length),(11,.bool false)]):=by
 refine iT (f:=ai (ev LI TT) (ak TT) sI) (l) (fun i=>[(0,.row .af 18 (l.map (cj .af))),(3,.row .own 18 (cD (l.map (cj .own)) i [.int .i64 0,.int .i64 0,.str ⟨#[]⟩,.row .own 2 [],.str ⟨#[]⟩,.int .i64 0,.row .own 2 [],.str ⟨#[]⟩,.int .i64 0,.int .i64 0,.str ⟨#[]⟩,.row .own 1 [],.row .own 1 [],.int .i64 0,.row .own 2 [],.str ⟨#[]⟩,.int .i64 0,.int .i64 0])),(4,.int .i64 i),(6,.int .i64 l.length)]) _ (fun i b hi hl=>?_) ?_
 ·have hw:=aM i (by first | omega | (simp at hl; omega))
  obtain ⟨_,rfl⟩:=List.getElem?_eq_some_iff.1 hi
  have h:=Jo  l[i] (Nat.le_trans (dx (List.getElem_mem hl)) hb)
  try simp at h
  simp -implicitDefEqProofs [sI,A5,hl,hw,h]
  first | done | (rw [ez _ _ _ _ (by simpa using hl) (by simp)]; done) | (simp only [kA]; rw [ez _ _ _ _ (by simpa using hl) (by simp)])
 ·simp -implicitDefEqProofs [sI,A5]
theorem Jp (l : List Rp) (hb : wL bR l≤1048576) : ev LI TT 59 [.row .af 18 (l.map (cj .af))] = some (.row .own 18 (l.map (cj .own)),[.dead]):=by
 rw [az (b:=wF) (rs:=[.t 2]) (n:=1) rfl rfl]
 have hlen:=bk (w:=bR) l
 have h:=Hf  l (by omega) hb
 try simp at h
 simp -implicitDefEqProofs [wF,h,(by omega : (l.length : Int) * 264≤140737488355328)]
 all_goals (repeat' split) <;> first | rfl | omega | (simp_all; done) | (simp_all; omega) | skip
theorem GQ (ps : List (Rp×Rp)) (hb : ps.length≤9223372036854775807) (cM : ∀ x∈ps,bR x.1≤1073741824) : aH (ai (ev LI TT) (ak TT) r8) [(0,.row .af 18 (ps.map (fun x : Rp×Rp=>(cj .af) x.1))),(1,.row .af 18 (ps.map (fun x : Rp×Rp=>(cj .af) x.2))),(5,.int .i64 0)] = if aF bH (ps) = true then some (.exit 0,[(0,.row .af 18 (ps.map (fun x : Rp×Rp=>(cj .af) x.1))),(1,.row .af 18 (ps.map (fun x : Rp×Rp=>(cj .af) x.2))),(5,.int .i64 ps.length),(14,.bool false)]) else some (.ret,[(4,.bool false)]):=by
 refine bX (f:=ai (ev LI TT) (ak TT) r8) (ps) (fun i=>[(0,.row .af 18 (ps.map (fun x : Rp×Rp=>(cj .af) x.1))),(1,.row .af 18 (ps.map (fun x : Rp×Rp=>(cj .af) x.2))),(5,.int .i64 i)]) bH _ _ (fun i b hi hl=>?_) ?_
 ·have hw:=aM i (by first | omega | (simp at hl; omega))
  obtain ⟨_,rfl⟩:=List.getElem?_eq_some_iff.1 hi
  have h:=IL  (ps[i]).1 (ps[i]).2 (cM _ (List.getElem_mem hl)); try simp at h
  simp -implicitDefEqProofs [r8,AK,hl,hw,bH,h]
 ·simp -implicitDefEqProofs [r8,AK]
theorem IM (a b : List Rp) (hb : wL bR a≤1073741824) : ev LI TT 64 [.row .af 18 (a.map (cj .af)),.row .af 18 (b.map (cj .af))] = some (.bool (decide (a = b)),[.dead,.dead]):=by
 rw [az (b:=v7) (rs:=[.t 4]) (n:=2) rfl rfl]
 simp -implicitDefEqProofs [v7]
 have hlen:=bk (w:=bR) a
 by_cases h : a.length = b.length
 ·obtain ⟨ps,rfl,rfl⟩:=iB h
  have h1:=GQ  ps (by simp at hlen; omega) (fun x hx=>Nat.le_trans (dx (List.mem_map_of_mem hx)) hb)
  have h2:=gQ ps
  simp at h1
  rw [← h2]
  cases h3 : aF bH ps <;> rw [h3] at h1 <;> simp [h1,Function.comp_def]
 ·have : ¬ a = b:=fun e=>h (by rw [e])
  simp [this]
  omega
theorem IZ (a : Ca) (n : Int) (hb : uC a) (hn : 0≤n) (hm : n≤9223372036854775807) : ev LI TT 11 [.agg ((cr .af) a),.int .i64 n] = some (.int .i64 (av n (bZ a)),[.dead,.dead]):=by
 rw [az (b:=lR) (rs:=[.t 4]) (n:=2) rfl rfl]
 have hw : bZ a = cg a.aE + wL bz a.aW + wL cq a.seen + wL bR a.sent:=rfl
 have ht:=aX n (bZ a)
 have c1:=Jb  a.aE n hb.OJ (by omega) (by omega)
 have s1:=aX n (cg a.aE)
 obtain ⟨m1,e1⟩ : ∃ m,m = av n (cg a.aE):=⟨_,rfl⟩
 rw [← e1] at c1 s1
 try simp at c1
 by_cases h1 : m1 < 0
 ·have ef : av n (bZ a) = -1:=by omega
  simp -implicitDefEqProofs [lR,c1,h1,ef]
 have c2:=I3  a.aW m1 hb.Oz (by omega) (by omega)
 have s2:=aX m1 (wL bz a.aW)
 obtain ⟨m2,e2⟩ : ∃ m,m = av m1 (wL bz a.aW):=⟨_,rfl⟩
 rw [← e2] at c2 s2
 try simp at c2
 by_cases h2 : m2 < 0
 ·have ef : av n (bZ a) = -1:=by omega
  simp -implicitDefEqProofs [lR,c1,h1,c2,h2,ef]
 have c3:=Ja  a.seen m2 hb.OG (by omega) (by omega)
 have s3:=aX m2 (wL cq a.seen)
 obtain ⟨m3,e3⟩ : ∃ m,m = av m2 (wL cq a.seen):=⟨_,rfl⟩
 rw [← e3] at c3 s3
 try simp at c3
 by_cases h3 : m3 < 0
 ·have ef : av n (bZ a) = -1:=by omega
  simp -implicitDefEqProofs [lR,c1,h1,c2,h2,c3,h3,ef]
 have c4:=I8  a.sent m3 hb.OH (by omega) (by omega)
 have s4:=aX m3 (wL bR a.sent)
 obtain ⟨m4,e4⟩ : ∃ m,m = av m3 (wL bR a.sent):=⟨_,rfl⟩
 rw [← e4] at c4 s4
 try simp at c4
 by_cases h4 : m4 < 0
 ·have ef : av n (bZ a) = -1:=by omega
  simp -implicitDefEqProofs [lR,c1,h1,c2,h2,c3,h3,c4,h4,ef]
 have ef : av n (bZ a) = m4:=by omega
 simp -implicitDefEqProofs [lR,c1,h1,c2,h2,c3,h3,c4,h4,ef]
 all_goals (repeat' split) <;> first | rfl | omega | (simp_all; done) | (simp_all; omega) | skip
theorem Jg (a : Ca) (hb : bZ a≤1048576) : ev LI TT 13 [.agg ((cr .af) a)] = some (.agg ((cr .own) a),[.dead]):=by
 rw [az (b:=wo) (rs:=[.c 2 10 true 48]) (n:=1) rfl rfl]
 have hw : bZ a = cg a.aE + wL bz a.aW + wL cq a.seen + wL bR a.sent:=rfl
 have h1:=Js  a.aE (by omega)
 try simp at h1
 have h2:=Jk  a.aW (by omega)
 try simp at h2
 have h3:=Jr  a.seen (by omega)
 try simp at h3
 have h4:=Jp  a.sent (by omega)
 try simp at h4
 simp -implicitDefEqProofs [wo,h1,h2,h3,h4,hw]
 all_goals (repeat' split) <;> first | rfl | omega | (simp_all; done) | (simp_all; omega) | skip
theorem IC (a b : Ca) (hb : bZ a≤1073741824) : ev LI TT 15 [.agg ((cr .af) a),.agg ((cr .af) b)] = some (.bool (decide (a = b)),[.dead,.dead]):=by
 rw [az (b:=ko) (rs:=[.t 4]) (n:=2) rfl rfl]
 have hw : bZ a = cg a.aE + wL bz a.aW + wL cq a.seen + wL bR a.sent:=rfl
 rw [Kg]
 have c1:=IU  a.aE b.aE (by omega)
 cases g1 : decide (a.aE = b.aE)
 ·rw [g1] at c1
  try simp at c1
  simp -implicitDefEqProofs [ko,c1]
 rw [g1] at c1
 try simp at c1
 have c2:=IG  a.aW b.aW (by omega)
 cases g2 : decide (a.aW = b.aW)
 ·rw [g2] at c2
  try simp at c2
  simp -implicitDefEqProofs [ko,c1,c2]
 rw [g2] at c2
 try simp at c2
 by_cases g3 : a.now = b.now
 rotate_left
 ·simp -implicitDefEqProofs [ko,c1,c2,eq_false g3]
 have c4:=IQ  a.seen b.seen (by omega)
 cases g4 : decide (a.seen = b.seen)
 ·rw [g4] at c4
  try simp at c4
  simp -implicitDefEqProofs [ko,c1,c2,eq_true g3,c4]
 rw [g4] at c4
 try simp at c4
 have c5:=IM  a.sent b.sent (by omega)
 cases g5 : decide (a.sent = b.sent)
 ·rw [g5] at c5
  try simp at c5
  simp -implicitDefEqProofs [ko,c1,c2,eq_true g3,c4,c5]
 rw [g5] at c5
 try simp at c5
 simp -implicitDefEqProofs [ko,c1,c2,eq_true g3,c4,c5]
 all_goals (repeat' split) <;> first | rfl | omega | (simp_all; done) | (simp_all; omega) | skip
end M
namespace M
open Go
@[simp] theorem Up (x : Int) (lo : Int) (hi : Int) : ev LI TT 137 [.int .i64 x,.int .i64 lo,.int .i64 hi] = some (.bool ((decide (lo≤x∧x≤hi))),[.dead,.dead,.dead]):=by
 rw [az (b:=xx) (rs:=[.t 6]) (n:=3) rfl rfl]
 simp -implicitDefEqProofs [xx]
 try (by_cases h1 : lo≤x <;> by_cases h2 : x≤hi <;> simp [h1,h2])
@[simp] theorem Ul (x : Int) (lo : Int) (hi : Int) : ev LI TT 180 [.int .i64 x,.int .i64 lo,.int .i64 hi] = some (.bool ((decide (lo≤x∧x≤hi))),[.dead,.dead,.dead]):=by
 rw [az (b:=vL) (rs:=[.t 6]) (n:=3) rfl rfl]
 simp -implicitDefEqProofs [vL]
 try (by_cases h1 : lo≤x <;> by_cases h2 : x≤hi <;> simp [h1,h2])
theorem HD (s : ah) (hb : s.length≤9223372036854775807) : aH (ai (ev LI TT) (ak TT) tJ) [(0,.str ⟨s.toArray⟩),(3,.int .i64 0)] = if aF nR (s) = true then some (.exit 0,[(0,.str ⟨s.toArray⟩),(3,.int .i64 (s).length),(8,.bool false)]) else some (.ret,[(2,.bool false)]):=by
 refine bX (f:=ai (ev LI TT) (ak TT) tJ) (s) (fun i=>[(0,.str ⟨s.toArray⟩),(3,.int .i64 i)]) nR _ _ (fun i b hi hl=>?_) ?_
 ·have hw:=aM i (by first | omega | (simp at hl; omega))
  obtain ⟨_,rfl⟩:=List.getElem?_eq_some_iff.1 hi
  unfold nR
  simp -implicitDefEqProofs [tJ,BN,hl,hw]
  all_goals (repeat' split) <;> first | rfl | omega | (simp_all; done) | (simp_all; omega) | skip
 ·simp -implicitDefEqProofs [tJ,BN]
theorem yP (s : ah) (hb : s.length≤9223372036854775807) : ev LI TT 184 [.str ⟨s.toArray⟩] = some (.bool ((ek s)),[.dead]):=by
 rw [az (b:=xp) (rs:=[.t 2]) (n:=1) rfl rfl]
 unfold ek
 have u1:=HD  s hb
 try simp at u1
 simp -implicitDefEqProofs [xp,u1]
 all_goals (repeat' split) <;> first | rfl | omega | (simp_all; done) | (simp_all; omega) | skip
theorem GD (s : ah) (hb : s.length≤9223372036854775807) : aH (ai (ev LI TT) (ak TT) rM) [(0,.str ⟨s.toArray⟩),(3,.int .i64 0)] = if aF nR (s) = true then some (.exit 0,[(0,.str ⟨s.toArray⟩),(3,.int .i64 (s).length),(7,.bool false)]) else some (.ret,[(2,.bool false)]):=by
 refine bX (f:=ai (ev LI TT) (ak TT) rM) (s) (fun i=>[(0,.str ⟨s.toArray⟩),(3,.int .i64 i)]) nR _ _ (fun i b hi hl=>?_) ?_
 ·have hw:=aM i (by first | omega | (simp at hl; omega))
  obtain ⟨_,rfl⟩:=List.getElem?_eq_some_iff.1 hi
  unfold nR
  simp -implicitDefEqProofs [rM,Am,hl,hw]
  all_goals (repeat' split) <;> first | rfl | omega | (simp_all; done) | (simp_all; omega) | skip
 ·simp -implicitDefEqProofs [rM,Am]
theorem yw (s : ah) (hb : s.length≤9223372036854775807) : ev LI TT 260 [.str ⟨s.toArray⟩] = some (.bool ((ek s)),[.dead]):=by
 rw [az (b:=vE) (rs:=[.t 2]) (n:=1) rfl rfl]
 unfold ek
 have u1:=GD  s hb
 try simp at u1
 simp -implicitDefEqProofs [vE,u1]
 all_goals (repeat' split) <;> first | rfl | omega | (simp_all; done) | (simp_all; omega) | skip
theorem GG (s : ah) (lo : UInt8) (hb : s.length≤9223372036854775807) : aH (ai (ev LI TT) (ak TT) rO) [(0,.str ⟨s.toArray⟩),(1,.int .u8 (lo.toNat : Int)),(5,.int .i64 0)] = if aF (fQ lo.toNat) (s) = true then some (.exit 0,[(0,.str ⟨s.toArray⟩),(1,.int .u8 (lo.toNat : Int)),(5,.int .i64 (s).length),(9,.bool false)]) else some (.ret,[(4,.bool false)]):=by
 refine bX (f:=ai (ev LI TT) (ak TT) rO) (s) (fun i=>[(0,.str ⟨s.toArray⟩),(1,.int .u8 (lo.toNat : Int)),(5,.int .i64 i)]) (fQ lo.toNat) _ _ (fun i b hi hl=>?_) ?_
 ·have hw:=aM i (by first | omega | (simp at hl; omega))
  obtain ⟨_,rfl⟩:=List.getElem?_eq_some_iff.1 hi
  unfold fQ
  simp -implicitDefEqProofs [rO,Ao,hl,hw]
  all_goals (repeat' split) <;> first | rfl | omega | (simp_all; done) | (simp_all; omega) | skip
 ·simp -implicitDefEqProofs [rO,Ao]
theorem CI (s : ah) (lo : UInt8) (hb : s.length≤9223372036854775807) : ev LI TT 305 [.str ⟨s.toArray⟩,.int .u8 (lo.toNat : Int)] = some (.bool ((aF (fQ lo.toNat) s)),[.dead,.dead]):=by
 rw [az (b:=vH) (rs:=[.t 4]) (n:=2) rfl rfl]
 have u1:=GG  s lo hb
 try simp at u1
 simp -implicitDefEqProofs [vH,u1]
 all_goals (repeat' split) <;> first | rfl | omega | (simp_all; done) | (simp_all; omega) | skip
end M
namespace M
open Go
def dr (b : UInt8) : Bool:=decide ¬ (b.toNat : Int) = 32
theorem HE (s : ah) (hb : s.length≤9223372036854775807) : aH (ai (ev LI TT) (ak TT) tK) [(0,.str ⟨s.toArray⟩),(3,.int .i64 0),(4,.int .i64 s.length)] = some (.exit 0,(fun (i : Nat)=>[(0,.str ⟨s.toArray⟩),(3,.int .i64 i),(4,.int .i64 s.length),(15,.bool false)]) (cJ dr (s))):=by
 refine EX (f:=ai (ev LI TT) (ak TT) tK) (s) (fun i=>[(0,.str ⟨s.toArray⟩),(3,.int .i64 i),(4,.int .i64 s.length)]) dr (fun (i : Nat)=>[(0,.str ⟨s.toArray⟩),(3,.int .i64 i),(4,.int .i64 s.length),(15,.bool false)]) (fun i b hi hl=>?_) ?_
 ·have hw:=aM i (by first | omega | (simp at hl; omega))
  obtain ⟨_,rfl⟩:=List.getElem?_eq_some_iff.1 hi
  simp -implicitDefEqProofs [tK,BO,hl,hw,dr]
  all_goals (repeat' split) <;> first | rfl | omega | (simp_all; done) | (simp_all; omega) | skip
 ·simp -implicitDefEqProofs [tK,BO]
theorem HF (s : ah) (k : Nat) (hk : k≤s.length) (hb : s.length≤9223372036854775807) : aH (ai (ev LI TT) (ak TT) tL) [(0,.str ⟨s.toArray⟩),(3,.int .i64 k),(4,.int .i64 ((s.length - 0 : Nat) : Int))] = some (.exit 2,(fun (i : Nat)=>[(0,.str ⟨s.toArray⟩),(3,.int .i64 k),(4,.int .i64 ((s.length - i : Nat) : Int)),(27,.bool false)]) (cJ dr ((s.drop k).reverse))):=by
 refine EX (f:=ai (ev LI TT) (ak TT) tL) ((s.drop k).reverse) (fun i=>[(0,.str ⟨s.toArray⟩),(3,.int .i64 k),(4,.int .i64 ((s.length - i : Nat) : Int))]) dr (fun (i : Nat)=>[(0,.str ⟨s.toArray⟩),(3,.int .i64 k),(4,.int .i64 ((s.length - i : Nat) : Int)),(27,.bool false)]) (fun i b hi hl=>?_) ?_
 ·have hw:=aM i (by first | omega | (simp at hl; omega))
  obtain ⟨_,rfl⟩:=List.getElem?_eq_some_iff.1 hi
  simp at hl
  obtain ⟨m,hm⟩ : ∃ m,s.length - i = m + 1:=⟨s.length - i - 1,by omega⟩
  have e1 : s.length - (i + 1) = m:=by omega
  have e2 : IntKind.i64.wrap (m : Int) = m:=cz (by omega) (by omega)
  have e3 : m < s.length:=by omega
  have e4 : ((s.drop k).reverse)[i] = s[m]:=by simp; congr 1; omega
  have e5 : (k : Int) < (m : Int) + 1:=by omega
  rw [e4,hm,e1]
  simp -implicitDefEqProofs [tL,BP,hl,hw,dr,e2,e3,e5]
  try (rw [List.getElem?_eq_getElem e3]; simp [e2])
  all_goals (repeat' split) <;> first | rfl | omega | (simp_all; done) | (simp_all; omega) | skip
 ·simp only [List.length_reverse,List.length_drop,show s.length - (s.length - k) = k by omega]
  simp -implicitDefEqProofs [tL,BP]
end M
namespace M
open Go
theorem E7 (b : UInt8) : dr b = true↔b≠32:=by
 unfold dr
 have : ((b.toNat : Int) = 32)↔b = 32:=by
  constructor
  ·intro h; exact UInt8.toNat_inj.1 (by have e : (32 : UInt8).toNat = 32:=rfl; omega)
  ·rintro rfl; rfl
 simp [this]
theorem F5 (s : ah) : Lib.trimLeftB s 32 = s.drop (cJ dr s):=by
 refine Lib.trimLeftB_drop s 32 _ (xU _ _) (fun j b hj hb=>?_) fun b hb=>(E7 b).1 (Gc _ _ _ hb)
 have:=Gd _ _ _ _ hj hb
 by_cases h : b = 32
 ·exact h
 ·rw [(E7 b).2 h] at this; cases this
theorem TE (s : ah) : Lib.trimRightB s 32 = s.take (s.length - cJ dr s.reverse):=by
 have h:=F5 s.reverse
 unfold Lib.trimLeftB at h
 unfold Lib.trimRightB
 rw [h,List.drop_reverse,List.reverse_reverse]
theorem TF (s : ah) : (s.drop (cJ dr s)).take (s.length - cJ dr (s.drop (cJ dr s)).reverse - cJ dr s) = dG s:=by
 rw [TG,F5,TE,List.length_drop]
 congr 1
 omega
theorem yQ (s : ah) (hb : s.length≤9223372036854775807) : ev LI TT 264 [.str ⟨s.toArray⟩] = some (.str ⟨(dG s).toArray⟩,[.dead]):=by
 rw [az (b:=xq) (rs:=[.t 2]) (n:=1) rfl rfl]
 have h1:=xU dr s
 have h2:=xU dr (s.drop (cJ dr s)).reverse
 simp only [List.length_reverse,List.length_drop] at h2
 have h3:=TF s
 have u1:=HE  s hb
 try simp at u1
 have u2:=HF  s (cJ dr s) (xU _ _) hb
 try simp at u2
 simp -implicitDefEqProofs [xq,u1,u2,(by omega : (cJ dr s : Int)≤((s.length - cJ dr (s.drop (cJ dr s)).reverse : Nat) : Int)),(by omega : ((s.length - cJ dr (s.drop (cJ dr s)).reverse : Nat) : Int)≤s.length),Lib.extract_mk,h3]
 all_goals (repeat' split) <;> first | rfl | omega | (simp_all; done) | (simp_all; omega) | skip
theorem CH (s : ah) (hb : s.length≤9223372036854775807) : ev LI TT 306 [.str ⟨s.toArray⟩] = some (.str ⟨(dG s).toArray⟩,[.dead]):=by
 rw [az (b:=vF) (rs:=[.t 2]) (n:=1) rfl rfl]
 have u1:=JT  s hb
 try simp at u1
 simp -implicitDefEqProofs [vF,u1]
 all_goals (repeat' split) <;> first | rfl | omega | (simp_all; done) | (simp_all; omega) | skip
theorem HG (s : ah) (hb : s.length≤9223372036854775807) : aH (ai (ev LI TT) (ak TT) tM) [(0,.str ⟨s.toArray⟩),(3,.int .i64 0)] = if aF (fQ 32) (s) = true then some (.exit 0,[(0,.str ⟨s.toArray⟩),(3,.int .i64 (s).length),(7,.bool false)]) else some (.ret,[(2,.bool false)]):=by
 refine bX (f:=ai (ev LI TT) (ak TT) tM) (s) (fun i=>[(0,.str ⟨s.toArray⟩),(3,.int .i64 i)]) (fQ 32) _ _ (fun i b hi hl=>?_) ?_
 ·have hw:=aM i (by first | omega | (simp at hl; omega))
  obtain ⟨_,rfl⟩:=List.getElem?_eq_some_iff.1 hi
  unfold fQ
  simp -implicitDefEqProofs [tM,BQ,hl,hw]
  all_goals (repeat' split) <;> first | rfl | omega | (simp_all; done) | (simp_all; omega) | skip
 ·simp -implicitDefEqProofs [tM,BQ]
theorem yR (s : ah) (hb : s.length≤9223372036854775807) : ev LI TT 185 [.str ⟨s.toArray⟩] = some (.bool ((gp s)),[.dead]):=by
 rw [az (b:=nM) (rs:=[.t 2]) (n:=1) rfl rfl]
 unfold gp
 have u1:=HG  s hb
 try simp at u1
 have u2:=yQ  s hb
 try simp at u2
 by_cases g1 : aF (fQ 32) s = true
 rotate_left
 ·simp -implicitDefEqProofs [nM,u1,u2,g1]
 by_cases g2 : 1≤(s.length : Int)
 rotate_left
 ·simp -implicitDefEqProofs [nM,u1,u2,g1,eq_false g2]
 by_cases g3 : (s.length : Int)≤60
 rotate_left
 ·simp -implicitDefEqProofs [nM,u1,u2,g1,eq_true g2,eq_false g3]
 simp -implicitDefEqProofs [nM,u1,u2,g1,eq_true g2,eq_true g3]
 all_goals (repeat' split) <;> first | rfl | omega | (simp_all; done) | (simp_all; omega) | skip
theorem yx (s : ah) (hb : s.length≤9223372036854775807) : ev LI TT 261 [.str ⟨s.toArray⟩] = some (.bool ((gp s)),[.dead]):=by
 rw [az (b:=mU) (rs:=[.t 2]) (n:=1) rfl rfl]
 unfold gp
 have U8 : (32 : UInt8).toNat = 32:=rfl
 have u1:=CI  s 32 hb
 try simp at u1
 have u2:=CH  s hb
 try simp at u2
 by_cases g1 : 1≤(s.length : Int)
 rotate_left
 ·simp -implicitDefEqProofs [mU,u1,u2,eq_false g1]
 by_cases g2 : (s.length : Int)≤60
 rotate_left
 ·simp -implicitDefEqProofs [mU,u1,u2,eq_true g1,eq_false g2]
 by_cases g3 : aF (fQ 32) s = true
 rotate_left
 ·simp -implicitDefEqProofs [mU,u1,u2,eq_true g1,eq_true g2,g3]
 simp -implicitDefEqProofs [mU,u1,u2,eq_true g1,eq_true g2,g3]
 all_goals (repeat' split) <;> first | rfl | omega | (simp_all; done) | (simp_all; omega) | skip
theorem HK (s : ah) (hb : s.length≤9223372036854775807) : aH (ai (ev LI TT) (ak TT) tQ) [(0,.str ⟨s.toArray⟩),(3,.int .i64 0)] = if aF (fQ 33) (s) = true then some (.exit 0,[(0,.str ⟨s.toArray⟩),(3,.int .i64 (s).length),(7,.bool false)]) else some (.ret,[(2,.bool false)]):=by
 refine bX (f:=ai (ev LI TT) (ak TT) tQ) (s) (fun i=>[(0,.str ⟨s.toArray⟩),(3,.int .i64 i)]) (fQ 33) _ _ (fun i b hi hl=>?_) ?_
 ·have hw:=aM i (by first | omega | (simp at hl; omega))
  obtain ⟨_,rfl⟩:=List.getElem?_eq_some_iff.1 hi
  unfold fQ
  simp -implicitDefEqProofs [tQ,BT,hl,hw]
  all_goals (repeat' split) <;> first | rfl | omega | (simp_all; done) | (simp_all; omega) | skip
 ·simp -implicitDefEqProofs [tQ,BT]
theorem yS (s : ah) (hb : s.length≤9223372036854775807) : ev LI TT 160 [.str ⟨s.toArray⟩] = some (.bool ((fP s)),[.dead]):=by
 rw [az (b:=nN) (rs:=[.t 2]) (n:=1) rfl rfl]
 unfold fP
 have u1:=HK  s hb
 try simp at u1
 by_cases g1 : aF (fQ 33) s = true
 rotate_left
 ·simp -implicitDefEqProofs [nN,u1,g1]
 by_cases g2 : 1≤(s.length : Int)
 rotate_left
 ·simp -implicitDefEqProofs [nN,u1,g1,eq_false g2]
 by_cases g3 : (s.length : Int)≤60
 rotate_left
 ·simp -implicitDefEqProofs [nN,u1,g1,eq_true g2,eq_false g3]
 obtain ⟨b,hb0⟩ : ∃ b,s[0]? = some b:=⟨s[0]'(by omega),by simp⟩
 simp -implicitDefEqProofs [nN,u1,g1,eq_true g2,eq_true g3,hb0]
 all_goals (repeat' split) <;> first | rfl | omega | (simp_all; done) | (simp_all; omega) | skip
theorem yy (s : ah) (hb : s.length≤9223372036854775807) : ev LI TT 259 [.str ⟨s.toArray⟩] = some (.bool ((fP s)),[.dead]):=by
 rw [az (b:=oL) (rs:=[.t 2]) (n:=1) rfl rfl]
 unfold fP
 have U9 : (33 : UInt8).toNat = 33:=rfl
 have u1:=CI  s 33 hb
 try simp at u1
 by_cases g1 : 1≤(s.length : Int)
 rotate_left
 ·simp -implicitDefEqProofs [oL,u1,eq_false g1]
 by_cases g2 : (s.length : Int)≤60
 rotate_left
 ·simp -implicitDefEqProofs [oL,u1,eq_true g1,eq_false g2]
 obtain ⟨b,hb0⟩ : ∃ b,s[0]? = some b:=⟨s[0]'(by omega),by simp⟩
 by_cases Nj : (b.toNat : Int) = 47
 all_goals
 simp -implicitDefEqProofs [oL,u1,eq_true g1,eq_true g2,hb0,Nj]
 all_goals (repeat' split) <;> first | rfl | omega | (simp_all; done) | (simp_all; omega) | skip
@[simp] theorem Uo (t : Int) : ev LI TT 143 [.int .i64 t] = some (.bool ((decide (0≤t∧t≤1000000))),[.dead]):=by
 rw [az (b:=vP) (rs:=[.t 2]) (n:=1) rfl rfl]
 simp -implicitDefEqProofs [vP]
 all_goals (repeat' split) <;> first | rfl | omega | (simp_all; done) | (simp_all; omega) | skip
end M
namespace M
open Go
theorem Hu (s : ah) (hb : s.length≤1073741824) : aH (ai (ev LI TT) (ak TT) nH) [(0,.str ⟨s.toArray⟩),(3,.row .own 1 (([]).map eU)),(4,.int .i64 0)] = some (.exit 0,[(0,.str ⟨s.toArray⟩),(3,.row .own 1 ((((s).flatMap (fun b=>[iU b]))).map eU)),(4,.int .i64 (s).length),(10,.bool false)]):=by
 refine Bc (f:=ai (ev LI TT) (ak TT) nH) (s) (fun b=>[iU b]) (fun i out=>[(0,.str ⟨s.toArray⟩),(3,.row .own 1 ((out).map eU)),(4,.int .i64 i)]) (fun out=>[(0,.str ⟨s.toArray⟩),(3,.row .own 1 ((out).map eU)),(4,.int .i64 (s).length),(10,.bool false)]) (fun i b out hi hl hout=>?_) (fun out hout=>?_)
 ·have hw:=aM i (by first | omega | (simp at hl; omega))
  obtain ⟨_,rfl⟩:=List.getElem?_eq_some_iff.1 hi
  have hlo : out.length = i:=by rw [hout]; exact DL _ _ _ (by omega)
  have hx:=s[i].toNat_lt
  unfold iU
  by_cases h1 : 65≤(s[i]).toNat
  rotate_left
  ·have h1' : ¬ (65 : Int)≤(s[i]).toNat:=by omega
   simp -implicitDefEqProofs [nH,tF,hl,hw,h1,h1',hlo,gP]
   omega
  by_cases h2 : (s[i]).toNat≤90
  rotate_left
  ·have h1' : (65 : Int)≤(s[i]).toNat:=by omega
   have mG : ¬ ((s[i]).toNat : Int)≤90:=by omega
   have zI : 90 < ((s[i]).toNat : Int):=by omega
   simp -implicitDefEqProofs [nH,tF,hl,hw,h1,h1',h2,mG,zI,hlo,gP]
   omega
  have h1' : (65 : Int)≤(s[i]).toNat:=by omega
  have mG : ((s[i]).toNat : Int)≤90:=by omega
  have h3:=EY s[i] ⟨h1,h2⟩
  have h4 : IntKind.u8.wrap ((s[i]).toNat + 32) = (s[i]).toNat + 32:=Gl (by omega) (by omega)
  simp -implicitDefEqProofs [nH,tF,hl,hw,h1,h1',h2,mG,hlo,gP,h3,h4]
  omega
 ·simp -implicitDefEqProofs [nH,tF]
theorem CR (s : ah) (hb : s.length≤1073741824) : ev LI TT 254 [.str ⟨s.toArray⟩] = some (.str ⟨(bt s).toArray⟩,[.dead]):=by
 rw [az (b:=xl) (rs:=[.t 2]) (n:=1) rfl rfl]
 have hl : (bt s).length = s.length:=by simp [bt]
 have e : s.flatMap (fun b=>[iU b]) = bt s:=zx iU s
 have u1:=Hu  s hb
 try simp at u1
 simp -implicitDefEqProofs [xl,u1,e,hl,rowAt,(by omega : s.length≤9223372036854775807)]
 all_goals (repeat' split) <;> first | rfl | omega | (simp_all; done) | (simp_all; omega) | skip
theorem QK (s : ah) (i : Nat) (h : i < s.length) (x : UInt8) (hx : x = iU s[i]) : (bt (s.take i) ++ s.drop i).set i x = bt (s.take (i + 1)) ++ s.drop (i + 1):=by
 subst hx
 rw [List.set_append_right _ _ (by simp [bt]; omega),List.drop_eq_getElem_cons h]
 have : i - (bt (s.take i)).length = 0:=by simp [bt]; omega
 rw [this,List.take_succ_eq_append_getElem h]
 simp only [List.set_cons_zero,bt,List.map_append,List.map_cons,List.map_nil,List.append_assoc,List.cons_append,List.nil_append]
theorem FK (s : ah) (i : Nat) (h : i < s.length) (hx : iU s[i] = s[i]) : bt (s.take i) ++ s.drop i = bt (s.take (i + 1)) ++ s.drop (i + 1):=by
 rw [List.take_succ_eq_append_getElem h,List.drop_eq_getElem_cons h]
 simp only [bt,hx,List.map_append,List.map_cons,List.map_nil,List.append_assoc,List.cons_append,List.nil_append]
theorem KB (l : ah) (i : Nat) (x : Int) (b : UInt8) (hx : x = (b.toNat : Int)) : (l.map eU).modify i (fun e=>e.set 0 (X.int .u8 x)) = (l.set i b).map eU:=by
 subst hx
 apply List.ext_getElem?
 intro j
 rw [List.getElem?_modify,List.getElem?_map,List.getElem?_map,List.getElem?_set]
 by_cases h : i = j
 ·subst h
  by_cases h2 : i < l.length
  ·simp [h2]
  ·simp [h2,List.getElem?_eq_none (Nat.le_of_not_lt h2)]
 ·simp only [h,if_false]
  cases l[j]? <;> rfl
theorem Gz (s : ah) (hb : s.length≤1073741824) : aH (ai (ev LI TT) (ak TT) mS) [(3,.row .own 1 ((bt (s.take 0) ++ s.drop 0).map eU)),(6,.str ⟨s.toArray⟩),(8,.ref 3 []),(9,.int .i64 s.length),(10,.int .i64 0)] = some (.exit 0,[(3,.row .own 1 ((bt s).map eU)),(6,.str ⟨s.toArray⟩),(8,.ref 3 []),(9,.int .i64 s.length),(10,.int .i64 (s).length),(11,.bool false)]):=by
 refine iT (f:=ai (ev LI TT) (ak TT) mS) (s) (fun i=>[(3,.row .own 1 ((bt (s.take i) ++ s.drop i).map eU)),(6,.str ⟨s.toArray⟩),(8,.ref 3 []),(9,.int .i64 s.length),(10,.int .i64 i)]) _ (fun i b hi hl=>?_) ?_
 ·have hw:=aM i (by first | omega | (simp at hl; omega))
  obtain ⟨_,rfl⟩:=List.getElem?_eq_some_iff.1 hi
  have hk : (bt (s.take i) ++ s.drop i).length = s.length:=by simp [bt]; omega
  have hx:=s[i].toNat_lt
  have hg : (bt (s.take i) ++ s.drop i)[i]? = some s[i]:=by rw [List.getElem?_append_right (by simp [bt]; omega)]; simp [bt,Nat.min_eq_left (Nat.le_of_lt hl)]
  have hg' : ∀ h,(bt (s.take i) ++ s.drop i)[i]'h = s[i]:=fun h=>by rw [List.getElem?_eq_getElem h] at hg; exact Option.some.inj hg
  generalize hq : bt (s.take i) ++ s.drop i = q at hk hg hg' ⊢
  have mK : i < q.length:=by omega
  by_cases h1 : 65≤(s[i]).toNat
  rotate_left
  ·have h1' : ¬ (65 : Int)≤(s[i]).toNat:=by omega
   have e:=FK s i hl (by unfold iU; rw [if_neg (by omega)])
   rw [hq] at e
   simp -implicitDefEqProofs [mS,rJ,hl,hw,hg,hg',mK,h1',← e]
  by_cases h2 : (s[i]).toNat≤90
  rotate_left
  ·have h1' : (65 : Int)≤(s[i]).toNat:=by omega
   have zI : 90 < ((s[i]).toNat : Int):=by omega
   have mG : ¬ ((s[i]).toNat : Int)≤90:=by omega
   have e:=FK s i hl (by unfold iU; rw [if_neg (by omega)])
   rw [hq] at e
   simp -implicitDefEqProofs [mS,rJ,hl,hw,hg,hg',mK,h1',mG,zI,← e]
  have h1' : (65 : Int)≤(s[i]).toNat:=by omega
  have mG : ((s[i]).toNat : Int)≤90:=by omega
  have h3:=EY s[i] ⟨h1,h2⟩
  have h4 : IntKind.u8.wrap ((s[i]).toNat + 32) = (s[i]).toNat + 32:=Gl (by omega) (by omega)
  have e:=QK s i hl (s[i] + 32) (by unfold iU; rw [if_pos ⟨h1,h2⟩])
  rw [hq] at e
  have e2:=KB q i _ (s[i] + 32) (show ((s[i]).toNat : Int) + 32 = _ by rw [h3]; rfl)
  rw [e] at e2
  simp -implicitDefEqProofs [mS,rJ,hl,hw,hg,hg',mK,h1',mG,h4,e2]
  all_goals (repeat' split) <;> first | rfl | omega | (simp_all; done) | (simp_all; omega) | skip
 ·simp only [List.take_length,List.drop_length,List.append_nil]
  simp -implicitDefEqProofs [mS,rJ]
theorem CE (s : ah) (hb : s.length≤1073741824) : ev LI TT 299 [.str ⟨s.toArray⟩] = some (.str ⟨(bt s).toArray⟩,[.dead]):=by
 rw [az (b:=vz) (rs:=[.t 2]) (n:=1) rfl rfl]
 have hl : (bt s).length = s.length:=by simp [bt]
 have e0 : bt (s.take 0) ++ s.drop 0 = s:=by simp [bt]
 have u1:=Gz  s hb
 try simp at u1
 simp -implicitDefEqProofs [vz,u1,hl,rowAt,(by omega : s.length≤9223372036854775807)]
 all_goals (repeat' split) <;> first | rfl | omega | (simp_all; done) | (simp_all; omega) | skip
@[simp] theorem Ur (x : Int) (y : Int) : ev LI TT 55 [.int .i64 x,.int .i64 y] = some (.int .i64 ((if x < y then x else y)),[.dead,.dead]):=by
 rw [az (b:=xA) (rs:=[.t 4]) (n:=2) rfl rfl]
 simp -implicitDefEqProofs [xA]
 all_goals (repeat' split) <;> first | rfl | omega | (simp_all; done) | (simp_all; omega) | skip
@[simp] theorem Uq (x : Int) (y : Int) : ev LI TT 54 [.int .i64 x,.int .i64 y] = some (.int .i64 ((if y < x then x else y)),[.dead,.dead]):=by
 rw [az (b:=xy) (rs:=[.t 4]) (n:=2) rfl rfl]
 simp -implicitDefEqProofs [xy]
 all_goals (repeat' split) <;> first | rfl | omega | (simp_all; done) | (simp_all; omega) | skip
end M
namespace M
open Go
theorem Hx (n : Nat) (out : ah) (hn : out.length + n≤9223372036854775807) : aH (ai (ev LI TT) (ak TT) BJ) [(0,.int .i64 n),(3,.str ⟨out.toArray⟩)] = some (.exit 0,[(0,.int .i64 0),(3,.str ⟨(nu n out).toArray⟩),(10,.bool false)]):=by
 have hs : ∀ s,ai (ev LI TT) (ak TT) BJ s = ai (ev LI TT) (ak TT) xm s:=fun _=>rfl
 induction n using Nat.strongRecOn generalizing out with
 | ind n ih =>
  rw [iS,hs]
  unfold nu
  by_cases h : n = 0
  ·subst h
   simp -implicitDefEqProofs [xm]
  ·have hp : 0 < n:=by omega
   have:=ih (n / 10) (by omega) (UInt8.ofNat (48 + n % 10) :: out) (by rw [List.length_cons]; omega)
   have e1 : ((n : Int)).tmod 10 = ((n % 10 : Nat) : Int):=by rw [Int.tmod_eq_emod_of_nonneg (by omega)]; omega
   have e4 : ((n : Int)).tdiv 10 = ((n / 10 : Nat) : Int):=by rw [Int.tdiv_eq_ediv_of_nonneg (by omega)]; omega
   have e2 : IntKind.i64.wrap (48 + ((n % 10 : Nat) : Int)) = ((48 + n % 10 : Nat) : Int):=by rw [cz (by omega) (by omega)]; omega
   have e3 : IntKind.u8.wrap ((48 + n % 10 : Nat) : Int) = ((48 + n % 10 : Nat) : Int):=Gm (by omega) (by omega)
   have e5:=TJ (48 + n % 10) (by omega)
   have e6 : IntKind.i64.wrap ((n / 10 : Nat) : Int) = ((n / 10 : Nat) : Int):=cz (by omega) (by omega)
   simp only [h,dite_false]
   rw [← this]
   simp -implicitDefEqProofs [xm,hp,Ba,e1,e2,e3,e4,e5,e6,-Int.natCast_emod,-Int.natCast_ediv,-Int.natCast_add,-UInt8.ofNat_add,Q0,(by omega : 1 + out.length≤9223372036854775807)]
theorem JD (n : Int) : ev LI TT 189 [.int .i64 n] = some (.str ⟨(nx n).toArray⟩,[.dead]):=by
 rw [az (b:=pW) (rs:=[.t 2]) (n:=1) rfl rfl]
 unfold nx
 by_cases hn : 0≤n∧n≤1000000
 rotate_left
 ·have hf : (decide (0≤n) && decide (n≤1000000)) = false:=by simp; omega
  simp -implicitDefEqProofs [pW,hn,hf]
 obtain ⟨k,rfl⟩ : ∃ k : Nat,n = k:=⟨n.toNat,by omega⟩
 by_cases h : k = 0
 ·subst h; simp -implicitDefEqProofs [pW,Kv]
 have h1:=Hx k [] (by simp; omega)
 rw [OX k [] h,List.append_nil] at h1
 simp -implicitDefEqProofs [pW,hn,h,h1]
 all_goals (repeat' split) <;> first | rfl | omega | (simp_all; done) | (simp_all; omega) | skip
theorem Hv (s : ah) (hb : s.length≤7) (hd : aF eu s = true) (g : Nat) (hinv : g < 10 ^ 0) : aH (ai (ev LI TT) (ak TT) je) [(0,.str ⟨s.toArray⟩),(4,.int .i64 (g : Nat)),(5,.int .i64 0)] = some (.exit 0,[(0,.str ⟨s.toArray⟩),(4,.int .i64 ((foldI (fun _ g b=>10 * g + b.toNat - 48) 0 (s) g) : Nat)),(5,.int .i64 (s).length),(16,.bool false)]):=by
 refine EW (f:=ai (ev LI TT) (ak TT) je) (s) (fun i (g : Nat)=>[(0,.str ⟨s.toArray⟩),(4,.int .i64 (g : Nat)),(5,.int .i64 i)]) (fun _ g b=>10 * g + b.toNat - 48) (fun g=>[(0,.str ⟨s.toArray⟩),(4,.int .i64 (g : Nat)),(5,.int .i64 (s).length),(16,.bool false)]) (fun i (g : Nat)=>g < 10 ^ i) g hinv (fun i b g hi hl hinv=>?_) (fun i b g hi hinv=>?_) (fun g hinv=>?_)
 ·have hw:=aM i (by first | omega | (simp at hl; omega))
  obtain ⟨_,rfl⟩:=List.getElem?_eq_some_iff.1 hi
  have hx:=kS.1 hd s[i] (List.getElem_mem hl)
  simp only [eu,decide_eq_true_eq] at hx
  have hp : 10 ^ i≤10 ^ 6:=Nat.pow_le_pow_right (by omega) (by omega)
  have h1 : ¬ ((s[i]).toNat : Int) < 48:=by omega
  have h2 : ¬ 57 < ((s[i]).toNat : Int):=by omega
  have e1 : IntKind.i64.wrap (10 * (g : Int)) = 10 * g:=cz (by omega) (by omega)
  have e0 : IntKind.i64.wrap ((s[i]).toNat : Int) = (s[i]).toNat:=cz (by omega) (by omega)
  have e2 : IntKind.i64.wrap (10 * (g : Int) + (s[i]).toNat) = 10 * g + (s[i]).toNat:=cz (by omega) (by omega)
  have e3 : IntKind.i64.wrap (10 * (g : Int) + (s[i]).toNat - 48) = ((10 * g + (s[i]).toNat - 48 : Nat) : Int):=by rw [cz (by omega) (by omega)]; omega
  simp -implicitDefEqProofs [je,nI,hl,hw,h1,h2,e0,e1,e2,e3]
 ·obtain ⟨hl,rfl⟩:=List.getElem?_eq_some_iff.1 hi
  have hx:=kS.1 hd s[i] (List.getElem_mem hl)
  simp only [eu,decide_eq_true_eq] at hx
  rw [Nat.pow_succ]; omega
 ·simp -implicitDefEqProofs [je,nI]
theorem Hw (s : ah) (hb : s.length≤7) (hd : ¬ aF eu s = true) : aH (ai (ev LI TT) (ak TT) je) [(0,.str ⟨s.toArray⟩),(4,.int .i64 0),(5,.int .i64 0)] = some (.ret,[(2,.int .i64 0),(3,.bool false)]):=by
 have key:=wT (xt:=0) (f:=ai (ev LI TT) (ak TT) je) s (fun i (g : Nat)=>[(0,.str ⟨s.toArray⟩),(4,.int .i64 (g : Int)),(5,.int .i64 i)]) (fun b g=>if eu b = true then .inl (10 * g + b.toNat - 48) else .inr (.ret,[(2,.int .i64 0),(3,.bool false)])) (fun g=>[(0,.str ⟨s.toArray⟩),(4,.int .i64 (g : Int)),(5,.int .i64 s.length),(16,.bool false)]) (fun i g=>g < 10 ^ i) 0 (by decide) (fun i b g hi hl hinv=>?_) (fun i b g g' hi hinv hg=>?_) (fun g hg=>?_)
 ·have hr : ∀ (r : ah) (g : Nat),¬ aF eu r = true→iu (fun (b : UInt8) (g : Nat)=>if eu b = true then (.inl (10 * g + b.toNat - 48) : Nat ⊕ (Ex×ag)) else .inr (.ret,[(2,.int .i64 0),(3,.bool false)])) r g = .inr (.ret,[(2,.int .i64 0),(3,.bool false)]):=by
   intro r
   induction r with
   | nil=>intro g h; exact absurd rfl h
   | cons b r ih =>
    intro g h
    simp only [iu]
    by_cases hb : eu b = true
    ·simp only [hb,if_true]
     exact ih _ fun h'=>h (by rw [kS] at h' ⊢; intro x hx; rcases List.mem_cons.1 hx with rfl | hx; exact hb; exact h' x hx)
    ·simp [hb]
  rw [hr s 0 hd] at key
  simpa [lv] using key
 ·have hw:=aM i (by omega)
  obtain ⟨_,rfl⟩:=List.getElem?_eq_some_iff.1 hi
  by_cases h : eu s[i] = true
  ·have hx:=h
   simp only [eu,decide_eq_true_eq] at hx
   have hp : 10 ^ i≤10 ^ 6:=Nat.pow_le_pow_right (by omega) (by omega)
   have h1 : ¬ ((s[i]).toNat : Int) < 48:=by omega
   have h2 : ¬ 57 < ((s[i]).toNat : Int):=by omega
   have e1 : IntKind.i64.wrap (10 * (g : Int)) = 10 * g:=cz (by omega) (by omega)
   have e0 : IntKind.i64.wrap ((s[i]).toNat : Int) = (s[i]).toNat:=cz (by omega) (by omega)
   have e2 : IntKind.i64.wrap (10 * (g : Int) + (s[i]).toNat) = 10 * g + (s[i]).toNat:=cz (by omega) (by omega)
   have e3 : IntKind.i64.wrap (10 * (g : Int) + (s[i]).toNat - 48) = ((10 * g + (s[i]).toNat - 48 : Nat) : Int):=by rw [cz (by omega) (by omega)]; omega
   simp -implicitDefEqProofs [je,nI,hl,hw,h,h1,h2,e0,e1,e2,e3]
  ·have hx:=h
   simp only [eu,decide_eq_true_eq] at hx
   by_cases h1 : ((s[i]).toNat : Int) < 48
   ·simp -implicitDefEqProofs [je,nI,hl,hw,h,h1,lv]
   ·have h2 : 57 < ((s[i]).toNat : Int):=by omega
    simp -implicitDefEqProofs [je,nI,hl,hw,h,h1,h2,lv]
 ·obtain ⟨hl,rfl⟩:=List.getElem?_eq_some_iff.1 hi
  split at hg
  ·rename_i hx
   simp only [eu,decide_eq_true_eq] at hx
   injection hg with hg
   rw [Nat.pow_succ]; omega
  ·cases hg
 ·simp -implicitDefEqProofs [je,nI]
theorem DN {β γ : Type} (go : γ→β→γ) : ∀ (l : List β) (i : Nat) (g : γ),foldI (fun _ g b=>go g b) i l g = l.foldl go g
 | [],_,_=>rfl
 | b :: l,i,g=>by rw [foldI,DN go l,List.foldl_cons]
theorem JC (s : ah) (hb : s.length≤9223372036854775807) : ev LI TT 216 [.str ⟨s.toArray⟩] = some (.au [.int .i64 ((((cO s).getD 0 : Nat) : Int)),.bool ((cO s).isSome)],[.dead]):=by
 rw [az (b:=lY) (rs:=[.t 2,.t 3]) (n:=1) rfl rfl]
 by_cases h7 : 7 < s.length
 ·have qP : 7 < (s.length : Int):=by omega
  have hn : ¬ s = []:=by rintro rfl; simp at h7
  simp -implicitDefEqProofs [lY,E8 s h7,qP,hn]
 have qP : ¬ 7 < (s.length : Int):=by omega
 rw [Pp s (by omega)]
 by_cases h0 : s = []
 ·subst h0; simp -implicitDefEqProofs [lY]
 by_cases hd : aF eu s = true
 rotate_left
 ·have u1:=Hw s (by omega) hd
  simp -implicitDefEqProofs [lY,qP,h0,hd,u1]
 have u1:=Hv s (by omega) hd 0 (by decide)
 rw [show foldI (fun _ (g : Nat) (b : UInt8)=>10 * g + b.toNat - 48) 0 s 0 = iA s from DN _ s 0 0] at u1
 simp only [Int.ofNat_zero] at u1
 have u2:=JD (iA s)
 by_cases ht : nx (iA s) = s
 rotate_left
 ·simp -implicitDefEqProofs [lY,qP,h0,hd,u1,u2,eq_false ht]
 simp -implicitDefEqProofs [lY,qP,h0,hd,u1,u2,eq_true ht]
 all_goals (repeat' split) <;> first | rfl | omega | (simp_all; done) | (simp_all; omega) | skip
end M
namespace M
open Go
def fA (w : ah) : List ah:=if dG w≠[] then [dG w] else []
theorem Qg (s : ah) (i : Nat) (h : i < (s.map some ++ [none]).length) : (∃ hi : i < s.length,(s.map some ++ [none])[i] = some s[i])∨(i = s.length∧(s.map some ++ [none])[i] = none):=by
 by_cases hi : i < s.length
 ·refine .inl ⟨hi,?_⟩
  rw [List.getElem_append_left (by simpa using hi)]
  simp
 ·simp at h
  obtain rfl : i = s.length:=by omega
  refine .inr ⟨rfl,?_⟩
  rw [List.getElem_append_right (by simp)]
  simp
theorem FN (w : ah) : (fA w).length≤1:=by unfold fA; split <;> simp
theorem Ng (c : UInt8) (f : ah→List ah) (hf : ∀ w,(f w).length≤1) (s : ah) (i : Nat) (g : List ah×Nat) (b : Option UInt8) (h : g.2≤i∧g.1.length≤i) : (fk c f s i g b).2≤i + 1∧(fk c f s i g b).1.length≤i + 1:=by
 unfold fk
 have:=hf ((s.take i).drop g.2)
 split
 ·split
  ·simp; omega
  ·omega
 ·simp; omega
theorem HC (s : ah) (hb : s.length≤1073741824) (g : List ah×Nat) (hinv : g.2≤0∧g.1.length≤0) : aH (ai (ev LI TT) (ak TT) kH) [(0,.str ⟨s.toArray⟩),(3,.row .own 1 ((g).1.map eS)),(4,.int .i64 ((g).2 : Nat)),(5,.int .i64 0)] = some (.exit 0,[(0,.str ⟨s.toArray⟩),(3,.row .own 1 (((foldI (fk 44 fA s) 0 (s.map some ++ [none]) g)).1.map eS)),(4,.int .i64 (((foldI (fk 44 fA s) 0 (s.map some ++ [none]) g)).2 : Nat)),(5,.int .i64 (s.map some ++ [none]).length),(11,.bool false)]):=by
 refine EW (f:=ai (ev LI TT) (ak TT) kH) (s.map some ++ [none]) (fun i (g : List ah×Nat)=>[(0,.str ⟨s.toArray⟩),(3,.row .own 1 ((g).1.map eS)),(4,.int .i64 ((g).2 : Nat)),(5,.int .i64 i)]) (fk 44 fA s) (fun g=>[(0,.str ⟨s.toArray⟩),(3,.row .own 1 ((g).1.map eS)),(4,.int .i64 ((g).2 : Nat)),(5,.int .i64 (s.map some ++ [none]).length),(11,.bool false)]) (fun i (g : List ah×Nat)=>g.2≤i∧g.1.length≤i) g hinv (fun i b g hi hl hinv=>?_) (fun i b g hi hinv=>?_) (fun g hinv=>?_)
 ·have hw:=aM i (by first | omega | (simp at hl; omega))
  obtain ⟨_,rfl⟩:=List.getElem?_eq_some_iff.1 hi
  have hlz : (g.1.length + 1) * 16≤140737488355328:=by simp at hl; omega
  have Eb : ∀ b : UInt8,((b.toNat : Int) = 44)↔b = 44:=fun b=>⟨fun h=>UInt8.toNat_inj.1 (by have e : (44 : UInt8).toNat = 44:=rfl; omega),fun h=>by subst h; rfl⟩
  rcases Qg s i hl with ⟨hi',e⟩ | ⟨rfl,e⟩
  ·rw [e]
   have k1 : (i : Int)≤s.length:=by omega
   have k2 : i≤s.length:=by omega
   have hc:=yQ ((s.drop g.2).take (i - g.2)) (by simp; omega)
   by_cases hx : s[i] = 44
   rotate_left
   ·have hx':=mt (Eb s[i]).1 hx
    simp -implicitDefEqProofs [kH,nK,k1,k2,hi',hw,fk,hx,hx']
   have hx':=(Eb s[i]).2 hx
   have e3 : (s.take i).drop g.2 = (s.drop g.2).take (i - g.2):=List.drop_take ..
   by_cases ht : dG ((s.drop g.2).take (i - g.2)) = []
   ·simp -implicitDefEqProofs [kH,nK,k1,k2,hi',hw,fk,eq_true hx,hx',hinv,hc,Lib.extract_mk,fA,e3,eq_true ht]
   ·simp -implicitDefEqProofs [kH,nK,k1,k2,hi',hw,fk,eq_true hx,hx',hinv,hc,Lib.extract_mk,fA,e3,eq_false ht,gP,hlz]
  rw [e]
  have hc:=yQ ((s.drop g.2).take (s.length - g.2)) (by simp; omega)
  have e3 : (s.take s.length).drop g.2 = (s.drop g.2).take (s.length - g.2):=List.drop_take ..
  by_cases ht : dG ((s.drop g.2).take (s.length - g.2)) = []
  ·simp only [fk,e3,fA,eq_true ht]
   simp -implicitDefEqProofs [kH,nK,hw,hinv,hc,Lib.extract_mk,eq_true ht]
  simp only [fk,e3,fA,eq_false ht]
  simp -implicitDefEqProofs [kH,nK,hl,hw,hinv,hc,Lib.extract_mk,eq_false ht,gP,hlz]
 ·exact Ng 44 fA FN s i g b hinv
 ·have NL : ¬ ((s.length : Int) + 1≤s.length):=by omega
  simp -implicitDefEqProofs [kH,nK,NL]
theorem CS (s : ah) (hb : s.length≤1073741824) : ev LI TT 253 [.str ⟨s.toArray⟩] = some (.row .own 1 ((en s).map eS),[.dead]):=by
 rw [az (b:=xo) (rs:=[.t 2]) (n:=1) rfl rfl]
 have u1:=HC s hb ([],0) ⟨by omega,by simp⟩
 rw [M7,show (cl 44 s).flatMap fA = en s from (Gj s).symm] at u1
 simp at u1
 simp -implicitDefEqProofs [xo,u1]
 all_goals (repeat' split) <;> first | rfl | omega | (simp_all; done) | (simp_all; omega) | skip
theorem GC (s : ah) (ws : List ah) (hb : ∀ w∈ws,w.length≤1073741824) (hl0 : ws.length≤1073741825) : aH (ai (ev LI TT) (ak TT) oJ) [(3,.row .own 1 (([]).map eS)),(8,.row .own 1 (ws.map eS)),(9,.int .i64 ws.length),(10,.int .i64 0)] = some (.exit 0,[(3,.row .own 1 ((((ws).flatMap fA)).map eS)),(8,.row .own 1 (ws.map eS)),(9,.int .i64 ws.length),(10,.int .i64 (ws).length),(11,.bool false)]):=by
 refine Bc (f:=ai (ev LI TT) (ak TT) oJ) (ws) fA (fun i out=>[(3,.row .own 1 ((out).map eS)),(8,.row .own 1 (ws.map eS)),(9,.int .i64 ws.length),(10,.int .i64 i)]) (fun out=>[(3,.row .own 1 ((out).map eS)),(8,.row .own 1 (ws.map eS)),(9,.int .i64 ws.length),(10,.int .i64 (ws).length),(11,.bool false)]) (fun i b out hi hl hout=>?_) (fun out hout=>?_)
 ·have hw:=aM i (by first | omega | (simp at hl; omega))
  obtain ⟨_,rfl⟩:=List.getElem?_eq_some_iff.1 hi
  have hlo : out.length≤i:=by rw [hout]; exact KJ fA FN ws i
  have hlz : (out.length + 1) * 16≤140737488355328:=by omega
  have hc:=CH ws[i] (by have:=hb _ (List.getElem_mem hl); omega)
  unfold fA
  by_cases ht : dG ws[i] = []
  ·simp -implicitDefEqProofs [oJ,vC,hl,hw,hc,eq_true ht]
  simp -implicitDefEqProofs [oJ,vC,hl,hw,hc,eq_false ht,gP,hlz]
 ·simp -implicitDefEqProofs [oJ,vC]
theorem CG (s : ah) (hb : s.length≤1073741824) : ev LI TT 297 [.str ⟨s.toArray⟩] = some (.row .own 1 ((en s).map eS),[.dead]):=by
 rw [az (b:=vD) (rs:=[.t 2]) (n:=1) rfl rfl]
 rw [Gj s,show (fun w=>if dG w≠[] then [dG w] else []) = fA from rfl]
 have u1:=JS  s 44 (by omega)
 try simp at u1
 have u2:=GC  s (cl 44 s) (fun w hw=>by have:=FQ 44 s w hw; omega) (by have:=FP 44 s; omega)
 try simp at u2
 simp -implicitDefEqProofs [vD,u1,u2]
 all_goals (repeat' split) <;> first | rfl | omega | (simp_all; done) | (simp_all; omega) | skip
theorem HM (l : List ah) (hl0 : l.length≤1073741824) (hb : ∀ w∈l,w.length≤1073741824) : aH (ai (ev LI TT) (ak TT) tR) [(0,.row .af 1 (l.map eS)),(3,.int .i64 0)] = if aF ek (l) = true then some (.exit 0,[(0,.row .af 1 (l.map eS)),(3,.int .i64 (l).length),(7,.bool false)]) else some (.ret,[(2,.bool false)]):=by
 refine bX (f:=ai (ev LI TT) (ak TT) tR) (l) (fun i=>[(0,.row .af 1 (l.map eS)),(3,.int .i64 i)]) ek _ _ (fun i b hi hl=>?_) ?_
 ·have hw:=aM i (by first | omega | (simp at hl; omega))
  obtain ⟨_,rfl⟩:=List.getElem?_eq_some_iff.1 hi
  have u1:=yP  l[i] (by have:=hb _ (List.getElem_mem hl); omega)
  try simp at u1
  simp -implicitDefEqProofs [tR,BU,hl,hw,u1]
  all_goals (repeat' split) <;> first | rfl | omega | (simp_all; done) | (simp_all; omega) | skip
 ·simp -implicitDefEqProofs [tR,BU]
theorem JK (l : List ah) (hl0 : l.length≤1073741824) (hb : ∀ w∈l,w.length≤1073741824) : ev LI TT 202 [.row .af 1 (l.map eS)] = some (.bool ((aF ek l && decide ((l.length : Int)≤4))),[.dead]):=by
 rw [az (b:=xC) (rs:=[.t 2]) (n:=1) rfl rfl]
 have u1:=HM  l hl0 hb
 try simp at u1
 simp -implicitDefEqProofs [xC,u1]
 all_goals (repeat' split) <;> first | rfl | omega | (simp_all; done) | (simp_all; omega) | skip
theorem GJ (l : List ah) (hl0 : l.length≤1073741824) (hb : ∀ w∈l,w.length≤1073741824) : aH (ai (ev LI TT) (ak TT) rQ) [(0,.row .af 1 (l.map eS)),(5,.row .af 1 (l.map eS)),(6,.int .i64 l.length),(7,.int .i64 0)] = if aF ek (l) = true then some (.exit 0,[(0,.row .af 1 (l.map eS)),(5,.row .af 1 (l.map eS)),(6,.int .i64 l.length),(7,.int .i64 (l).length),(8,.bool false)]) else some (.ret,[(2,.bool false)]):=by
 refine bX (f:=ai (ev LI TT) (ak TT) rQ) (l) (fun i=>[(0,.row .af 1 (l.map eS)),(5,.row .af 1 (l.map eS)),(6,.int .i64 l.length),(7,.int .i64 i)]) ek _ _ (fun i b hi hl=>?_) ?_
 ·have hw:=aM i (by first | omega | (simp at hl; omega))
  obtain ⟨_,rfl⟩:=List.getElem?_eq_some_iff.1 hi
  have u1:=yw  l[i] (by have:=hb _ (List.getElem_mem hl); omega)
  try simp at u1
  simp -implicitDefEqProofs [rQ,Aq,hl,hw,u1]
  all_goals (repeat' split) <;> first | rfl | omega | (simp_all; done) | (simp_all; omega) | skip
 ·simp -implicitDefEqProofs [rQ,Aq]
theorem Iz (l : List ah) (hl0 : l.length≤1073741824) (hb : ∀ w∈l,w.length≤1073741824) : ev LI TT 271 [.row .af 1 (l.map eS)] = some (.bool ((aF ek l && decide ((l.length : Int)≤4))),[.dead]):=by
 rw [az (b:=vQ) (rs:=[.t 2]) (n:=1) rfl rfl]
 have u1:=GJ  l hl0 hb
 try simp at u1
 simp -implicitDefEqProofs [vQ,u1]
 all_goals (repeat' split) <;> first | rfl | omega | (simp_all; done) | (simp_all; omega) | skip
end M
namespace M
open Go
theorem HJ (fs : List aL) (n : ah) (hb : fs.length≤9223372036854775807) : aH (ai (ev LI TT) (ak TT) tO) [(0,.row .af 2 (fs.map aI)),(1,.str ⟨n.toArray⟩),(5,.int .i64 0)] = (dc (fun f=>decide (f.name = n)) 0 (fs)).elim (some (.exit 0,[(0,.row .af 2 (fs.map aI)),(1,.str ⟨n.toArray⟩),(5,.int .i64 (fs).length),(9,.bool false)])) fun x=>some (.ret,(fun (i : Nat) b=>[(4,.int .i64 i)]) x.1 x.2):=by
 refine sO (f:=ai (ev LI TT) (ak TT) tO) (fs) (fun i=>[(0,.row .af 2 (fs.map aI)),(1,.str ⟨n.toArray⟩),(5,.int .i64 i)]) (fun f=>decide (f.name = n)) (fun (i : Nat) b=>[(4,.int .i64 i)]) _ (fun i b hi hl=>?_) ?_
 ·have hw:=aM i (by first | omega | (simp at hl; omega))
  obtain ⟨_,rfl⟩:=List.getElem?_eq_some_iff.1 hi
  simp -implicitDefEqProofs [tO,BS,hl,hw]
 ·simp -implicitDefEqProofs [tO,BS]
theorem CT (fs : List aL) (n : ah) (hb : fs.length≤9223372036854775807) : ev LI TT 252 [.row .af 2 (fs.map aI),.str ⟨n.toArray⟩] = some (.int .i64 (fR (fD fs n)),[.dead,.dead]):=by
 rw [az (b:=tP) (rs:=[.t 4]) (n:=2) rfl rfl]
 have h:=HJ  fs n hb
 rw [show dc (fun f=>decide (f.name = n)) 0 fs = fD fs n from rfl] at h
 simp at h
 cases g : fD fs n with
 | none=>rw [g] at h; simp at h; simp -implicitDefEqProofs [tP,h,fR]
 | some x =>
 rw [g] at h
 simp at h
 simp -implicitDefEqProofs [tP,h,fR]
 all_goals (repeat' split) <;> first | rfl | omega | (simp_all; done) | (simp_all; omega) | skip
theorem yM (fs : List aL) (n : ah) (hb : fs.length≤9223372036854775807) : ev LI TT 162 [.row .af 2 (fs.map aI),.str ⟨n.toArray⟩] = some (.au [.str ⟨((cE fs n).getD []).toArray⟩,.bool (cE fs n).isSome],[.dead,.dead]):=by
 rw [az (b:=tC) (rs:=[.t 4,.t 5]) (n:=2) rfl rfl]
 have h:=CT  fs n hb
 unfold cE
 cases g : fD fs n with
 | none=>rw [g] at h; simp [fR] at h; simp -implicitDefEqProofs [tC,h]
 | some x =>
 obtain ⟨i,b⟩:=x
 rw [g] at h
 obtain ⟨h1,h2,h3⟩:=ov g
 simp at h2
 simp [fR] at h
 have hi : i < fs.length:=(List.getElem?_eq_some_iff.1 h2).1
 obtain ⟨_,rfl⟩:=List.getElem?_eq_some_iff.1 h2
 simp -implicitDefEqProofs [tC,h,hi]
 all_goals (repeat' split) <;> first | rfl | omega | (simp_all; done) | (simp_all; omega) | skip
theorem Ix (f : aL) (n : ah) : ev LI TT 321 [.agg (aI f),.ptr .af [.str ⟨n.toArray⟩]] = some (.bool (decide (f.name = n)),[.dead,.dead]):=by
 rw [az (b:=vI) (rs:=[.t 3]) (n:=2) rfl rfl]
 simp -implicitDefEqProofs [vI]
 all_goals (repeat' split) <;> first | rfl | omega | (simp_all; done) | (simp_all; omega) | skip
theorem HP (fs : List aL) (n : ah) (hb : fs.length≤9223372036854775807) : aH (ai (ev LI TT) (ak TT) uh) [(0,.row .af 2 (fs.map aI)),(1,.fn 321 [.ptr .af [.str ⟨n.toArray⟩]]),(7,.int .i64 fs.length),(8,.int .i64 0)] = (dc (fun f=>decide (f.name = n)) 0 (fs)).elim (some (.exit 0,[(0,.row .af 2 (fs.map aI)),(1,.fn 321 [.ptr .af [.str ⟨n.toArray⟩]]),(7,.int .i64 fs.length),(8,.int .i64 (fs).length),(9,.bool false)])) fun x=>some (.ret,(fun (i : Nat) b=>[(4,.int .i64 i)]) x.1 x.2):=by
 refine sO (f:=ai (ev LI TT) (ak TT) uh) (fs) (fun i=>[(0,.row .af 2 (fs.map aI)),(1,.fn 321 [.ptr .af [.str ⟨n.toArray⟩]]),(7,.int .i64 fs.length),(8,.int .i64 i)]) (fun f=>decide (f.name = n)) (fun (i : Nat) b=>[(4,.int .i64 i)]) _ (fun i b hi hl=>?_) ?_
 ·have hw:=aM i (by first | omega | (simp at hl; omega))
  obtain ⟨_,rfl⟩:=List.getElem?_eq_some_iff.1 hi
  have ho : ak TT 321 = true:=rfl
  have hf:=Ix  fs[i] n
  simp at hf
  simp -implicitDefEqProofs [uh,Cg,hl,hw,ho,vS,hf]
 ·simp -implicitDefEqProofs [uh,Cg]
theorem JO (fs : List aL) (n : ah) (hb : fs.length≤9223372036854775807) : ev LI TT 320 [.row .af 2 (fs.map aI),.fn 321 [.ptr .af [.str ⟨n.toArray⟩]]] = some (.int .i64 (fR (fD fs n)),[.dead,.dead]):=by
 rw [az (b:=uj) (rs:=[.t 4]) (n:=2) rfl rfl]
 have h:=HP  fs n hb
 rw [show dc (fun f=>decide (f.name = n)) 0 fs = fD fs n from rfl] at h
 simp at h
 cases g : fD fs n with
 | none=>rw [g] at h; simp at h; simp -implicitDefEqProofs [uj,h,fR]
 | some x =>
 rw [g] at h
 simp at h
 simp -implicitDefEqProofs [uj,h,fR]
 all_goals (repeat' split) <;> first | rfl | omega | (simp_all; done) | (simp_all; omega) | skip
theorem CJ (fs : List aL) (n : ah) (hb : fs.length≤9223372036854775807) : ev LI TT 296 [.row .af 2 (fs.map aI),.str ⟨n.toArray⟩] = some (.int .i64 (fR (fD fs n)),[.dead,.dead]):=by
 rw [az (b:=vJ) (rs:=[.t 4]) (n:=2) rfl rfl]
 have h:=JO  fs n hb
 simp -implicitDefEqProofs [vJ,h,gM,eJ]
 all_goals (repeat' split) <;> first | rfl | omega | (simp_all; done) | (simp_all; omega) | skip
theorem yt (fs : List aL) (n : ah) (hb : fs.length≤9223372036854775807) : ev LI TT 234 [.row .af 2 (fs.map aI),.str ⟨n.toArray⟩] = some (.au [.str ⟨((cE fs n).getD []).toArray⟩,.bool (cE fs n).isSome],[.dead,.dead]):=by
 rw [az (b:=rG) (rs:=[.t 4,.t 5]) (n:=2) rfl rfl]
 have h:=CJ  fs n hb
 unfold cE
 cases g : fD fs n with
 | none=>rw [g] at h; simp [fR] at h; simp -implicitDefEqProofs [rG,h]
 | some x =>
 obtain ⟨i,b⟩:=x
 rw [g] at h
 obtain ⟨h1,h2,h3⟩:=ov g
 simp at h2
 simp [fR] at h
 have hi : i < fs.length:=(List.getElem?_eq_some_iff.1 h2).1
 obtain ⟨_,rfl⟩:=List.getElem?_eq_some_iff.1 h2
 simp -implicitDefEqProofs [rG,h,hi]
 all_goals (repeat' split) <;> first | rfl | omega | (simp_all; done) | (simp_all; omega) | skip
end M
namespace M
open Go
theorem sX : (⟨#[99,111,110,116,101,110,116,45,108,101,110,103,116,104]⟩ : ByteArray) = ⟨wZ.toArray⟩:=rfl
theorem Hq (fs : List aL) (hb : wL aJ fs≤1073741824) : aH (ai (ev LI TT) (ak TT) kG) [(0,.row .af 2 (fs.map aI)),(3,.int .i64 0)] = if aF (fH fs) (fs.zipIdx) = true then some (.exit 0,[(0,.row .af 2 (fs.map aI)),(3,.int .i64 (fs.zipIdx).length),(7,.bool false)]) else some (.ret,[(2,.bool false)]):=by
 refine bX (f:=ai (ev LI TT) (ak TT) kG) (fs.zipIdx) (fun i=>[(0,.row .af 2 (fs.map aI)),(3,.int .i64 i)]) (fH fs) _ _ (fun i b hi hl=>?_) ?_
 ·have hw:=aM i (by have:=bk (w:=aJ) fs; simp at hl; omega)
  obtain ⟨_,rfl⟩:=List.getElem?_eq_some_iff.1 hi
  simp only [List.length_zipIdx] at hl
  have hz : fs.zipIdx[i]'(by simpa using hl) = (fs[i],i):=by simp
  have hm:=Cb (List.getElem_mem hl)
  have hfl:=bk (w:=aJ) fs
  rw [hz]
  have u1:=yP  fs[i].name (by omega)
  try simp at u1
  have u2:=yR  fs[i].value (by omega)
  try simp at u2
  have u3:=CT  fs fs[i].name (by omega)
  try simp at u3
  by_cases g1 : ek fs[i].name = true
  rotate_left
  ·simp -implicitDefEqProofs [kG,nG,hl,hw,u1,u2,u3,fH,g1]
  by_cases g2 : gp fs[i].value = true
  rotate_left
  ·simp -implicitDefEqProofs [kG,nG,hl,hw,u1,u2,u3,fH,g1,g2]
  by_cases g3 : fR (fD fs fs[i].name) = i
  rotate_left
  ·simp -implicitDefEqProofs [kG,nG,hl,hw,u1,u2,u3,fH,g1,g2,eq_false g3]
  by_cases hcl : fs[i].name = wZ
  ·simp -implicitDefEqProofs [kG,nG,hl,hw,u1,u2,u3,g1,g2,eq_true g3,fH,sX,eq_true hcl]
  simp -implicitDefEqProofs [kG,nG,hl,hw,u1,u2,u3,fH,g1,g2,eq_true g3,sX,eq_false hcl]
  all_goals (repeat' split) <;> first | rfl | omega | (simp_all; done) | (simp_all; omega) | skip
 ·simp -implicitDefEqProofs [kG,nG]
theorem CP (fs : List aL) (hb : wL aJ fs≤1073741824) : ev LI TT 161 [.row .af 2 (fs.map aI)] = some (.bool ((jR fs)),[.dead]):=by
 rw [az (b:=xh) (rs:=[.t 2]) (n:=1) rfl rfl]
 unfold jR
 have hfl:=bk (w:=aJ) fs
 have u1:=Hq  fs hb
 try simp at u1
 simp -implicitDefEqProofs [xh,u1]
 all_goals (repeat' split) <;> first | rfl | omega | (simp_all; done) | (simp_all; omega) | skip
theorem Gv (fs : List aL) (hb : wL aJ fs≤1073741824) : aH (ai (ev LI TT) (ak TT) kf) [(0,.row .af 2 (fs.map aI)),(5,.row .af 2 (fs.map aI)),(6,.int .i64 fs.length),(7,.int .i64 0)] = if aF (fH fs) (fs.zipIdx) = true then some (.exit 0,[(0,.row .af 2 (fs.map aI)),(5,.row .af 2 (fs.map aI)),(6,.int .i64 fs.length),(7,.int .i64 (fs.zipIdx).length),(8,.bool false)]) else some (.ret,[(2,.bool false)]):=by
 refine bX (f:=ai (ev LI TT) (ak TT) kf) (fs.zipIdx) (fun i=>[(0,.row .af 2 (fs.map aI)),(5,.row .af 2 (fs.map aI)),(6,.int .i64 fs.length),(7,.int .i64 i)]) (fH fs) _ _ (fun i b hi hl=>?_) ?_
 ·have hw:=aM i (by have:=bk (w:=aJ) fs; simp at hl; omega)
  obtain ⟨_,rfl⟩:=List.getElem?_eq_some_iff.1 hi
  simp only [List.length_zipIdx] at hl
  have hz : fs.zipIdx[i]'(by simpa using hl) = (fs[i],i):=by simp
  have hm:=Cb (List.getElem_mem hl)
  have hfl:=bk (w:=aJ) fs
  rw [hz]
  have u1:=yw  fs[i].name (by omega)
  try simp at u1
  have u2:=yx  fs[i].value (by omega)
  try simp at u2
  have u3:=CJ  fs fs[i].name (by omega)
  try simp at u3
  by_cases g1 : ek fs[i].name = true
  rotate_left
  ·simp -implicitDefEqProofs [kf,mR,hl,hw,u1,u2,u3,fH,g1]
  by_cases g2 : gp fs[i].value = true
  rotate_left
  ·simp -implicitDefEqProofs [kf,mR,hl,hw,u1,u2,u3,fH,g1,g2]
  by_cases hcl : fs[i].name = wZ
  ·simp -implicitDefEqProofs [kf,mR,hl,hw,u1,u2,u3,g1,g2,fH,sX,eq_true hcl]
  by_cases g3 : fR (fD fs fs[i].name) = i
  rotate_left
  ·simp -implicitDefEqProofs [kf,mR,hl,hw,u1,u2,u3,g1,g2,fH,sX,eq_false hcl,eq_false g3]
  simp -implicitDefEqProofs [kf,mR,hl,hw,u1,u2,u3,fH,g1,g2,sX,eq_false hcl,eq_true g3]
  all_goals (repeat' split) <;> first | rfl | omega | (simp_all; done) | (simp_all; omega) | skip
 ·simp -implicitDefEqProofs [kf,mR]
theorem CC (fs : List aL) (hb : wL aJ fs≤1073741824) : ev LI TT 294 [.row .af 2 (fs.map aI)] = some (.bool ((jR fs)),[.dead]):=by
 rw [az (b:=vt) (rs:=[.t 2]) (n:=1) rfl rfl]
 unfold jR
 have hfl:=bk (w:=aJ) fs
 have u1:=Gv  fs hb
 try simp at u1
 simp -implicitDefEqProofs [vt,u1]
 all_goals (repeat' split) <;> first | rfl | omega | (simp_all; done) | (simp_all; omega) | skip
theorem JE (r : dm) (hb : bT r≤1073741824) : ev LI TT 201 [.agg (gV .af r)] = some (.bool ((nC r)),[.dead]):=by
 rw [az (b:=nJ) (rs:=[.t 2]) (n:=1) rfl rfl]
 have hw : bT r = wL aJ r.fields + r.body.length:=rfl
 unfold nC
 have u1:=CP  r.fields (by omega)
 try simp at u1
 by_cases g1 : 100≤r.status
 rotate_left
 ·simp -implicitDefEqProofs [nJ,u1,eq_false g1]
 by_cases g2 : r.status≤599
 rotate_left
 ·simp -implicitDefEqProofs [nJ,u1,eq_true g1,eq_false g2]
 by_cases g3 : jR r.fields = true
 rotate_left
 ·simp -implicitDefEqProofs [nJ,u1,eq_true g1,eq_true g2,g3]
 simp -implicitDefEqProofs [nJ,u1,eq_true g1,eq_true g2,g3]
 all_goals (repeat' split) <;> first | rfl | omega | (simp_all; done) | (simp_all; omega) | skip
theorem Ir (r : dm) (hb : bT r≤1073741824) : ev LI TT 251 [.agg (gV .af r)] = some (.bool ((nC r)),[.dead]):=by
 rw [az (b:=mT) (rs:=[.t 2]) (n:=1) rfl rfl]
 have hw : bT r = wL aJ r.fields + r.body.length:=rfl
 unfold nC
 have u1:=CC  r.fields (by omega)
 try simp at u1
 by_cases g1 : 100≤r.status
 rotate_left
 ·simp -implicitDefEqProofs [mT,u1,eq_false g1]
 by_cases g2 : r.status≤599
 rotate_left
 ·simp -implicitDefEqProofs [mT,u1,eq_true g1,eq_false g2]
 by_cases g3 : (r.body.length : Int)≤120
 rotate_left
 ·simp -implicitDefEqProofs [mT,u1,eq_true g1,eq_true g2,eq_false g3]
 simp -implicitDefEqProofs [mT,u1,eq_true g1,eq_true g2,eq_true g3]
 all_goals (repeat' split) <;> first | rfl | omega | (simp_all; done) | (simp_all; omega) | skip
end M
namespace M
open Go
theorem ud (s : ah) : (en s).length≤s.length + 1:=by
 unfold en
 have h1:=List.length_filter_le (fun w : ah=>decide (w≠[])) ((cl 44 s).map dG)
 have h2:=FP 44 s
 simp only [List.length_map] at h1
 omega
theorem xY (s : ah) : ∀ w∈en s,w.length≤s.length:=by
 intro w hw
 unfold en at hw
 obtain ⟨x,hx,rfl⟩:=List.mem_map.1 (List.mem_filter.1 hw).1
 have h1:=FQ 44 s x hx
 have h2:=F6 x
 omega
theorem HH (ws : List ah) (hl0 : ws.length≤1073741825) (hb : ∀ w∈ws,w.length≤1073741824) : aH (ai (ev LI TT) (ak TT) tN) [(5,.row .own 1 ((fy bt ws 0).map eS)),(6,.int .i64 0)] = some (.exit 0,[(5,.row .own 1 ((fy bt ws (ws).length).map eS)),(6,.int .i64 (ws).length),(17,.bool false)]):=by
 refine iT (f:=ai (ev LI TT) (ak TT) tN) (ws) (fun i=>[(5,.row .own 1 ((fy bt ws i).map eS)),(6,.int .i64 i)]) _ (fun i b hi hl=>?_) ?_
 ·have hw:=aM i (by first | omega | (simp at hl; omega))
  obtain ⟨_,rfl⟩:=List.getElem?_eq_some_iff.1 hi
  have h1:=OU bt ws i hl
  have h2:=OV bt ws i hl
  have u1:=CR  ws[i] (hb _ (List.getElem_mem hl))
  try simp at u1
  simp -implicitDefEqProofs [tN,BR,hl,hw,u1,h1,h2,rowAt,-List.map_set]
 ·simp -implicitDefEqProofs [tN,BR,rowAt]
theorem JG (fs : List aL) (hb : wL aJ fs≤1073741824) : ev LI TT 203 [.row .af 2 (fs.map aI)] = some (.row .own 1 ((jI fs).map eS),[.dead]):=by
 rw [az (b:=xu) (rs:=[.t 2]) (n:=1) rfl rfl]
 have hfl:=bk (w:=aJ) fs
 have hg:=qO fs fO
 have u1:=yM  fs fO (by omega)
 try simp at u1
 have u2:=CS  ((cE fs fO).getD []) (by omega)
 try simp at u2
 have u3:=HH  (en ((cE fs fO).getD [])) (by have:=ud ((cE fs fO).getD []); omega) (fun w hw=>by have:=xY _ w hw; omega)
 try simp at u3
 rw [OW,OS,show (en ((cE fs fO).getD [])).map bt = jI fs from rfl] at u3
 simp -implicitDefEqProofs [xu,u1,u2,u3]
 all_goals (repeat' split) <;> first | rfl | omega | (simp_all; done) | (simp_all; omega) | skip
theorem GF (ws : List ah) (hl0 : ws.length≤1073741825) (hb : ∀ w∈ws,w.length≤1073741824) : aH (ai (ev LI TT) (ak TT) rN) [(5,.row .own 1 (([]).map eS)),(14,.row .own 1 (ws.map eS)),(15,.int .i64 ws.length),(16,.int .i64 0)] = some (.exit 0,[(5,.row .own 1 ((((ws).flatMap (fun w=>[bt w]))).map eS)),(14,.row .own 1 (ws.map eS)),(15,.int .i64 ws.length),(16,.int .i64 (ws).length),(17,.bool false)]):=by
 refine Bc (f:=ai (ev LI TT) (ak TT) rN) (ws) (fun w=>[bt w]) (fun i out=>[(5,.row .own 1 ((out).map eS)),(14,.row .own 1 (ws.map eS)),(15,.int .i64 ws.length),(16,.int .i64 i)]) (fun out=>[(5,.row .own 1 ((out).map eS)),(14,.row .own 1 (ws.map eS)),(15,.int .i64 ws.length),(16,.int .i64 (ws).length),(17,.bool false)]) (fun i b out hi hl hout=>?_) (fun out hout=>?_)
 ·have hw:=aM i (by first | omega | (simp at hl; omega))
  obtain ⟨_,rfl⟩:=List.getElem?_eq_some_iff.1 hi
  have hlo : out.length = i:=by rw [hout]; exact DL _ _ _ (by omega)
  have hlz : (i + 1) * 16≤140737488355328:=by omega
  have u1:=CE  ws[i] (hb _ (List.getElem_mem hl))
  try simp at u1
  simp -implicitDefEqProofs [rN,An,hl,hw,u1,hlo,hlz,gP]
 ·simp -implicitDefEqProofs [rN,An]
theorem Iw (fs : List aL) (hb : wL aJ fs≤1073741824) : ev LI TT 272 [.row .af 2 (fs.map aI)] = some (.row .own 1 ((jI fs).map eS),[.dead]):=by
 rw [az (b:=vG) (rs:=[.t 2]) (n:=1) rfl rfl]
 have hfl:=bk (w:=aJ) fs
 have hg:=qO fs fO
 have u1:=yt  fs fO (by omega)
 try simp at u1
 have u2:=CG  ((cE fs fO).getD []) (by omega)
 try simp at u2
 have u3:=GF  (en ((cE fs fO).getD [])) (by have:=ud ((cE fs fO).getD []); omega) (fun w hw=>by have:=xY _ w hw; omega)
 try simp at u3
 rw [zx,show (en ((cE fs fO).getD [])).map bt = jI fs from rfl] at u3
 simp -implicitDefEqProofs [vG,u1,u2,u3]
 all_goals (repeat' split) <;> first | rfl | omega | (simp_all; done) | (simp_all; omega) | skip
theorem Gh (fs : List aL) : (jI fs).length≤wL aJ fs + 1:=by
 have h1:=ud ((cE fs fO).getD [])
 have h2:=qO fs fO
 simp [jI]; omega
end M
namespace M
open Go
theorem HO (ps : List (ah×ah)) (hb : ps.length≤9223372036854775807) : aH (ai (ev LI TT) (ak TT) ug) [(0,.row .af 1 (ps.map fun x=>eS x.1)),(1,.row .af 1 (ps.map fun x=>eS x.2)),(12,.int .i64 ps.length),(13,.int .i64 0)] = if aF bH (ps) = true then some (.exit 0,[(0,.row .af 1 (ps.map fun x=>eS x.1)),(1,.row .af 1 (ps.map fun x=>eS x.2)),(12,.int .i64 ps.length),(13,.int .i64 ps.length),(14,.bool false)]) else some (.ret,[(4,.bool false)]):=by
 refine bX (f:=ai (ev LI TT) (ak TT) ug) (ps) (fun i=>[(0,.row .af 1 (ps.map fun x=>eS x.1)),(1,.row .af 1 (ps.map fun x=>eS x.2)),(12,.int .i64 ps.length),(13,.int .i64 i)]) bH _ _ (fun i b hi hl=>?_) ?_
 ·have hw:=aM i (by first | omega | (simp at hl; omega))
  obtain ⟨_,rfl⟩:=List.getElem?_eq_some_iff.1 hi
  simp -implicitDefEqProofs [ug,Cf,hl,hw,bH]
  first | done | (split <;> simp_all)
 ·simp -implicitDefEqProofs [ug,Cf]
theorem JN (a b : List ah) (hb : a.length≤9223372036854775807) : ev LI TT 243 [.row .af 1 (a.map eS),.row .af 1 (b.map eS)] = some (.bool (decide (a = b)),[.dead,.dead]):=by
 rw [az (b:=x7) (rs:=[.t 4]) (n:=2) rfl rfl]
 simp -implicitDefEqProofs [x7]
 by_cases h : a.length = b.length
 ·obtain ⟨ps,rfl,rfl⟩:=iB h
  have h1:=HO  ps (by simpa using hb)
  have h2:=gQ ps
  simp at h1
  cases h3 : aF bH ps <;> rw [h3] at h1 h2 <;> simp [h1,Function.comp_def,← h2]
 ·have : ¬ a = b:=fun e=>h (by rw [e])
  simp [this]
  omega
theorem Gs : ∀ {a b : List ah},(∀ x∈a.zip b,¬ (decide (x.1≠x.2)) = true)→a.length = b.length→a = b
 | [],[],_,_=>rfl
 | x :: a,y :: b,h,hl=>by
  have h1:=h (x,y) (by simp)
  simp at h1
  have h2 : a = b:=Gs (fun z hz=>h z (by simp only [List.zip_cons_cons]; exact List.mem_cons_of_mem _ hz)) (by simpa using hl)
  rw [h1,h2]
theorem TV {a b : List ah} {x : ah×ah} (hx : x∈a.zip b) (h : x.1≠x.2) : a≠b:=by
 rintro rfl
 have : ∀ {l : List ah} {x : ah×ah},x∈l.zip l→x.1 = x.2:=by
  intro l
  induction l with
  | nil=>intro x h; simp at h
  | cons y l ih =>
   intro x h
   simp only [List.zip_cons_cons,List.mem_cons] at h
   rcases h with rfl | h
   ·rfl
   ·exact ih h
 exact h (this hx)
theorem HL (a b : List ah) (hb : a.length≤9223372036854775807) (gZ : b.length≤9223372036854775807) : aH (ai (ev LI TT) (ak TT) p7) [(0,.row .af 1 (a.map eS)),(1,.row .af 1 (b.map eS)),(5,.int .i64 0)] = (dc (fun x=>decide (x.1≠x.2)) 0 (a.zip b)).elim (some (.exit 0,[(0,.row .af 1 (a.map eS)),(1,.row .af 1 (b.map eS)),(5,.int .i64 (a.zip b).length),(15,.bool false)])) fun x=>some (.ret,(fun (i : Nat) b=>[(4,.bool false)]) x.1 x.2):=by
 refine sO (f:=ai (ev LI TT) (ak TT) p7) (a.zip b) (fun i=>[(0,.row .af 1 (a.map eS)),(1,.row .af 1 (b.map eS)),(5,.int .i64 i)]) (fun x=>decide (x.1≠x.2)) (fun (i : Nat) b=>[(4,.bool false)]) _ (fun i b hi hl=>?_) ?_
 ·have hw:=aM i (by first | omega | (simp at hl; omega))
  obtain ⟨_,rfl⟩:=List.getElem?_eq_some_iff.1 hi
  have ha : i < a.length:=by simp at hl; omega
  have hb' : i < b.length:=by simp at hl; omega
  simp -implicitDefEqProofs [p7,xB,hl,hw,ha,hb']
 ·have hz : (a.zip b).length = min a.length b.length:=by simp
  rw [hz]
  by_cases hh : a.length≤b.length
  ·rw [Nat.min_eq_left hh]; simp -implicitDefEqProofs [p7,xB]
  have h1 : b.length≤a.length:=by omega
  have h2 : (b.length : Int) < a.length:=by omega
  have h3 : b.length < a.length:=by omega
  rw [Nat.min_eq_right h1]
  simp -implicitDefEqProofs [p7,xB,h2,h3]
theorem JJ (a b : List ah) (hb : a.length≤9223372036854775807) (gZ : b.length≤9223372036854775807) : ev LI TT 175 [.row .af 1 (a.map eS),.row .af 1 (b.map eS)] = some (.bool (decide (a = b)),[.dead,.dead]):=by
 rw [az (b:=p8) (rs:=[.t 4]) (n:=2) rfl rfl]
 have h:=HL  a b hb gZ
 cases g : dc (fun x : ah×ah=>decide (x.1≠x.2)) 0 (a.zip b) with
 | some x =>
  obtain ⟨i,x⟩:=x
  obtain ⟨_,h1,h2⟩:=ov g
  have h3 : ¬ a = b:=TV (List.mem_of_getElem? h1) (by simpa using h2)
  rw [g] at h; simp only [Option.elim] at h; simp -implicitDefEqProofs [p8,h,h3]
 | none =>
 have h1:=zv.1 g
 rw [g] at h
 simp only [Option.elim] at h
 try simp at h
 by_cases hl : a.length = b.length
 ·have h2:=Gs h1 hl
  subst h2
  try simp at h
  simp -implicitDefEqProofs [p8,h]
 have h3 : ¬ a = b:=fun e=>hl (by rw [e])
 have h4 : ¬ (a.length : Int) = b.length:=by omega
 simp -implicitDefEqProofs [p8,h,h3,h4]
 all_goals (repeat' split) <;> first | rfl | omega | (simp_all; done) | (simp_all; omega) | skip
end M
namespace M
open Go
theorem Hy (o : Ob) (hb : wL wS o.values≤1073741824) : aH (ai (ev LI TT) (ak TT) tG) [(1,.ptr .own (cL .af o)),(3,.int .i64 0)] = if aF gp (o.values) = true then some (.exit 0,[(1,.ptr .own (cL .af o)),(3,.int .i64 (o.values).length),(49,.bool false)]) else some (.ret,[(2,.bool false)]):=by
 refine bX (f:=ai (ev LI TT) (ak TT) tG) (o.values) (fun i=>[(1,.ptr .own (cL .af o)),(3,.int .i64 i)]) gp _ _ (fun i b hi hl=>?_) ?_
 ·have hw:=aM i (by have:=bk (w:=wS) o.values; omega)
  obtain ⟨_,rfl⟩:=List.getElem?_eq_some_iff.1 hi
  have hm:=xX (List.getElem_mem hl)
  have u1:=yR  o.values[i] (by omega)
  try simp at u1
  simp -implicitDefEqProofs [tG,BK,hl,hw,u1]
  all_goals (repeat' split) <;> first | rfl | omega | (simp_all; done) | (simp_all; omega) | skip
 ·simp -implicitDefEqProofs [tG,BK]
theorem yN (o : Ob) (hb : bA o≤1073741824) : ev LI TT 108 [.agg (cL .af o)] = some (.bool ((gm o)),[.dead]):=by
 rw [az (b:=iw) (rs:=[.t 2]) (n:=1) rfl rfl]
 have hw : bA o = o.path.length + wL wS o.names + wL wS o.values + bT o.resp:=rfl
 have Ac : bT o.resp = wL aJ o.resp.fields + o.resp.body.length:=rfl
 have hn:=bk (w:=wS) o.names
 have hv:=bk (w:=wS) o.values
 have hvl:=Gh o.resp.fields
 unfold gm Bj
 have u1:=JE  o.resp (by omega)
 try simp at u1
 have u2:=yS  o.path (by omega)
 try simp at u2
 have u3:=JK  o.names (by omega) (fun w hw=>by have:=xX hw; omega)
 try simp at u3
 have u4:=JG  o.resp.fields (by omega)
 try simp at u4
 have u5:=JJ  o.names (jI o.resp.fields) (by omega) (by omega)
 try simp at u5
 have u6:=Hy  o (by omega)
 try simp at u6
 by_cases g1 : nC o.resp = true
 rotate_left
 ·simp -implicitDefEqProofs [iw,u1,u2,u3,u4,u5,u6,g1]
 by_cases g2 : fP o.path = true
 rotate_left
 ·simp -implicitDefEqProofs [iw,u1,u2,u3,u4,u5,u6,g1,g2]
 by_cases g3 : 0≤o.t
 rotate_left
 ·simp -implicitDefEqProofs [iw,u1,u2,u3,u4,u5,u6,g1,g2,eq_false g3]
 by_cases g4 : o.t≤1000000
 rotate_left
 ·simp -implicitDefEqProofs [iw,u1,u2,u3,u4,u5,u6,g1,g2,eq_true g3,eq_false g4]
 by_cases g5 : aF ek o.names = true
 rotate_left
 ·simp -implicitDefEqProofs [iw,u1,u2,u3,u4,u5,u6,g1,g2,eq_true g3,eq_true g4,g5]
 by_cases g6 : (o.names.length : Int)≤4
 rotate_left
 ·simp -implicitDefEqProofs [iw,u1,u2,u3,u4,u5,u6,g1,g2,eq_true g3,eq_true g4,g5,eq_false g6]
 by_cases g7 : o.names = jI o.resp.fields
 rotate_left
 ·simp -implicitDefEqProofs [iw,u1,u2,u3,u4,u5,u6,g1,g2,eq_true g3,eq_true g4,g5,eq_true g6,eq_false g7]
 by_cases g8 : o.values.length = o.names.length
 rotate_left
 ·have fJ : ¬ (o.values.length : Int) = o.names.length:=by omega
  simp -implicitDefEqProofs [iw,u1,u2,u3,u4,u5,u6,g1,g2,eq_true g3,eq_true g4,g5,eq_true g6,eq_true g7,eq_false g8,eq_false fJ]
 have fJ : (o.values.length : Int) = o.names.length:=by omega
 simp -implicitDefEqProofs [iw,u1,u2,u3,u4,u5,u6,g1,g2,eq_true g3,eq_true g4,g5,eq_true g6,eq_true g7,eq_true g8,eq_true fJ]
 all_goals (repeat' split) <;> first | rfl | omega | (simp_all; done) | (simp_all; omega) | skip
theorem GA (o : Ob) (hb : wL wS o.values≤1073741824) : aH (ai (ev LI TT) (ak TT) rK) [(1,.ptr .own (cL .af o)),(5,.ay 1 [] 0 2),(6,.row .af 1 (o.values.map eS)),(7,.int .i64 o.values.length),(8,.int .i64 0)] = if aF gp (o.values) = true then some (.exit 0,[(1,.ptr .own (cL .af o)),(5,.ay 1 [] 0 2),(6,.row .af 1 (o.values.map eS)),(7,.int .i64 o.values.length),(8,.int .i64 (o.values).length),(9,.bool false)]) else some (.ret,[(2,.bool false)]):=by
 refine bX (f:=ai (ev LI TT) (ak TT) rK) (o.values) (fun i=>[(1,.ptr .own (cL .af o)),(5,.ay 1 [] 0 2),(6,.row .af 1 (o.values.map eS)),(7,.int .i64 o.values.length),(8,.int .i64 i)]) gp _ _ (fun i b hi hl=>?_) ?_
 ·have hw:=aM i (by have:=bk (w:=wS) o.values; omega)
  obtain ⟨_,rfl⟩:=List.getElem?_eq_some_iff.1 hi
  have hm:=xX (List.getElem_mem hl)
  have u1:=yx  o.values[i] (by omega)
  try simp at u1
  simp -implicitDefEqProofs [rK,Ak,hl,hw,u1]
  all_goals (repeat' split) <;> first | rfl | omega | (simp_all; done) | (simp_all; omega) | skip
 ·simp -implicitDefEqProofs [rK,Ak]
theorem yu (o : Ob) (hb : bA o≤1073741824) : ev LI TT 205 [.agg (cL .af o)] = some (.bool ((gm o)),[.dead]):=by
 rw [az (b:=ic) (rs:=[.t 2]) (n:=1) rfl rfl]
 have hw : bA o = o.path.length + wL wS o.names + wL wS o.values + bT o.resp:=rfl
 have Ac : bT o.resp = wL aJ o.resp.fields + o.resp.body.length:=rfl
 have hn:=bk (w:=wS) o.names
 have hv:=bk (w:=wS) o.values
 have hvl:=Gh o.resp.fields
 unfold gm Bj
 have u1:=Ir  o.resp (by omega)
 try simp at u1
 have u2:=yy  o.path (by omega)
 try simp at u2
 have u3:=Iz  o.names (by omega) (fun w hw=>by have:=xX hw; omega)
 try simp at u3
 have u4:=Iw  o.resp.fields (by omega)
 try simp at u4
 have u5:=JN  o.names (jI o.resp.fields) (by omega)
 try simp at u5
 have u6:=GA  o (by omega)
 try simp at u6
 by_cases g1 : aF gp o.values = true
 rotate_left
 ·simp -implicitDefEqProofs [ic,u1,u2,u3,u4,u5,u6,g1]
 by_cases g2 : fP o.path = true
 rotate_left
 ·simp -implicitDefEqProofs [ic,u1,u2,u3,u4,u5,u6,g1,g2]
 by_cases g3 : 0≤o.t
 rotate_left
 ·simp -implicitDefEqProofs [ic,u1,u2,u3,u4,u5,u6,g1,g2,eq_false g3]
 by_cases g4 : o.t≤1000000
 rotate_left
 ·simp -implicitDefEqProofs [ic,u1,u2,u3,u4,u5,u6,g1,g2,eq_true g3,eq_false g4]
 by_cases g8 : o.values.length = o.names.length
 rotate_left
 ·have fJ : ¬ (o.values.length : Int) = o.names.length:=by omega
  simp -implicitDefEqProofs [ic,u1,u2,u3,u4,u5,u6,g1,g2,eq_true g3,eq_true g4,eq_false g8,eq_false fJ]
 have fJ : (o.values.length : Int) = o.names.length:=by omega
 by_cases h5 : aF ek o.names = true
 rotate_left
 ·simp -implicitDefEqProofs [ic,u1,u2,u3,u4,u5,u6,g1,g2,eq_true g3,eq_true g4,eq_true g8,eq_true fJ,h5]
 by_cases h6 : (o.names.length : Int)≤4
 rotate_left
 ·simp -implicitDefEqProofs [ic,u1,u2,u3,u4,u5,u6,g1,g2,eq_true g3,eq_true g4,eq_true g8,eq_true fJ,h5,eq_false h6]
 by_cases h7 : nC o.resp = true
 rotate_left
 ·simp -implicitDefEqProofs [ic,u1,u2,u3,u4,u5,u6,g1,g2,eq_true g3,eq_true g4,eq_true g8,eq_true fJ,h5,eq_true h6,h7]
 simp -implicitDefEqProofs [ic,u1,u2,u3,u4,u5,u6,g1,g2,eq_true g3,eq_true g4,eq_true g8,eq_true fJ,h5,eq_true h6,h7]
 all_goals (repeat' split) <;> first | rfl | omega | (simp_all; done) | (simp_all; omega) | skip
theorem CO (b : Bn) (hb : aQ b≤1073741824) : ev LI TT 94 [.agg (br b)] = some (.bool ((gv b)),[.dead]):=by
 rw [az (b:=kF) (rs:=[.t 2]) (n:=1) rfl rfl]
 have hw : aQ b = b.a.length + b.b.length:=rfl
 unfold gv
 have u1:=yS  b.a (by omega)
 try simp at u1
 have u2:=yP  b.a (by omega)
 try simp at u2
 have u3:=yR  b.b (by omega)
 try simp at u3
 by_cases g1 : 0≤b.t
 rotate_left
 ·simp -implicitDefEqProofs [kF,u1,u2,u3,eq_false g1]
 by_cases g2 : b.t≤1000000
 rotate_left
 ·simp -implicitDefEqProofs [kF,u1,u2,u3,eq_true g1,eq_false g2]
 by_cases h1 : b.kind = 1
 ·by_cases h2 : fP b.a = true <;> simp -implicitDefEqProofs [kF,u1,u2,u3,eq_true g1,eq_true g2,h1,h2]
 by_cases h2 : b.kind = 2
 ·by_cases h3 : fP b.a = true <;> simp -implicitDefEqProofs [kF,u1,u2,u3,eq_true g1,eq_true g2,h2,h3]
 by_cases h3 : b.kind = 3
 ·by_cases h4 : ek b.a = true <;> simp -implicitDefEqProofs [kF,u1,u2,u3,eq_true g1,eq_true g2,h3,h4]
 simp -implicitDefEqProofs [kF,u1,u2,u3,eq_true g1,eq_true g2,h1,h2,h3]
 all_goals (repeat' split) <;> first | rfl | omega | (simp_all; done) | (simp_all; omega) | skip
theorem CB (b : Bn) (hb : aQ b≤1073741824) : ev LI TT 178 [.agg (br b)] = some (.bool ((gv b)),[.dead]):=by
 rw [az (b:=j8) (rs:=[.t 2]) (n:=1) rfl rfl]
 have hw : aQ b = b.a.length + b.b.length:=rfl
 unfold gv
 have u1:=yy  b.a (by omega)
 try simp at u1
 have u2:=yw  b.a (by omega)
 try simp at u2
 have u3:=yx  b.b (by omega)
 try simp at u3
 by_cases g1 : 0≤b.t
 rotate_left
 ·simp -implicitDefEqProofs [j8,u1,u2,u3,eq_false g1]
 by_cases g2 : b.t≤1000000
 rotate_left
 ·simp -implicitDefEqProofs [j8,u1,u2,u3,eq_true g1,eq_false g2]
 by_cases h1 : b.kind = 1
 ·by_cases h2 : fP b.a = true <;> simp -implicitDefEqProofs [j8,u1,u2,u3,eq_true g1,eq_true g2,h1,h2]
 by_cases h2 : b.kind = 2
 ·by_cases h3 : fP b.a = true <;> simp -implicitDefEqProofs [j8,u1,u2,u3,eq_true g1,eq_true g2,h2,h3]
 by_cases h3 : b.kind = 3
 ·by_cases h4 : ek b.a = true <;> simp -implicitDefEqProofs [j8,u1,u2,u3,eq_true g1,eq_true g2,h3,h4]
 simp -implicitDefEqProofs [j8,u1,u2,u3,eq_true g1,eq_true g2,h1,h2,h3]
 all_goals (repeat' split) <;> first | rfl | omega | (simp_all; done) | (simp_all; omega) | skip
@[simp] theorem Um (t : Int) : ev LI TT 219 [.int .i64 t] = some (.bool ((decide (0≤t∧t≤19))),[.dead]):=by
 rw [az (b:=vN) (rs:=[.t 2]) (n:=1) rfl rfl]
 simp -implicitDefEqProofs [vN]
 all_goals (repeat' split) <;> first | rfl | omega | (simp_all; done) | (simp_all; omega) | skip
@[simp] theorem Un (t : Int) : ev LI TT 179 [.int .i64 t] = some (.bool ((decide (5≤t∧t≤19))),[.dead]):=by
 rw [az (b:=vO) (rs:=[.t 2]) (n:=1) rfl rfl]
 simp -implicitDefEqProofs [vO]
 all_goals (repeat' split) <;> first | rfl | omega | (simp_all; done) | (simp_all; omega) | skip
theorem Hp (d : eo) (hb : d.pending.length≤9223372036854775807) : aH (ai (ev LI TT) (ak TT) tB) [(1,.ptr .own (fU .af d)),(3,.int .i64 0)] = if aF nA (d.pending) = true then some (.exit 0,[(1,.ptr .own (fU .af d)),(3,.int .i64 (d.pending).length),(8,.bool false)]) else some (.ret,[(2,.bool false)]):=by
 refine bX (f:=ai (ev LI TT) (ak TT) tB) (d.pending) (fun i=>[(1,.ptr .own (fU .af d)),(3,.int .i64 i)]) nA _ _ (fun i b hi hl=>?_) ?_
 ·have hw:=aM i (by first | omega | (simp at hl; omega))
  obtain ⟨_,rfl⟩:=List.getElem?_eq_some_iff.1 hi
  simp -implicitDefEqProofs [tB,BG,hl,hw,nA]
  all_goals (repeat' split) <;> first | rfl | omega | (simp_all; done) | (simp_all; omega) | skip
 ·simp -implicitDefEqProofs [tB,BG]
theorem Jz (d : eo) (hb : d.pending.length≤9223372036854775807) : ev LI TT 119 [.agg (fU .af d)] = some (.bool ((ny d)),[.dead]):=by
 rw [az (b:=xg) (rs:=[.t 2]) (n:=1) rfl rfl]
 unfold ny
 have u1:=Hp  d hb
 try simp at u1
 simp -implicitDefEqProofs [xg,u1]
 all_goals (repeat' split) <;> first | rfl | omega | (simp_all; done) | (simp_all; omega) | skip
theorem Gu (d : eo) (hb : d.pending.length≤9223372036854775807) : aH (ai (ev LI TT) (ak TT) rF) [(1,.ptr .own (fU .af d)),(5,.ay 1 [] 0 1),(6,.row .af 2 (d.pending.map eW)),(7,.int .i64 d.pending.length),(8,.int .i64 0)] = if aF nA (d.pending) = true then some (.exit 0,[(1,.ptr .own (fU .af d)),(5,.ay 1 [] 0 1),(6,.row .af 2 (d.pending.map eW)),(7,.int .i64 d.pending.length),(8,.int .i64 (d.pending).length),(9,.bool false)]) else some (.ret,[(2,.bool false)]):=by
 refine bX (f:=ai (ev LI TT) (ak TT) rF) (d.pending) (fun i=>[(1,.ptr .own (fU .af d)),(5,.ay 1 [] 0 1),(6,.row .af 2 (d.pending.map eW)),(7,.int .i64 d.pending.length),(8,.int .i64 i)]) nA _ _ (fun i b hi hl=>?_) ?_
 ·have hw:=aM i (by first | omega | (simp at hl; omega))
  obtain ⟨_,rfl⟩:=List.getElem?_eq_some_iff.1 hi
  simp -implicitDefEqProofs [rF,Ah,hl,hw,nA]
  all_goals (repeat' split) <;> first | rfl | omega | (simp_all; done) | (simp_all; omega) | skip
 ·simp -implicitDefEqProofs [rF,Ah]
theorem Im (d : eo) (hb : d.pending.length≤9223372036854775807) : ev LI TT 128 [.agg (fU .af d)] = some (.bool ((ny d)),[.dead]):=by
 rw [az (b:=vr) (rs:=[.t 2]) (n:=1) rfl rfl]
 unfold ny
 have u1:=Gu  d hb
 try simp at u1
 simp -implicitDefEqProofs [vr,u1]
 all_goals (repeat' split) <;> first | rfl | omega | (simp_all; done) | (simp_all; omega) | skip
end M
set_option maxHeartbeats 4000000
namespace M
open Go
theorem D8 (fs : List aL) (n v : ah) : (decide (cE fs n = some v)) = ((cE fs n).isSome && decide ((cE fs n).getD [] = v)):=by
 cases cE fs n <;> simp
theorem Qo (p s : ah) : p.isPrefixOf s = (decide (p.length≤s.length) && decide (s.take p.length = p)):=by
 have:=Lib.hasPrefix_of_take s p
 unfold Lib.hasPrefix at this
 rw [← this]
 congr 1
 rw [Bool.eq_iff_iff]
 simp
theorem JA (b : Bn) (o : Ob) (h1 : aQ b≤1073741824) (h2 : bA o≤1073741824) : ev LI TT 139 [.agg (br b),.agg (cL .af o)] = some (.bool (hY b o),[.dead,.dead]):=by
 rw [az (b:=jd) (rs:=[.t 4]) (n:=2) rfl rfl]
 have hw : aQ b = b.a.length + b.b.length:=rfl
 have Ac : bA o = o.path.length + wL wS o.names + wL wS o.values + bT o.resp:=rfl
 have oF : bT o.resp = wL aJ o.resp.fields + o.resp.body.length:=rfl
 have l1:=bk (w:=aJ) o.resp.fields
 unfold hY
 rw [D8,Qo]
 have u1:=CO  b h1
 try simp at u1
 have u2:=yN  o (by omega)
 try simp at u2
 have u3:=yM  o.resp.fields b.a (by omega)
 try simp at u3
 generalize gv b = b1 at u1
 cases b1
 ·simp -implicitDefEqProofs [jd,u1]
 generalize gm o = b2 at u2
 cases b2
 ·simp -implicitDefEqProofs [jd,u1,u2]
 by_cases g1 : o.t≤b.t
 rotate_left
 ·have fI : b.t < o.t:=by omega
  simp -implicitDefEqProofs [jd,u1,u2,g1,fI]
 have fI : ¬ b.t < o.t:=by omega
 by_cases g2 : b.kind = 1
 ·rw [g2] at u1
  simp -implicitDefEqProofs [jd,u1,u2,g1,fI,g2]
 by_cases g3 : b.kind = 2
 ·rw [g3] at u1
  by_cases g4 : b.a.length≤o.path.length
  ·have lp : (b.a.length : Int)≤o.path.length:=by omega
   by_cases g5 : o.path.take b.a.length = b.a
   ·simp -implicitDefEqProofs [jd,u1,u2,g1,fI,g2,g3,g4,lp,Lib.extract_mk,eq_true g5]
   ·simp -implicitDefEqProofs [jd,u1,u2,g1,fI,g2,g3,g4,lp,Lib.extract_mk,eq_false g5]
  ·have lp : ¬ (b.a.length : Int)≤o.path.length:=by omega
   simp -implicitDefEqProofs [jd,u1,u2,g1,fI,g2,g3,g4,lp]
 generalize (cE o.resp.fields b.a).isSome = b3 at u3
 cases b3
 all_goals
 simp -implicitDefEqProofs [jd,u1,u2,u3,g1,fI,g2,g3]
 all_goals (repeat' split) <;> first | rfl | omega | (simp_all; done) | (simp_all; omega) | skip
theorem Io (b : Bn) (o : Ob) (h1 : aQ b≤1073741824) (h2 : bA o≤1073741824) : ev LI TT 145 [.agg (br b),.agg (cL .af o)] = some (.bool (hY b o),[.dead,.dead]):=by
 rw [az (b:=kg) (rs:=[.t 4]) (n:=2) rfl rfl]
 have hw : aQ b = b.a.length + b.b.length:=rfl
 have Ac : bA o = o.path.length + wL wS o.names + wL wS o.values + bT o.resp:=rfl
 have oF : bT o.resp = wL aJ o.resp.fields + o.resp.body.length:=rfl
 have l1:=bk (w:=aJ) o.resp.fields
 unfold hY
 rw [D8,show b.a.isPrefixOf o.path = Lib.hasPrefix o.path b.a from rfl]
 have u1:=CB  b h1
 try simp at u1
 have u2:=yu  o (by omega)
 try simp at u2
 have u3:=yt  o.resp.fields b.a (by omega)
 try simp at u3
 have u4:=JR  o.path b.a
 try simp at u4
 by_cases g1 : o.t≤b.t
 rotate_left
 ·have fI : b.t < o.t:=by omega
  simp -implicitDefEqProofs [kg,u1,u2,g1,fI]
 have fI : ¬ b.t < o.t:=by omega
 generalize gv b = b1 at u1
 cases b1
 ·simp -implicitDefEqProofs [kg,u1,g1,fI]
 generalize gm o = b2 at u2
 cases b2
 ·simp -implicitDefEqProofs [kg,u1,u2,g1,fI]
 by_cases g2 : b.kind = 1
 ·rw [g2] at u1
  simp -implicitDefEqProofs [kg,u1,u2,g1,fI,g2]
 by_cases g3 : b.kind = 2
 ·rw [g3] at u1
  simp -implicitDefEqProofs [kg,u1,u2,u4,g1,fI,g2,g3]
 generalize (cE o.resp.fields b.a).isSome = b3 at u3
 cases b3
 all_goals
 simp -implicitDefEqProofs [kg,u1,u2,u3,u4,g1,fI,g2,g3]
 all_goals (repeat' split) <;> first | rfl | omega | (simp_all; done) | (simp_all; omega) | skip
theorem Ep (l : List Bn) (o : Ob) : aF (fun b=>!hY b o) l = !eC l o:=by
 unfold eC aF
 induction l with
 | nil=>rfl
 | cons b l ih=>simp only [List.all_cons,List.any_cons,ih,Bool.not_or]
theorem Hr (l : List Bn) (o : Ob) (h1 : wL aQ l≤1073741824) (h2 : bA o≤1073741824) : aH (ai (ev LI TT) (ak TT) tD) [(0,.row .af 4 (l.map br)),(3,.ptr .own (cL .af o)),(5,.int .i64 0)] = if aF (fun b=>!hY b o) (l) = true then some (.exit 0,[(0,.row .af 4 (l.map br)),(3,.ptr .own (cL .af o)),(5,.int .i64 (l).length),(9,.bool false)]) else some (.ret,[(4,.bool true)]):=by
 refine bX (f:=ai (ev LI TT) (ak TT) tD) (l) (fun i=>[(0,.row .af 4 (l.map br)),(3,.ptr .own (cL .af o)),(5,.int .i64 i)]) (fun b=>!hY b o) _ _ (fun i b hi hl=>?_) ?_
 ·have hw:=aM i (by have:=bk (w:=aQ) l; omega)
  obtain ⟨_,rfl⟩:=List.getElem?_eq_some_iff.1 hi
  have hm:=xV (List.getElem_mem hl)
  have u1:=JA l[i] o (by omega) h2
  try simp at u1
  cases hh : hY l[i] o <;> rw [hh] at u1
  all_goals
  simp -implicitDefEqProofs [tD,BH,hl,hw,u1,hh]
  all_goals (repeat' split) <;> first | rfl | omega | (simp_all; done) | (simp_all; omega) | skip
 ·simp -implicitDefEqProofs [tD,BH]
theorem CQ (l : List Bn) (o : Ob) (h1 : wL aQ l≤1073741824) (h2 : bA o≤1073741824) : ev LI TT 56 [.row .af 4 (l.map br),.agg (cL .af o)] = some (.bool (eC l o),[.dead,.dead]):=by
 rw [az (b:=xj) (rs:=[.t 4]) (n:=2) rfl rfl]
 have u1:=Hr  l o h1 h2
 try simp at u1
 rw [Ep] at u1
 cases hh : eC l o <;> rw [hh] at u1
 all_goals try simp at u1
 all_goals
 simp -implicitDefEqProofs [xj,u1]
 all_goals (repeat' split) <;> first | rfl | omega | (simp_all; done) | (simp_all; omega) | skip
theorem Gw (l : List Bn) (o : Ob) (h1 : wL aQ l≤1073741824) (h2 : bA o≤1073741824) : aH (ai (ev LI TT) (ak TT) rH) [(0,.row .af 4 (l.map br)),(3,.ptr .own (cL .af o)),(7,.row .af 4 (l.map br)),(8,.int .i64 l.length),(9,.int .i64 0)] = if aF (fun b=>!hY b o) (l) = true then some (.exit 0,[(0,.row .af 4 (l.map br)),(3,.ptr .own (cL .af o)),(7,.row .af 4 (l.map br)),(8,.int .i64 l.length),(9,.int .i64 (l).length),(10,.bool false)]) else some (.ret,[(4,.bool true)]):=by
 refine bX (f:=ai (ev LI TT) (ak TT) rH) (l) (fun i=>[(0,.row .af 4 (l.map br)),(3,.ptr .own (cL .af o)),(7,.row .af 4 (l.map br)),(8,.int .i64 l.length),(9,.int .i64 i)]) (fun b=>!hY b o) _ _ (fun i b hi hl=>?_) ?_
 ·have hw:=aM i (by have:=bk (w:=aQ) l; omega)
  obtain ⟨_,rfl⟩:=List.getElem?_eq_some_iff.1 hi
  have hm:=xV (List.getElem_mem hl)
  have u1:=Io l[i] o (by omega) h2
  try simp at u1
  cases hh : hY l[i] o <;> rw [hh] at u1
  all_goals
  simp -implicitDefEqProofs [rH,Ai,hl,hw,u1,hh]
  all_goals (repeat' split) <;> first | rfl | omega | (simp_all; done) | (simp_all; omega) | skip
 ·simp -implicitDefEqProofs [rH,Ai]
theorem CD (l : List Bn) (o : Ob) (h1 : wL aQ l≤1073741824) (h2 : bA o≤1073741824) : ev LI TT 61 [.row .af 4 (l.map br),.agg (cL .af o)] = some (.bool (eC l o),[.dead,.dead]):=by
 rw [az (b:=vu) (rs:=[.t 4]) (n:=2) rfl rfl]
 have u1:=Gw  l o h1 h2
 try simp at u1
 rw [Ep] at u1
 cases hh : eC l o <;> rw [hh] at u1
 all_goals try simp at u1
 all_goals
 simp -implicitDefEqProofs [vu,u1]
 all_goals (repeat' split) <;> first | rfl | omega | (simp_all; done) | (simp_all; omega) | skip
end M
set_option maxHeartbeats 4000000
namespace M
open Go
structure Cc where
 ns : Bool
 nc : Bool
 pr : Bool
 mu : Bool
 ha : Bool
 yb : Int
@[simp] def dA (c : Cc) : List X:=[.bool c.ns,.bool c.nc,.bool c.pr,.bool c.mu,.bool c.ha,.int .i64 c.yb]
def cZ : Cc:=⟨false,false,false,false,false,0⟩
def s5 : ah:=[110,111,45,115,116,111,114,101]
def sZ : ah:=[110,111,45,99,97,99,104,101]
def s6 : ah:=[112,114,105,118,97,116,101]
def sY : ah:=[109,117,115,116,45,114,101,118,97,108,105,100,97,116,101]
def gI : ah:=[109,97,120,45,97,103,101,61]
def ob (w : ah) : Option Nat:=if Lib.hasPrefix w gI = true then some ((cO (w.drop 8)).getD 0) else none
def jk (c : Cc) (w : ah) : Cc:=if w = s5 then { c with ns:=true } else if w = sZ then { c with nc:=true } else if w = s6 then { c with pr:=true } else if w = sY then { c with mu:=true } else
 match ob w with
 | some n=>{ c with ha:=true,yb:=if c.ha = true then min (n : Int) c.yb else n }
 | none=>c
def mz (v : ah) : Cc:=(en v).foldl (fun c w=>jk c (bt w)) cZ
def oc (fs : List aL) : Cc:=mz ((cE fs iW).getD [])
theorem Bk : (⟨#[110,111,45,115,116,111,114,101]⟩ : ByteArray) = ⟨s5.toArray⟩∧(⟨#[110,111,45,99,97,99,104,101]⟩ : ByteArray) = ⟨sZ.toArray⟩∧(⟨#[112,114,105,118,97,116,101]⟩ : ByteArray) = ⟨s6.toArray⟩∧(⟨#[109,117,115,116,45,114,101,118,97,108,105,100,97,116,101]⟩ : ByteArray) = ⟨sY.toArray⟩∧(⟨#[109,97,120,45,97,103,101,61]⟩ : ByteArray) = ⟨gI.toArray⟩:=⟨rfl,rfl,rfl,rfl,rfl⟩
theorem JI (w : ah) (hb : w.length≤1073741824) : ev LI TT 255 [.str ⟨w.toArray⟩] = some (.au [.int .i64 ((((ob w).getD 0 : Nat) : Int)),.bool ((ob w).isSome)],[.dead]):=by
 rw [az (b:=p6) (rs:=[.t 2,.t 3]) (n:=1) rfl rfl]
 have hp:=Lib.hasPrefix_of_take w gI
 have l8 : gI.length = 8:=rfl
 have z : gI.toArray.size = 8:=rfl
 obtain ⟨t1,t2,t3,t4,t5⟩:=Bk
 rw [l8] at hp
 unfold ob
 by_cases g8 : w.length < 8
 ·have : Lib.hasPrefix w gI = false:=by rw [← hp]; simp; omega
  have fJ : (w.length : Int) < 8:=by omega
  simp -implicitDefEqProofs [p6,t5,this,g8,fJ,ByteArray.size,z,l8]
 have fJ : ¬ (w.length : Int) < 8:=by omega
 have g9 : (8 : Int)≤w.length:=by omega
 have g10 : 8≤w.length:=by omega
 have g11 : decide (8≤w.length) = true:=by simp; omega
 rw [g11,Bool.true_and] at hp
 by_cases g : w.take 8 = gI
 rotate_left
 ·have : Lib.hasPrefix w gI = false:=by rw [← hp]; simpa using g
  simp -implicitDefEqProofs [p6,t5,this,g8,fJ,g9,g10,ByteArray.size,z,l8,Lib.extract_mk,eq_false g]
 have : Lib.hasPrefix w gI = true:=by rw [← hp]; simpa using g
 have u1:=JC (w.drop 8) (by simp; omega)
 have hz : (w.drop 8).take (w.length - 8) = w.drop 8:=List.take_of_length_le (by simp)
 simp -implicitDefEqProofs [p6,t5,this,g8,fJ,g9,g10,ByteArray.size,z,l8,Lib.extract_mk,eq_true g,u1,hz]
 all_goals (repeat' split) <;> first | rfl | omega | (simp_all; done) | (simp_all; omega) | skip
theorem Ho (ws : List ah) (hl0 : ws.length≤1073741825) (hb : ∀ w∈ws,w.length≤1073741824) (g : Cc) : aH (ai (ev LI TT) (ak TT) jE) [(2,.ptr .own (dA cZ)),(3,.ptr .own (dA g)),(4,.row .own 1 (ws.map eS)),(5,.int .i64 0)] = some (.exit 0,[(2,.ptr .own (dA cZ)),(3,.ptr .own (dA ((ws).foldl (fun c w=>jk c (bt w)) g))),(4,.row .own 1 (ws.map eS)),(5,.int .i64 (ws).length),(15,.bool false)]):=by
 refine Bd (f:=ai (ev LI TT) (ak TT) jE) (ws) (fun i (g : Cc)=>[(2,.ptr .own (dA cZ)),(3,.ptr .own (dA g)),(4,.row .own 1 (ws.map eS)),(5,.int .i64 i)]) (fun c w=>jk c (bt w)) (fun g=>[(2,.ptr .own (dA cZ)),(3,.ptr .own (dA g)),(4,.row .own 1 (ws.map eS)),(5,.int .i64 (ws).length),(15,.bool false)]) (fun _ _=>True) g trivial (fun i b g hi hl _=>?_) (fun _ _ _ _ _=>trivial) (fun g _=>?_)
 ·have hw:=aM i (by first | omega | (simp at hl; omega))
  obtain ⟨_,rfl⟩:=List.getElem?_eq_some_iff.1 hi
  obtain ⟨t1,t2,t3,t4,t5⟩:=Bk
  have hx:=hb _ (List.getElem_mem hl)
  have v1:=CR ws[i] hx
  have v2 : (bt ws[i]).length≤1073741824:=by simp [bt]; exact hx
  generalize bt ws[i] = w at v1 v2
  have v3:=JI w v2
  try simp at v1
  try simp at v3
  unfold jk
  by_cases g1 : w = s5
  ·simp -implicitDefEqProofs [jE,lX,hl,hw,v1,v3,t1,eq_true g1,cZ]
  by_cases g2 : w = sZ
  ·simp -implicitDefEqProofs [jE,lX,hl,hw,v1,v3,t1,t2,eq_false g1,eq_true g2,cZ]
  by_cases g3 : w = s6
  ·simp -implicitDefEqProofs [jE,lX,hl,hw,v1,v3,t1,t2,t3,eq_false g1,eq_false g2,eq_true g3,cZ]
  by_cases g4 : w = sY
  ·simp -implicitDefEqProofs [jE,lX,hl,hw,v1,v3,t1,t2,t3,t4,eq_false g1,eq_false g2,eq_false g3,eq_true g4,cZ]
  cases ha : ob w with
  | none =>
   rw [ha] at v3
   simp at v3
   simp -implicitDefEqProofs [jE,lX,hl,hw,v1,v3,t1,t2,t3,t4,eq_false g1,eq_false g2,eq_false g3,eq_false g4,cZ]
  | some n =>
  rw [ha] at v3
  simp at v3
  cases gh : g.ha
  all_goals
  simp -implicitDefEqProofs [jE,lX,hl,hw,v1,v3,t1,t2,t3,t4,eq_false g1,eq_false g2,eq_false g3,eq_false g4,gh,cZ]
  all_goals (repeat' split) <;> first | rfl | omega | (simp_all; done) | (simp_all; omega) | skip
 ·simp -implicitDefEqProofs [jE,lX]
theorem Jy (v : ah) (hb : v.length≤1073741824) : ev LI TT 163 [.str ⟨v.toArray⟩] = some (.agg (dA (mz v)),[.dead]):=by
 rw [az (b:=xe) (rs:=[.c 2 6 true 122]) (n:=1) rfl rfl]
 have hm:=xY v
 have hn:=ud v
 have u1:=CS  v hb
 try simp at u1
 have u2:=Ho  (en v) (by omega) (fun w hw=>by have:=hm w hw; omega) cZ
 try simp at u2
 rw [show (en v).foldl (fun c w=>jk c (bt w)) cZ = mz v from rfl] at u2
 simp [cZ] at u2
 simp -implicitDefEqProofs [xe,u1,u2,cZ]
 all_goals (repeat' split) <;> first | rfl | omega | (simp_all; done) | (simp_all; omega) | skip
theorem Jx (fs : List aL) (hb : wL aJ fs≤1073741824) : ev LI TT 71 [.row .af 2 (fs.map aI)] = some (.agg (dA (oc fs)),[.dead]):=by
 rw [az (b:=xd) (rs:=[.c 2 6 true 122]) (n:=1) rfl rfl]
 have hfl:=bk (w:=aJ) fs
 have hg:=qO fs iW
 have t3 : (⟨#[99,97,99,104,101,45,99,111,110,116,114,111,108]⟩ : ByteArray) = ⟨iW.toArray⟩:=rfl
 have u1:=yM  fs iW (by omega)
 try simp at u1
 have u2:=Jy  ((cE fs iW).getD []) (by omega)
 try simp at u2
 rw [show mz ((cE fs iW).getD []) = oc fs from rfl] at u2
 simp -implicitDefEqProofs [xd,u1,u2,t3]
 all_goals (repeat' split) <;> first | rfl | omega | (simp_all; done) | (simp_all; omega) | skip
theorem JW {w : ah} (h : w = s5∨w = sZ∨w = s6∨w = sY) : Lib.hasPrefix w gI = false:=by
 rcases h with rfl | rfl | rfl | rfl <;> decide
theorem Il (c : Cc) (w : ah) (hb : w.length≤1073741824) : ev LI TT 298 [.ptr .own (dA c),.str ⟨w.toArray⟩] = some (.au [],[.ptr .own (dA (jk c w)),.dead]):=by
 rw [az (b:=ke) (rs:=[]) (n:=2) rfl rfl]
 obtain ⟨t1,t2,t3,t4,t5⟩:=Bk
 have v3:=JQ w gI (by omega)
 have hword:=JW (w:=w)
 unfold jk
 by_cases g1 : w = s5
 ·rw [hword (Or.inl g1)] at v3
  simp -implicitDefEqProofs [ke,v3,t1,t5,eq_true g1]
 by_cases g2 : w = sZ
 ·rw [hword (by simp [g2])] at v3
  simp -implicitDefEqProofs [ke,v3,t1,t2,t5,eq_false g1,eq_true g2]
 by_cases g3 : w = s6
 ·rw [hword (by simp [g3])] at v3
  simp -implicitDefEqProofs [ke,v3,t1,t2,t3,t5,eq_false g1,eq_false g2,eq_true g3]
 by_cases g4 : w = sY
 ·rw [hword (by simp [g4])] at v3
  simp -implicitDefEqProofs [ke,v3,t1,t2,t3,t4,t5,eq_false g1,eq_false g2,eq_false g3,eq_true g4]
 unfold ob
 cases hp : Lib.hasPrefix w gI
 ·rw [hp] at v3
  simp -implicitDefEqProofs [ke,v3,t1,t2,t3,t4,t5,eq_false g1,eq_false g2,eq_false g3,eq_false g4]
 rw [hp,show Lib.trimPrefix w gI = w.drop 8 by unfold Lib.trimPrefix; rw [hp]; rfl] at v3
 have v4:=Iq (w.drop 8) (by simp; omega)
 try simp at v3
 try simp at v4
 generalize (cO (w.drop 8)).getD 0 = n at v4
 cases gh : c.ha
 all_goals
 simp -implicitDefEqProofs [ke,v3,v4,t1,t2,t3,t4,t5,eq_false g1,eq_false g2,eq_false g3,eq_false g4,gh]
 all_goals (repeat' split) <;> first | rfl | omega | (simp_all; done) | (simp_all; omega) | skip
theorem Gt (ws : List ah) (hl0 : ws.length≤1073741825) (hb : ∀ w∈ws,w.length≤1073741824) (g : Cc) : aH (ai (ev LI TT) (ak TT) rE) [(2,.ptr .own (dA cZ)),(3,.ptr .own (dA g)),(7,.row .own 1 (ws.map eS)),(8,.int .i64 ws.length),(9,.int .i64 0)] = some (.exit 0,[(2,.ptr .own (dA cZ)),(3,.ptr .own (dA ((ws).foldl (fun c w=>jk c (bt w)) g))),(7,.row .own 1 (ws.map eS)),(8,.int .i64 ws.length),(9,.int .i64 (ws).length),(10,.bool false)]):=by
 refine Bd (f:=ai (ev LI TT) (ak TT) rE) (ws) (fun i (g : Cc)=>[(2,.ptr .own (dA cZ)),(3,.ptr .own (dA g)),(7,.row .own 1 (ws.map eS)),(8,.int .i64 ws.length),(9,.int .i64 i)]) (fun c w=>jk c (bt w)) (fun g=>[(2,.ptr .own (dA cZ)),(3,.ptr .own (dA g)),(7,.row .own 1 (ws.map eS)),(8,.int .i64 ws.length),(9,.int .i64 (ws).length),(10,.bool false)]) (fun _ _=>True) g trivial (fun i b g hi hl _=>?_) (fun _ _ _ _ _=>trivial) (fun g _=>?_)
 ·have hw:=aM i (by first | omega | (simp at hl; omega))
  obtain ⟨_,rfl⟩:=List.getElem?_eq_some_iff.1 hi
  have hx:=hb _ (List.getElem_mem hl)
  have v1:=CE ws[i] hx
  have v2 : (bt ws[i]).length≤1073741824:=by simp [bt]; exact hx
  have v3:=Il g (bt ws[i]) v2
  try simp at v1
  try simp at v3
  simp -implicitDefEqProofs [rE,Ag,hl,hw,v1,v3,cZ]
  all_goals (repeat' split) <;> first | rfl | omega | (simp_all; done) | (simp_all; omega) | skip
 ·simp -implicitDefEqProofs [rE,Ag]
theorem Ik (v : ah) (hb : v.length≤1073741824) : ev LI TT 239 [.str ⟨v.toArray⟩] = some (.agg (dA (mz v)),[.dead]):=by
 rw [az (b:=vq) (rs:=[.c 2 6 true 122]) (n:=1) rfl rfl]
 have hm:=xY v
 have hn:=ud v
 have u1:=CG  v hb
 try simp at u1
 have u2:=Gt  (en v) (by omega) (fun w hw=>by have:=hm w hw; omega) cZ
 try simp at u2
 rw [show (en v).foldl (fun c w=>jk c (bt w)) cZ = mz v from rfl] at u2
 simp [cZ] at u2
 simp -implicitDefEqProofs [vq,u1,u2,cZ]
 all_goals (repeat' split) <;> first | rfl | omega | (simp_all; done) | (simp_all; omega) | skip
theorem Ij (fs : List aL) (hb : wL aJ fs≤1073741824) : ev LI TT 152 [.row .af 2 (fs.map aI)] = some (.agg (dA (oc fs)),[.dead]):=by
 rw [az (b:=vp) (rs:=[.c 2 6 true 122]) (n:=1) rfl rfl]
 have hfl:=bk (w:=aJ) fs
 have hg:=qO fs iW
 have t3 : (⟨#[99,97,99,104,101,45,99,111,110,116,114,111,108]⟩ : ByteArray) = ⟨iW.toArray⟩:=rfl
 have u1:=yt  fs iW (by omega)
 try simp at u1
 have u2:=Ik  ((cE fs iW).getD []) (by omega)
 try simp at u2
 rw [show mz ((cE fs iW).getD []) = oc fs from rfl] at u2
 simp -implicitDefEqProofs [vp,u1,u2,t3]
 all_goals (repeat' split) <;> first | rfl | omega | (simp_all; done) | (simp_all; omega) | skip
end M
set_option maxHeartbeats 4000000
namespace M
open Go
theorem yO (q : Rq) (hb : bD q≤1073741824) : ev LI TT 70 [.agg (eP .af q)] = some (.bool (ja q),[.dead]):=by
 rw [az (b:=pX) (rs:=[.t 2]) (n:=1) rfl rfl]
 have oF : bD q = q.path.length + wL aJ q.fields + q.body.length:=rfl
 unfold ja
 have u1:=yS  q.path (by omega)
 try simp at u1
 have u2:=CP  q.fields (by omega)
 try simp at u2
 by_cases g1 : 1≤q.method
 rotate_left
 ·simp -implicitDefEqProofs [pX,u1,u2,eq_false g1]
 by_cases g2 : q.method≤4
 rotate_left
 ·simp -implicitDefEqProofs [pX,u1,u2,eq_true g1,eq_false g2]
 cases g3 : fP q.path <;> cases g4 : jR q.fields <;> rw [g3] at u1 <;> rw [g4] at u2
 all_goals
 simp -implicitDefEqProofs [pX,u1,u2,eq_true g1,eq_true g2]
 all_goals (repeat' split) <;> first | rfl | omega | (simp_all; done) | (simp_all; omega) | skip
theorem CF (q : Rq) (hb : bD q≤1073741824) : ev LI TT 231 [.agg (eP .af q)] = some (.bool (ja q),[.dead]):=by
 rw [az (b:=oI) (rs:=[.t 2]) (n:=1) rfl rfl]
 have oF : bD q = q.path.length + wL aJ q.fields + q.body.length:=rfl
 unfold ja
 have u1:=yy  q.path (by omega)
 try simp at u1
 have u2:=CC  q.fields (by omega)
 try simp at u2
 by_cases g1 : 1≤q.method
 rotate_left
 ·simp -implicitDefEqProofs [oI,u1,u2,eq_false g1]
 by_cases g2 : q.method≤4
 rotate_left
 ·simp -implicitDefEqProofs [oI,u1,u2,eq_true g1,eq_false g2]
 cases g3 : fP q.path <;> cases g4 : jR q.fields <;> rw [g3] at u1 <;> rw [g4] at u2
 all_goals
 simp -implicitDefEqProofs [oI,u1,u2,eq_true g1,eq_true g2]
 all_goals (repeat' split) <;> first | rfl | omega | (simp_all; done) | (simp_all; omega) | skip
def mj (q : Rq) : Bool:=ja q && decide (q.method = 1) && !(oc q.fields).ns
def gq (a b : Rq) : Bool:=mj a && mj b && decide (a.path = b.path) && decide (a.fields = b.fields)
theorem CK (q : Rq) (hb : bD q≤1073741824) : ev LI TT 168 [.agg (eP .af q)] = some (.bool (mj q),[.dead]):=by
 rw [az (b:=vM) (rs:=[.t 2]) (n:=1) rfl rfl]
 have oF : bD q = q.path.length + wL aJ q.fields + q.body.length:=rfl
 unfold mj
 have u1:=CF  q hb
 try simp at u1
 have u2:=Ij  q.fields (by omega)
 try simp at u2
 cases g3 : ja q <;> rw [g3] at u1
 all_goals by_cases g4 : q.method = 1
 all_goals
 simp -implicitDefEqProofs [vM,u1,u2,g4]
 all_goals (repeat' split) <;> first | rfl | omega | (simp_all; done) | (simp_all; omega) | skip
theorem DM (a b : aL) : a = b↔(a.name = b.name∧a.value = b.value):=by cases a; cases b; simp
theorem HN (ps : List (aL×aL)) (hb : ps.length≤9223372036854775807) : aH (ai (ev LI TT) (ak TT) uf) [(0,.row .af 2 (ps.map fun x=>aI x.1)),(1,.row .af 2 (ps.map fun x=>aI x.2)),(12,.int .i64 ps.length),(13,.int .i64 0)] = if aF bH (ps) = true then some (.exit 0,[(0,.row .af 2 (ps.map fun x=>aI x.1)),(1,.row .af 2 (ps.map fun x=>aI x.2)),(12,.int .i64 ps.length),(13,.int .i64 ps.length),(14,.bool false)]) else some (.ret,[(4,.bool false)]):=by
 refine bX (f:=ai (ev LI TT) (ak TT) uf) (ps) (fun i=>[(0,.row .af 2 (ps.map fun x=>aI x.1)),(1,.row .af 2 (ps.map fun x=>aI x.2)),(12,.int .i64 ps.length),(13,.int .i64 i)]) bH _ _ (fun i b hi hl=>?_) ?_
 ·have hw:=aM i (by first | omega | (simp at hl; omega))
  obtain ⟨_,rfl⟩:=List.getElem?_eq_some_iff.1 hi
  simp -implicitDefEqProofs [uf,Ce,hl,hw,bH,DM]
  first | done | (split <;> simp_all; done) | (split <;> simp_all <;> (intro h; simp_all))
 ·simp -implicitDefEqProofs [uf,Ce]
theorem JM (a b : List aL) (hb : a.length≤9223372036854775807) : ev LI TT 245 [.row .af 2 (a.map aI),.row .af 2 (b.map aI)] = some (.bool (decide (a = b)),[.dead,.dead]):=by
 rw [az (b:=xZ) (rs:=[.t 4]) (n:=2) rfl rfl]
 simp -implicitDefEqProofs [xZ]
 by_cases h : a.length = b.length
 ·obtain ⟨ps,rfl,rfl⟩:=iB h
  have h1:=HN ps (by simpa using hb)
  have h2:=gQ ps
  simp at h1
  rw [← h2]
  cases h3 : aF bH ps <;> rw [h3] at h1 <;> simp [h1,Function.comp_def]
 ·have : ¬ a = b:=fun e=>h (by rw [e])
  simp [this]
  omega
theorem Ih (a : Rq) (b : Rq) (ha : bD a≤1073741824) (hb : bD b≤1073741824) : ev LI TT 232 [.agg (eP .af a),.agg (eP .af b)] = some (.bool (gq a b),[.dead,.dead]):=by
 rw [az (b:=mQ) (rs:=[.t 4]) (n:=2) rfl rfl]
 have oF : bD a = a.path.length + wL aJ a.fields + a.body.length:=rfl
 have l2:=bk (w:=aJ) a.fields
 unfold gq
 have u1:=CK  a ha
 try simp at u1
 have u2:=CK  b hb
 try simp at u2
 have u3:=JM  a.fields b.fields (by omega)
 try simp at u3
 generalize mj a = g1 at u1
 generalize mj b = g2 at u2
 generalize decide (a.fields = b.fields) = g4 at u3
 cases g1
 ·simp -implicitDefEqProofs [mQ,u1]
 cases g2
 ·simp -implicitDefEqProofs [mQ,u1,u2]
 by_cases g3 : a.path = b.path
 rotate_left
 ·simp -implicitDefEqProofs [mQ,u1,u2,eq_false g3]
 simp -implicitDefEqProofs [mQ,u1,u2,u3,eq_true g3]
 all_goals (repeat' split) <;> first | rfl | omega | (simp_all; done) | (simp_all; omega) | skip
theorem Gr {α : Type} [DecidableEq α] : ∀ {a b : List α},(∀ x∈a.zip b,¬ (decide (x.1≠x.2)) = true)→a.length = b.length→a = b
 | [],[],_,_=>rfl
 | x :: a,y :: b,h,hl=>by
  have h1:=h (x,y) (by simp)
  simp at h1
  have h2 : a = b:=Gr (fun z hz=>h z (by simp only [List.zip_cons_cons]; exact List.mem_cons_of_mem _ hz)) (by simpa using hl)
  rw [h1,h2]
theorem TU {α : Type} {a b : List α} {x : α×α} (hx : x∈a.zip b) (h : x.1≠x.2) : a≠b:=by
 rintro rfl
 have : ∀ {l : List α} {x : α×α},x∈l.zip l→x.1 = x.2:=by
  intro l
  induction l with
  | nil=>intro x h; simp at h
  | cons y l ih =>
   intro x h
   simp only [List.zip_cons_cons,List.mem_cons] at h
   rcases h with rfl | h
   ·rfl
   ·exact ih h
 exact h (this hx)
theorem HI (a : List aL) (b : List aL) (hb : a.length≤9223372036854775807) (gZ : b.length≤9223372036854775807) : aH (ai (ev LI TT) (ak TT) pY) [(0,.row .af 2 (a.map aI)),(1,.row .af 2 (b.map aI)),(5,.int .i64 0)] = (dc (fun x=>decide (x.1≠x.2)) 0 (a.zip b)).elim (some (.exit 0,[(0,.row .af 2 (a.map aI)),(1,.row .af 2 (b.map aI)),(5,.int .i64 (a.zip b).length),(15,.bool false)])) fun x=>some (.ret,(fun (i : Nat) b=>[(4,.bool false)]) x.1 x.2):=by
 refine sO (f:=ai (ev LI TT) (ak TT) pY) (a.zip b) (fun i=>[(0,.row .af 2 (a.map aI)),(1,.row .af 2 (b.map aI)),(5,.int .i64 i)]) (fun x=>decide (x.1≠x.2)) (fun (i : Nat) b=>[(4,.bool false)]) _ (fun i b hi hl=>?_) ?_
 ·have hw:=aM i (by first | omega | (simp at hl; omega))
  obtain ⟨_,rfl⟩:=List.getElem?_eq_some_iff.1 hi
  have ha : i < a.length:=by simp at hl; omega
  have hb' : i < b.length:=by simp at hl; omega
  simp -implicitDefEqProofs [pY,xw,hl,hw,ha,hb',DM]
 ·have hz : (a.zip b).length = min a.length b.length:=by simp
  rw [hz]
  by_cases hh : a.length≤b.length
  ·rw [Nat.min_eq_left hh]; simp -implicitDefEqProofs [pY,xw]
  have h1 : b.length≤a.length:=by omega
  have h2 : (b.length : Int) < a.length:=by omega
  have h3 : b.length < a.length:=by omega
  rw [Nat.min_eq_right h1]
  simp -implicitDefEqProofs [pY,xw,h2,h3]
theorem JH (a : List aL) (b : List aL) (hb : a.length≤9223372036854775807) (gZ : b.length≤9223372036854775807) : ev LI TT 229 [.row .af 2 (a.map aI),.row .af 2 (b.map aI)] = some (.bool (decide (a = b)),[.dead,.dead]):=by
 rw [az (b:=pZ) (rs:=[.t 4]) (n:=2) rfl rfl]
 have h:=HI a b hb gZ
 cases g : dc (fun x : aL×aL=>decide (x.1≠x.2)) 0 (a.zip b) with
 | some x =>
  obtain ⟨i,x⟩:=x
  obtain ⟨_,h1,h2⟩:=ov g
  have h3 : ¬ a = b:=TU (List.mem_of_getElem? h1) (by simpa using h2)
  rw [g] at h; simp only [Option.elim] at h; simp -implicitDefEqProofs [pZ,h,h3]
 | none =>
 have h1:=zv.1 g
 rw [g] at h
 simp only [Option.elim] at h
 try simp at h
 by_cases hl : a.length = b.length
 ·have h2:=Gr h1 hl
  subst h2
  try simp at h
  simp -implicitDefEqProofs [pZ,h]
 have h3 : ¬ a = b:=fun e=>hl (by rw [e])
 have h4 : ¬ (a.length : Int) = b.length:=by omega
 simp -implicitDefEqProofs [pZ,h,h3,h4]
 all_goals (repeat' split) <;> first | rfl | omega | (simp_all; done) | (simp_all; omega) | skip
theorem Jv (a : Rq) (b : Rq) (ha : bD a≤1073741824) (hb : bD b≤1073741824) : ev LI TT 138 [.agg (eP .af a),.agg (eP .af b)] = some (.bool (gq a b),[.dead,.dead]):=by
 rw [az (b:=jC) (rs:=[.t 4]) (n:=2) rfl rfl]
 have oF : bD a = a.path.length + wL aJ a.fields + a.body.length:=rfl
 have VU : bD b = b.path.length + wL aJ b.fields + b.body.length:=rfl
 have l2:=bk (w:=aJ) a.fields
 have l3:=bk (w:=aJ) b.fields
 unfold gq mj
 have u1:=yO  a ha
 try simp at u1
 have u2:=yO  b hb
 try simp at u2
 have u3:=JH  a.fields b.fields (by omega) (by omega)
 try simp at u3
 have u4:=Jx  a.fields (by omega)
 try simp at u4
 generalize ja a = g1 at u1
 generalize ja b = g2 at u2
 cases g1
 ·simp -implicitDefEqProofs [jC,u1]
 cases g2
 ·simp -implicitDefEqProofs [jC,u1,u2]
 by_cases g4 : a.method = 1
 rotate_left
 ·simp -implicitDefEqProofs [jC,u1,u2,g4]
 rw [g4] at u1
 by_cases g5 : b.method = 1
 rotate_left
 ·simp -implicitDefEqProofs [jC,u1,u2,g4,g5]
 rw [g5] at u2
 by_cases g3 : a.path = b.path
 rotate_left
 ·simp -implicitDefEqProofs [jC,u1,u2,g4,g5,eq_false g3]
 rw [← g3] at u2
 by_cases g6 : a.fields = b.fields
 rotate_left
 ·rw [decide_eq_false g6] at u3
  simp -implicitDefEqProofs [jC,u1,u2,u3,g4,g5,← g3,eq_false g6]
 rw [decide_eq_true g6] at u3
 generalize hns : (oc a.fields).ns = g7 at u4
 have Es:=hns
 rw [g6] at Es
 cases g7
 all_goals
 simp -implicitDefEqProofs [jC,u1,u2,u3,u4,g4,g5,← g3,eq_true g6,hns,Es]
 all_goals (repeat' split) <;> first | rfl | omega | (simp_all; done) | (simp_all; omega) | skip
end M
namespace M
open Go
theorem Hz (s : Sh) (hb : cg s≤1073741824) : aH (ai (ev LI TT) (ak TT) tH) [(1,.ptr .own (b9 .af s)),(3,.int .i64 0)] = if aF gv (s.aC) = true then some (.exit 0,[(1,.ptr .own (b9 .af s)),(3,.int .i64 (s.aC).length),(33,.bool false)]) else some (.ret,[(2,.bool false)]):=by
 refine bX (f:=ai (ev LI TT) (ak TT) tH) (s.aC) (fun i=>[(1,.ptr .own (b9 .af s)),(3,.int .i64 i)]) gv _ _ (fun i b hi hl=>?_) ?_
 ·have hw:=aM i (by have lF : cg s = cS s.bC + wL bu s.aB + wL aQ s.aC:=rfl; have:=bk (w:=aQ) s.aC; omega)
  obtain ⟨_,rfl⟩:=List.getElem?_eq_some_iff.1 hi
  have lF : cg s = cS s.bC + wL bu s.aB + wL aQ s.aC:=rfl
  have hm:=xV (List.getElem_mem hl)
  have u1:=CO  s.aC[i] (by omega)
  try simp at u1
  simp -implicitDefEqProofs [tH,BL,hl,hw,u1]
  all_goals (repeat' split) <;> first | rfl | omega | (simp_all; done) | (simp_all; omega) | skip
 ·simp -implicitDefEqProofs [tH,BL]
theorem HA (s : Sh) (n : Nat) (k : Kp) (hn : n≤s.aB.length) (hb : s.aB.length≤1073741824) : aH (ai (ev LI TT) (ak TT) tI) [(1,.ptr .own (b9 .af s)),(4,.int .i64 n),(5,.ptr .own (aU .af k)),(6,.int .i64 0)] = if aF (fun y=>decide ¬ y.at_ = k.at_) (s.aB.take n) = true then some (.exit 4,[(1,.ptr .own (b9 .af s)),(4,.int .i64 n),(5,.ptr .own (aU .af k)),(6,.int .i64 (s.aB.take n).length),(92,.bool false)]) else some (.ret,[(2,.bool false)]):=by
 refine bX (f:=ai (ev LI TT) (ak TT) tI) (s.aB.take n) (fun i=>[(1,.ptr .own (b9 .af s)),(4,.int .i64 n),(5,.ptr .own (aU .af k)),(6,.int .i64 i)]) (fun y=>decide ¬ y.at_ = k.at_) _ _ (fun i b hi hl=>?_) ?_
 ·have hw:=aM i (by first | omega | (simp at hl; omega))
  obtain ⟨_,rfl⟩:=List.getElem?_eq_some_iff.1 hi
  have h1 : i < n:=by simp at hl; omega
  have h2 : i < s.aB.length:=by omega
  simp -implicitDefEqProofs [tI,BM,hl,hw,h1,h2]
  all_goals (repeat' split) <;> first | rfl | omega | (simp_all; done) | (simp_all; omega) | skip
 ·have hmin : min n s.aB.length = n:=by omega
  simp -implicitDefEqProofs [tI,BM,hmin]
theorem HB (s : Sh) (hb : cg s≤1073741824) (hs : 1≤s.seq∧s.seq≤100000) : aH (ai (ev LI TT) (ak TT) iy) [(1,.ptr .own (b9 .af s)),(4,.int .i64 0)] = if aF (gG s.seq s.aB) (s.aB.zipIdx) = true then some (.exit 2,[(1,.ptr .own (b9 .af s)),(4,.int .i64 (s.aB.zipIdx).length),(47,.bool false)]) else some (.ret,[(2,.bool false)]):=by
 refine bX (f:=ai (ev LI TT) (ak TT) iy) (s.aB.zipIdx) (fun i=>[(1,.ptr .own (b9 .af s)),(4,.int .i64 i)]) (gG s.seq s.aB) _ _ (fun i b hi hl=>?_) ?_
 ·have hw:=aM i (by have lF : cg s = cS s.bC + wL bu s.aB + wL aQ s.aC:=rfl; have:=bk (w:=bu) s.aB; simp at hl; omega)
  obtain ⟨_,rfl⟩:=List.getElem?_eq_some_iff.1 hi
  simp only [List.length_zipIdx] at hl
  have lF : cg s = cS s.bC + wL bu s.aB + wL aQ s.aC:=rfl
  have hlen:=bk (w:=bu) s.aB
  have hz : s.aB.zipIdx[i]'(by simpa using hl) = (s.aB[i],i):=by simp
  have hm:=Cd (List.getElem_mem hl)
  have hS : IntKind.i64.wrap (s.seq - 1) = s.seq - 1:=cz (by omega) (by omega)
  rw [hz]
  have hmin : min i s.aB.length = i:=by omega
  have u1:=yN  s.aB[i].obj (by omega)
  try simp at u1
  have u2:=HA  s i s.aB[i] (by omega) (by omega)
  try simp at u2
  by_cases g1 : gm (s.aB[i]).obj = true
  rotate_left
  ·simp -implicitDefEqProofs [iy,jF,hl,hw,u1,u2,gG,hS,hmin,g1]
  by_cases g2 : 5≤(s.aB[i]).at_
  rotate_left
  ·simp -implicitDefEqProofs [iy,jF,hl,hw,u1,u2,gG,hS,hmin,g1,eq_false g2]
  by_cases g3 : (s.aB[i]).at_≤19
  rotate_left
  ·simp -implicitDefEqProofs [iy,jF,hl,hw,u1,u2,gG,hS,hmin,g1,eq_true g2,eq_false g3]
  by_cases g4 : 1≤(s.aB[i]).seq
  rotate_left
  ·simp -implicitDefEqProofs [iy,jF,hl,hw,u1,u2,gG,hS,hmin,g1,eq_true g2,eq_true g3,eq_false g4]
  by_cases g5 : (s.aB[i]).seq≤s.seq - 1
  rotate_left
  ·simp -implicitDefEqProofs [iy,jF,hl,hw,u1,u2,gG,hS,hmin,g1,eq_true g2,eq_true g3,eq_true g4,eq_false g5]
  by_cases g6 : i = 0
  ·subst g6
   try simp at u2 hw
   simp -implicitDefEqProofs [iy,jF,hl,hw,u1,u2,gG,hS,hmin,g1,eq_true g2,eq_true g3,eq_true g4,eq_true g5]
  obtain ⟨j,rfl⟩ : ∃ j,i = j + 1:=⟨i - 1,by omega⟩
  have hj : j < s.aB.length:=by omega
  have hJ : IntKind.i64.wrap (j : Int) = j:=cz (by omega) (by omega)
  have hp:=Bu s.aB j hj
  try simp at u2 hw hS
  have hpos : (0 : Int) < (j : Int) + 1:=by omega
  have hlc : (j : Int) + 1 < s.aB.length:=by omega
  have eV : (0 : Int)≤(j : Int) + 1:=by omega
  by_cases g7 : (s.aB[j]).seq < (s.aB[j + 1]).seq
  rotate_left
  ·have zF : (s.aB[j + 1]).seq≤(s.aB[j]).seq:=by omega
   simp -implicitDefEqProofs [iy,jF,hl,hw,u1,u2,gG,hS,hmin,g1,eq_true g2,eq_true g3,eq_true g4,eq_true g5,hj,hJ,hp,hpos,hlc,eV,eq_false g7,eq_true zF]
  have zF : ¬ (s.aB[j + 1]).seq≤(s.aB[j]).seq:=by omega
  simp -implicitDefEqProofs [iy,jF,hl,hw,u1,u2,gG,hS,hmin,g1,eq_true g2,eq_true g3,eq_true g4,eq_true g5,hj,hJ,hp,hpos,hlc,eV,eq_true g7,eq_false zF]
  all_goals (repeat' split) <;> first | rfl | omega | (simp_all; done) | (simp_all; omega) | skip
 ·simp -implicitDefEqProofs [iy,jF]
theorem JF (s : Sh) (hb : cg s≤1073741824) : ev LI TT 89 [.agg (b9 .af s)] = some (.bool ((nO s)),[.dead]):=by
 rw [az (b:=jG) (rs:=[.t 2]) (n:=1) rfl rfl]
 have lF : cg s = cS s.bC + wL bu s.aB + wL aQ s.aC:=rfl
 have Oj : cS s.bC = wL wS s.bC.cells + wL b8 s.bC.pending:=rfl
 have hlen:=bk (w:=b8) s.bC.pending
 unfold nO
 have u1:=Jz  s.bC (by omega)
 try simp at u1
 have u2:=Hz  s hb
 try simp at u2
 by_cases g1 : ny s.bC = true
 rotate_left
 ·simp -implicitDefEqProofs [jG,u1,u2,g1]
 by_cases g2 : (s.aC.length : Int)≤5
 rotate_left
 ·simp -implicitDefEqProofs [jG,u1,u2,g1,eq_false g2]
 by_cases g3 : 5≤s.next
 rotate_left
 ·simp -implicitDefEqProofs [jG,u1,u2,g1,eq_true g2,eq_false g3]
 by_cases g4 : s.next≤19
 rotate_left
 ·simp -implicitDefEqProofs [jG,u1,u2,g1,eq_true g2,eq_true g3,eq_false g4]
 by_cases g5 : 1≤s.seq
 rotate_left
 ·simp -implicitDefEqProofs [jG,u1,u2,g1,eq_true g2,eq_true g3,eq_true g4,eq_false g5]
 by_cases g6 : s.seq≤100000
 rotate_left
 ·simp -implicitDefEqProofs [jG,u1,u2,g1,eq_true g2,eq_true g3,eq_true g4,eq_true g5,eq_false g6]
 have u3:=HB s hb ⟨by omega,by omega⟩
 rw [OQ] at u3
 simp at u3
 have Nb : ¬ 5 < (s.aC.length : Int):=by omega
 simp -implicitDefEqProofs [jG,u1,u2,g1,eq_true g2,eq_true g3,eq_true g4,eq_true g5,eq_true g6,u3,Nb]
 all_goals (repeat' split) <;> first | rfl | omega | (simp_all; done) | (simp_all; omega) | skip
end M
namespace M
open Go
theorem Iv (x k : Kp) : ev LI TT 262 [.agg (aU .af x),.ptr .af (aU .af k)] = some (.bool (decide (x.at_ = k.at_)),[.dead,.dead]):=by
 rw [az (b:=vA) (rs:=[.t 3]) (n:=2) rfl rfl]
 simp -implicitDefEqProofs [vA]
 all_goals (repeat' split) <;> first | rfl | omega | (simp_all; done) | (simp_all; omega) | skip
theorem HQ (l : List Kp) (k : Kp) (gf : Nat) (p : Kp→Bool) (ho : ak TT gf = true) (hf : ∀ x∈l,ev LI TT gf [.agg (aU .af x),.ptr .af (aU .af k)] = some (.bool (p x),[.dead,.dead])) (hb : l.length≤9223372036854775807) : aH (ai (ev LI TT) (ak TT) uk) [(0,.row .af 9 (l.map (aU .af))),(1,.fn gf [.ptr .af (aU .af k)]),(7,.int .i64 l.length),(8,.int .i64 0)] = (dc p 0 (l)).elim (some (.exit 0,[(0,.row .af 9 (l.map (aU .af))),(1,.fn gf [.ptr .af (aU .af k)]),(7,.int .i64 l.length),(8,.int .i64 (l).length),(9,.bool false)])) fun x=>some (.ret,(fun (i : Nat) b=>[(4,.int .i64 i)]) x.1 x.2):=by
 refine sO (f:=ai (ev LI TT) (ak TT) uk) (l) (fun i=>[(0,.row .af 9 (l.map (aU .af))),(1,.fn gf [.ptr .af (aU .af k)]),(7,.int .i64 l.length),(8,.int .i64 i)]) p (fun (i : Nat) b=>[(4,.int .i64 i)]) _ (fun i b hi hl=>?_) ?_
 ·have hw:=aM i (by first | omega | (simp at hl; omega))
  obtain ⟨_,rfl⟩:=List.getElem?_eq_some_iff.1 hi
  have u1:=hf l[i] (List.getElem_mem hl)
  try simp at u1
  simp -implicitDefEqProofs [uk,Ch,hl,hw,u1,ho,vS]
  all_goals (repeat' split) <;> first | rfl | omega | (simp_all; done) | (simp_all; omega) | skip
 ·simp -implicitDefEqProofs [uk,Ch]
theorem JP (l : List Kp) (k : Kp) (gf : Nat) (p : Kp→Bool) (ho : ak TT gf = true) (hf : ∀ x∈l,ev LI TT gf [.agg (aU .af x),.ptr .af (aU .af k)] = some (.bool (p x),[.dead,.dead])) (hb : l.length≤9223372036854775807) : ev LI TT 268 [.row .af 9 (l.map (aU .af)),.fn gf [.ptr .af (aU .af k)]] = some (.int .i64 ((dc p 0 l).elim (-1) fun x=>(x.1 : Int)),[.dead,.dead]):=by
 rw [az (b:=um) (rs:=[.t 4]) (n:=2) rfl rfl]
 have u1:=HQ  l k gf p ho hf hb
 try simp at u1
 cases g : dc p 0 l with
 | none=>rw [g] at u1; simp at u1; simp -implicitDefEqProofs [um,u1]
 | some x =>
 rw [g] at u1
 simp at u1
 simp -implicitDefEqProofs [um,u1]
 all_goals (repeat' split) <;> first | rfl | omega | (simp_all; done) | (simp_all; omega) | skip
theorem JL (l : List Kp) (k : Kp) (gf : Nat) (p : Kp→Bool) (ho : ak TT gf = true) (hf : ∀ x∈l,ev LI TT gf [.agg (aU .af x),.ptr .af (aU .af k)] = some (.bool (p x),[.dead,.dead])) (hb : l.length≤9223372036854775807) : ev LI TT 223 [.row .af 9 (l.map (aU .af)),.fn gf [.ptr .af (aU .af k)]] = some (.bool (!aF (fun x=>!p x) l),[.dead,.dead]):=by
 rw [az (b:=ue) (rs:=[.t 4]) (n:=2) rfl rfl]
 have u1:=JP  l k gf p ho hf hb
 try simp at u1
 rw [← DI p l 0]
 cases g : dc p 0 l with
 | none=>rw [g] at u1; simp at u1; simp -implicitDefEqProofs [ue,u1]
 | some x =>
 rw [g] at u1
 simp at u1
 simp -implicitDefEqProofs [ue,u1]
 all_goals (repeat' split) <;> first | rfl | omega | (simp_all; done) | (simp_all; omega) | skip
theorem GK (s : Sh) (hb : cg s≤1073741824) : ∃ sl,aH (ai (ev LI TT) (ak TT) iP) [(0,.ptr .af (b9 .af s)),(3,.int .i64 0),(7,.ptr .af (b9 .af s)),(8,.ptr .af (b9 .af s)),(9,.ptr .af ((b9 .af s).drop 2)),(10,.row .af 9 (s.aB.map (aU .af))),(11,.int .i64 s.aB.length),(12,.int .i64 0)] = if s7 s.seq s.aB = true then some (.exit 0,sl) else some (.ret,[(2,.bool false)]):=by
 have lF : cg s = cS s.bC + wL bu s.aB + wL aQ s.aC:=rfl
 have hlen:=bk (w:=bu) s.aB
 refine ⟨_,bX (f:=ai (ev LI TT) (ak TT) iP) s.aB.zipIdx (fun i=>[(0,.ptr .af (b9 .af s)),(3,.int .i64 (iZ s.aB i)),(7,.ptr .af (b9 .af s)),(8,.ptr .af (b9 .af s)),(9,.ptr .af ((b9 .af s).drop 2)),(10,.row .af 9 (s.aB.map (aU .af))),(11,.int .i64 s.aB.length),(12,.int .i64 i)]) (mY s.seq s.aB) [(2,.bool false)] [(0,.ptr .af (b9 .af s)),(3,.int .i64 (iZ s.aB s.aB.length)),(7,.ptr .af (b9 .af s)),(8,.ptr .af (b9 .af s)),(9,.ptr .af ((b9 .af s).drop 2)),(10,.row .af 9 (s.aB.map (aU .af))),(11,.int .i64 s.aB.length),(12,.int .i64 s.aB.length),(13,.bool false)] (fun i b hi hl=>?_) ?_⟩
 ·simp only [List.length_zipIdx] at hl
  have hw:=aM i (by omega)
  obtain ⟨_,rfl⟩:=List.getElem?_eq_some_iff.1 hi
  have hz : s.aB.zipIdx[i]'(by simpa using hl) = (s.aB[i],i):=by simp
  have hm:=Cd (List.getElem_mem hl)
  have hp:=Bu s.aB i hl
  rw [hz]
  have hs : jH [] = true:=rfl
  have u1:=yu s.aB[i].obj (by omega)
  have u2:=JL (s.aB.take i) s.aB[i] 262 (fun x=>decide (x.at_ = (s.aB[i]).at_)) rfl (fun x _=>Iv x s.aB[i]) (by simp; omega)
  have hle : (i : Int)≤s.aB.length:=by omega
  have jZ : i≤s.aB.length:=by omega
  simp at u1 u2
  unfold mY
  by_cases g1 : gm (s.aB[i]).obj = true
  rotate_left
  ·simp -implicitDefEqProofs [iP,ki,hl,hw,hle,jZ,gM,eJ,dO,u1,u2,g1]
  by_cases g2 : 5≤(s.aB[i]).at_
  rotate_left
  ·simp -implicitDefEqProofs [iP,ki,hl,hw,hle,jZ,gM,eJ,dO,u1,u2,g1,eq_false g2]
  by_cases g3 : (s.aB[i]).at_≤19
  rotate_left
  ·simp -implicitDefEqProofs [iP,ki,hl,hw,hle,jZ,gM,eJ,dO,u1,u2,g1,eq_true g2,eq_false g3]
  by_cases g4 : aF (fun y : Kp=>!decide (y.at_ = (s.aB[i]).at_)) (s.aB.take i) = true
  rotate_left
  ·simp -implicitDefEqProofs [iP,ki,hl,hw,hle,jZ,gM,eJ,dO,u1,u2,g1,eq_true g2,eq_true g3,g4]
  by_cases g5 : iZ s.aB i < (s.aB[i]).seq
  rotate_left
  ·have lq : (s.aB[i]).seq≤iZ s.aB i:=by omega
   simp -implicitDefEqProofs [iP,ki,hl,hw,hle,jZ,gM,eJ,dO,u1,u2,g1,eq_true g2,eq_true g3,g4,eq_false g5,eq_true lq]
  have lq : ¬ (s.aB[i]).seq≤iZ s.aB i:=by omega
  by_cases g6 : (s.aB[i]).seq < s.seq
  rotate_left
  ·have zE : s.seq≤(s.aB[i]).seq:=by omega
   simp -implicitDefEqProofs [iP,ki,hl,hw,hle,jZ,gM,eJ,dO,u1,u2,g1,eq_true g2,eq_true g3,g4,eq_true g5,eq_false lq,eq_false g6,eq_true zE]
  have zE : ¬ s.seq≤(s.aB[i]).seq:=by omega
  simp -implicitDefEqProofs [iP,ki,hl,hw,hle,jZ,gM,eJ,dO,u1,u2,g1,eq_true g2,eq_true g3,g4,eq_true g5,eq_false lq,eq_true g6,eq_false zE,hp]
 ·simp -implicitDefEqProofs [iP,ki]
theorem Iu (s : Sh) (hb : cg s≤1073741824) : ev LI TT 181 [.ptr .af (b9 .af s)] = some (.bool (s7 s.seq s.aB),[.dead]):=by
 rw [az (b:=vB) (rs:=[.t 2]) (n:=1) rfl rfl]
 obtain ⟨sl,u1⟩:=GK s hb
 simp at u1
 simp -implicitDefEqProofs [vB,u1]
 all_goals (repeat' split) <;> first | rfl | omega | (simp_all; done) | (simp_all; omega) | skip
theorem GB (s : Sh) (hb : cg s≤1073741824) : aH (ai (ev LI TT) (ak TT) rL) [(1,.ptr .own (b9 .af s)),(5,.ay 1 [] 0 3),(6,.row .af 4 (s.aC.map br)),(7,.int .i64 s.aC.length),(8,.int .i64 0)] = if aF gv (s.aC) = true then some (.exit 0,[(1,.ptr .own (b9 .af s)),(5,.ay 1 [] 0 3),(6,.row .af 4 (s.aC.map br)),(7,.int .i64 s.aC.length),(8,.int .i64 (s.aC).length),(9,.bool false)]) else some (.ret,[(2,.bool false)]):=by
 refine bX (f:=ai (ev LI TT) (ak TT) rL) (s.aC) (fun i=>[(1,.ptr .own (b9 .af s)),(5,.ay 1 [] 0 3),(6,.row .af 4 (s.aC.map br)),(7,.int .i64 s.aC.length),(8,.int .i64 i)]) gv _ _ (fun i b hi hl=>?_) ?_
 ·have hw:=aM i (by have lF : cg s = cS s.bC + wL bu s.aB + wL aQ s.aC:=rfl; have:=bk (w:=aQ) s.aC; omega)
  obtain ⟨_,rfl⟩:=List.getElem?_eq_some_iff.1 hi
  have lF : cg s = cS s.bC + wL bu s.aB + wL aQ s.aC:=rfl
  have hm:=xV (List.getElem_mem hl)
  have u1:=CB  s.aC[i] (by omega)
  try simp at u1
  simp -implicitDefEqProofs [rL,Al,hl,hw,u1]
  all_goals (repeat' split) <;> first | rfl | omega | (simp_all; done) | (simp_all; omega) | skip
 ·simp -implicitDefEqProofs [rL,Al]
theorem Is (s : Sh) (hb : cg s≤1073741824) : ev LI TT 92 [.agg (b9 .af s)] = some (.bool ((nO s)),[.dead]):=by
 rw [az (b:=iO) (rs:=[.t 2]) (n:=1) rfl rfl]
 have lF : cg s = cS s.bC + wL bu s.aB + wL aQ s.aC:=rfl
 have Oj : cS s.bC = wL wS s.bC.cells + wL b8 s.bC.pending:=rfl
 have hlen:=bk (w:=b8) s.bC.pending
 unfold nO
 have u1:=Im  s.bC (by omega)
 try simp at u1
 have u2:=GB  s hb
 try simp at u2
 have u3:=Iu  s hb
 try simp at u3
 by_cases g1 : aF gv s.aC = true
 rotate_left
 ·simp -implicitDefEqProofs [iO,u1,u2,u3,g1]
 by_cases g2 : (s.aC.length : Int)≤5
 rotate_left
 ·simp -implicitDefEqProofs [iO,u1,u2,u3,g1,eq_false g2]
 by_cases g3 : 5≤s.next
 rotate_left
 ·simp -implicitDefEqProofs [iO,u1,u2,u3,g1,eq_true g2,eq_false g3]
 by_cases g4 : s.next≤19
 rotate_left
 ·simp -implicitDefEqProofs [iO,u1,u2,u3,g1,eq_true g2,eq_true g3,eq_false g4]
 by_cases g5 : 1≤s.seq
 rotate_left
 ·simp -implicitDefEqProofs [iO,u1,u2,u3,g1,eq_true g2,eq_true g3,eq_true g4,eq_false g5]
 by_cases g6 : s.seq≤100000
 rotate_left
 ·simp -implicitDefEqProofs [iO,u1,u2,u3,g1,eq_true g2,eq_true g3,eq_true g4,eq_true g5,eq_false g6]
 by_cases g7 : ny s.bC = true
 rotate_left
 ·simp -implicitDefEqProofs [iO,u1,u2,u3,g1,eq_true g2,eq_true g3,eq_true g4,eq_true g5,eq_true g6,g7]
 simp -implicitDefEqProofs [iO,u1,u2,u3,g1,eq_true g2,eq_true g3,eq_true g4,eq_true g5,eq_true g6,g7]
 all_goals (repeat' split) <;> first | rfl | omega | (simp_all; done) | (simp_all; omega) | skip
end M
set_option maxHeartbeats 4000000
namespace M
open Go
def jS (l : List Fl) (x : Fl×Nat) : Bool:=ja x.1.q && decide (1≤(x.1.who.length : Int)∧(x.1.who.length : Int)≤5) && (!x.1.jo || gm x.1.old) && aF (fun y=>!gq y.q x.1.q) (l.take x.2)
def qM (l : List Fl) : Bool:=decide ((l.length : Int)≤5) && aF (jS l) l.zipIdx
def mq (c : Ca) : Bool:=nO c.aE && decide (0≤c.now∧c.now≤1000000) && decide ((c.seen.length : Int)≤1500) && decide ((c.sent.length : Int)≤1500) && qM c.aW
theorem xW {l : List Fl} {x : Fl} (h : x∈l) : bD x.q≤wL bz l∧bA x.old≤wL bz l:=by
 have h1:=dx (w:=bz) h
 have h2 : bz x = bD x.q + wL wO x.who + bA x.old:=rfl
 omega
theorem ua (c : Ca) : wL bz c.aW≤bZ c:=by unfold bZ; omega
theorem Hj (c : Ca) (n : Nat) (x : Fl) (hn : n≤c.aW.length) (hx : bD x.q≤1073741824) (hc : bZ c≤1073741824) : aH (ai (ev LI TT) (ak TT) tA) [(1,.ptr .own (cr .af c)),(3,.int .i64 n),(4,.ptr .own (bg .af x)),(5,.int .i64 0)] = if aF (fun y=>!gq y.q x.q) (c.aW.take n) = true then some (.exit 2,[(1,.ptr .own (cr .af c)),(3,.int .i64 n),(4,.ptr .own (bg .af x)),(5,.int .i64 (c.aW.take n).length),(69,.bool false)]) else some (.ret,[(2,.bool false)]):=by
 refine bX (f:=ai (ev LI TT) (ak TT) tA) (c.aW.take n) (fun i=>[(1,.ptr .own (cr .af c)),(3,.int .i64 n),(4,.ptr .own (bg .af x)),(5,.int .i64 i)]) (fun y=>!gq y.q x.q) _ _ (fun i b hi hl=>?_) ?_
 ·have hw:=aM i (by have:=bk (w:=bz) c.aW; have:=ua c; simp at hl; omega)
  obtain ⟨_,rfl⟩:=List.getElem?_eq_some_iff.1 hi
  have h1 : i < n:=by simp at hl; omega
  have h2 : i < c.aW.length:=by omega
  have h3:=ua c
  have h4:=xW (List.getElem_mem h2)
  have u1:=Jv (c.aW[i]).q x.q (by omega) hx
  cases hal : gq (c.aW[i]).q x.q <;> rw [hal] at u1 <;> simp at u1
  all_goals
  simp -implicitDefEqProofs [tA,BF,hl,hw,h1,h2,u1,hal]
  all_goals (repeat' split) <;> first | rfl | omega | (simp_all; done) | (simp_all; omega) | skip
 ·have hmin : min n c.aW.length = n:=by omega
  simp -implicitDefEqProofs [tA,BF,hmin]
theorem Hl (c : Ca) (hc : bZ c≤100000000) : aH (ai (ev LI TT) (ak TT) nF) [(1,.ptr .own (cr .af c)),(3,.int .i64 0)] = if aF (jS c.aW) (c.aW.zipIdx) = true then some (.exit 0,[(1,.ptr .own (cr .af c)),(3,.int .i64 (c.aW.zipIdx).length),(38,.bool false)]) else some (.ret,[(2,.bool false)]):=by
 refine bX (f:=ai (ev LI TT) (ak TT) nF) (c.aW.zipIdx) (fun i=>[(1,.ptr .own (cr .af c)),(3,.int .i64 i)]) (jS c.aW) _ _ (fun i b hi hl=>?_) ?_
 ·have hw:=aM i (by have:=bk (w:=bz) c.aW; have:=ua c; simp at hl; omega)
  obtain ⟨_,rfl⟩:=List.getElem?_eq_some_iff.1 hi
  simp only [List.length_zipIdx] at hl
  have hz : c.aW.zipIdx[i]'(by simpa using hl) = (c.aW[i],i):=by simp
  have h3:=ua c
  have h4:=xW (List.getElem_mem hl)
  have hmin : min i c.aW.length = i:=by omega
  rw [hz]
  unfold jS
  have u1:=yO  (c.aW[i]).q (by omega)
  try simp at u1
  have u2:=yN  (c.aW[i]).old (by omega)
  try simp at u2
  have u3:=Hj  c i c.aW[i] (by omega) (by omega) (by omega)
  try simp at u3
  generalize ja (c.aW[i]).q = b1 at u1
  cases b1
  ·simp -implicitDefEqProofs [nF,pT,hl,hw,u1]
  by_cases g2 : 1≤((c.aW[i]).who.length : Int)∧((c.aW[i]).who.length : Int)≤5
  rotate_left
  ·simp only [nF,decide_eq_false g2,Bool.and_false,Bool.false_and]
   by_cases iI : 1≤((c.aW[i]).who.length : Int)
   ·have mF : ¬ ((c.aW[i]).who.length : Int)≤5:=fun h=>g2 ⟨iI,h⟩
    simp -implicitDefEqProofs [pT,hl,hw,u1,iI,mF]
   ·simp -implicitDefEqProofs [pT,hl,hw,u1,iI]
  rw [decide_eq_true g2]
  obtain ⟨iI,mF⟩:=g2
  generalize gm (c.aW[i]).old = b2 at u2
  cases qX : (c.aW[i]).jo
  all_goals rw [qX] at u3
  all_goals cases b2
  all_goals cases g5 : aF (fun y : Fl=>!gq y.q (c.aW[i]).q) (c.aW.take i) <;> rw [g5] at u3
  all_goals try simp at u3
  all_goals
  simp -implicitDefEqProofs [nF,pT,hl,hw,u1,u2,u3,hmin,iI,mF,qX,g5]
  all_goals (repeat' split) <;> first | rfl | omega | (simp_all; done) | (simp_all; omega) | skip
 ·simp -implicitDefEqProofs [nF,pT]
theorem Jw (c : Ca) (hc : bZ c≤100000000) : ev LI TT 53 [.agg (cr .af c)] = some (.bool (mq c),[.dead]):=by
 rw [az (b:=jD) (rs:=[.t 2]) (n:=1) rfl rfl]
 have hsh : cg c.aE≤bZ c:=by unfold bZ; omega
 unfold mq qM
 have u1:=JF  c.aE (by omega)
 try simp at u1
 have u2:=Hl  c hc
 try simp at u2
 generalize nO c.aE = b1 at u1
 cases b1
 ·simp -implicitDefEqProofs [jD,u1]
 by_cases g1 : 0≤c.now
 rotate_left
 ·simp -implicitDefEqProofs [jD,u1,g1]
 by_cases g2 : c.now≤1000000
 rotate_left
 ·simp -implicitDefEqProofs [jD,u1,g1,g2]
 by_cases g3 : (c.aW.length : Int)≤5
 rotate_left
 ·have zC : 5 < (c.aW.length : Int):=by omega
  simp -implicitDefEqProofs [jD,u1,g1,g2,g3,zC]
 by_cases g4 : (c.seen.length : Int)≤1500
 rotate_left
 ·have lp : 1500 < (c.seen.length : Int):=by omega
  simp -implicitDefEqProofs [jD,u1,g1,g2,g3,g4,lp,(by omega : ¬ 5 < (c.aW.length : Int))]
 by_cases g5 : (c.sent.length : Int)≤1500
 rotate_left
 ·have lq : 1500 < (c.sent.length : Int):=by omega
  simp -implicitDefEqProofs [jD,u1,g1,g2,g3,g4,g5,lq,(by omega : ¬ 5 < (c.aW.length : Int)),(by omega : ¬ 1500 < (c.seen.length : Int))]
 have zC : ¬ 5 < (c.aW.length : Int):=by omega
 have lp : ¬ 1500 < (c.seen.length : Int):=by omega
 have lq : ¬ 1500 < (c.sent.length : Int):=by omega
 cases g6 : aF (jS c.aW) c.aW.zipIdx <;> rw [g6] at u2
 all_goals try simp at u2
 all_goals
 simp -implicitDefEqProofs [jD,u1,u2,g1,g2,g3,g4,g5,zC,lp,lq,g6]
 all_goals (repeat' split) <;> first | rfl | omega | (simp_all; done) | (simp_all; omega) | skip
theorem GH (l : List Fl) (n : Nat) (x : Fl) (hn : n≤l.length) (hx : bD x.q≤1073741824) (hc : wL bz l≤100000000) : aH (ai (ev LI TT) (ak TT) rP) [(0,.row .af 13 (l.map (bg .af))),(4,.ptr .own (bg .af x)),(7,.row .af 13 (l.map (bg .af))),(8,.int .i64 l.length),(9,.int .i64 n),(35,.row .af 13 (l.map (bg .af))),(36,.int .i64 n),(37,.row .af 13 ((l.take n).map (bg .af))),(38,.int .i64 n),(39,.int .i64 0)] = if aF (fun y=>!gq y.q x.q) (l.take n) = true then some (.exit 2,[(0,.row .af 13 (l.map (bg .af))),(4,.ptr .own (bg .af x)),(7,.row .af 13 (l.map (bg .af))),(8,.int .i64 l.length),(9,.int .i64 n),(35,.row .af 13 (l.map (bg .af))),(36,.int .i64 n),(37,.row .af 13 ((l.take n).map (bg .af))),(38,.int .i64 n),(39,.int .i64 (l.take n).length),(40,.bool false)]) else some (.ret,[(2,.bool false)]):=by
 refine bX (f:=ai (ev LI TT) (ak TT) rP) (l.take n) (fun i=>[(0,.row .af 13 (l.map (bg .af))),(4,.ptr .own (bg .af x)),(7,.row .af 13 (l.map (bg .af))),(8,.int .i64 l.length),(9,.int .i64 n),(35,.row .af 13 (l.map (bg .af))),(36,.int .i64 n),(37,.row .af 13 ((l.take n).map (bg .af))),(38,.int .i64 n),(39,.int .i64 i)]) (fun y=>!gq y.q x.q) _ _ (fun i b hi hl=>?_) ?_
 ·have hw:=aM i (by have:=bk (w:=bz) l; simp at hl; omega)
  obtain ⟨_,rfl⟩:=List.getElem?_eq_some_iff.1 hi
  have h1 : i < n:=by simp at hl; omega
  have h2 : i < l.length:=by omega
  have h4:=xW (List.getElem_mem h2)
  have u1:=Ih (l[i]).q x.q (by omega) hx
  cases hal : gq (l[i]).q x.q <;> rw [hal] at u1 <;> simp at u1
  all_goals
  simp -implicitDefEqProofs [rP,Ap,hl,hw,h1,h2,u1,hal]
  all_goals (repeat' split) <;> first | rfl | omega | (simp_all; done) | (simp_all; omega) | skip
 ·have hmin : min n l.length = n:=by omega
  simp -implicitDefEqProofs [rP,Ap,hmin]
theorem GI (l : List Fl) (hc : wL bz l≤100000000) : aH (ai (ev LI TT) (ak TT) mV) [(0,.row .af 13 (l.map (bg .af))),(7,.row .af 13 (l.map (bg .af))),(8,.int .i64 l.length),(9,.int .i64 0)] = if aF (jS l) (l.zipIdx) = true then some (.exit 0,[(0,.row .af 13 (l.map (bg .af))),(7,.row .af 13 (l.map (bg .af))),(8,.int .i64 l.length),(9,.int .i64 (l.zipIdx).length),(10,.bool false)]) else some (.ret,[(2,.bool false)]):=by
 refine bX (f:=ai (ev LI TT) (ak TT) mV) (l.zipIdx) (fun i=>[(0,.row .af 13 (l.map (bg .af))),(7,.row .af 13 (l.map (bg .af))),(8,.int .i64 l.length),(9,.int .i64 i)]) (jS l) _ _ (fun i b hi hl=>?_) ?_
 ·have hw:=aM i (by have:=bk (w:=bz) l; simp at hl; omega)
  obtain ⟨_,rfl⟩:=List.getElem?_eq_some_iff.1 hi
  simp only [List.length_zipIdx] at hl
  have hz : l.zipIdx[i]'(by simpa using hl) = (l[i],i):=by simp
  have h4:=xW (List.getElem_mem hl)
  have hmin : min i l.length = i:=by omega
  have hle : (i : Int)≤l.length:=by omega
  have jZ : i≤l.length:=by omega
  rw [hz]
  unfold jS
  have u1:=CF  (l[i]).q (by omega)
  try simp at u1
  have u2:=yu  (l[i]).old (by omega)
  try simp at u2
  have u3:=GH  l i l[i] (by omega) (by omega) (by omega)
  try simp at u3
  generalize ja (l[i]).q = b1 at u1
  cases b1
  ·simp -implicitDefEqProofs [mV,oK,hl,hw,u1]
  by_cases g2 : 1≤((l[i]).who.length : Int)∧((l[i]).who.length : Int)≤5
  rotate_left
  ·simp only [mV,decide_eq_false g2,Bool.and_false,Bool.false_and]
   by_cases iI : 1≤((l[i]).who.length : Int)
   ·have mF : ¬ ((l[i]).who.length : Int)≤5:=fun h=>g2 ⟨iI,h⟩
    simp -implicitDefEqProofs [oK,hl,hw,u1,iI,mF]
   ·simp -implicitDefEqProofs [oK,hl,hw,u1,iI]
  rw [decide_eq_true g2]
  obtain ⟨iI,mF⟩:=g2
  generalize gm (l[i]).old = b2 at u2
  cases qX : (l[i]).jo
  all_goals rw [qX] at u3
  all_goals cases b2
  all_goals cases g5 : aF (fun y : Fl=>!gq y.q (l[i]).q) (l.take i) <;> rw [g5] at u3
  all_goals try simp at u3
  all_goals try simp only [hmin] at u3
  all_goals
  simp -implicitDefEqProofs [mV,oK,hl,hw,u1,u2,u3,hmin,hle,jZ,iI,mF,qX,g5]
  all_goals (repeat' split) <;> first | rfl | omega | (simp_all; done) | (simp_all; omega) | skip
 ·simp -implicitDefEqProofs [mV,oK]
theorem Iy (l : List Fl) (hc : wL bz l≤100000000) : ev LI TT 144 [.row .af 13 (l.map (bg .af))] = some (.bool (qM l),[.dead]):=by
 rw [az (b:=vK) (rs:=[.t 2]) (n:=1) rfl rfl]
 have u1:=GI  l hc
 try simp at u1
 unfold qM
 cases g6 : aF (jS l) l.zipIdx <;> rw [g6] at u1
 all_goals try simp at u1
 all_goals
 simp -implicitDefEqProofs [vK,u1]
 all_goals (repeat' split) <;> first | rfl | omega | (simp_all; done) | (simp_all; omega) | skip
theorem Ii (c : Ca) (hc : bZ c≤100000000) : ev LI TT 60 [.agg (cr .af c)] = some (.bool (mq c),[.dead]):=by
 rw [az (b:=j9) (rs:=[.t 2]) (n:=1) rfl rfl]
 have hsh : cg c.aE≤bZ c:=by unfold bZ; omega
 have hfl:=ua c
 unfold mq
 have u1:=Is  c.aE (by omega)
 try simp at u1
 have u2:=Iy  c.aW (by omega)
 try simp at u2
 by_cases g1 : 0≤c.now
 rotate_left
 ·simp -implicitDefEqProofs [j9,u1,g1]
 by_cases g2 : c.now≤1000000
 rotate_left
 ·simp -implicitDefEqProofs [j9,u1,g1,g2]
 by_cases g4 : (c.seen.length : Int)≤1500
 rotate_left
 ·simp -implicitDefEqProofs [j9,u1,g1,g2,g4]
 by_cases g5 : (c.sent.length : Int)≤1500
 rotate_left
 ·simp -implicitDefEqProofs [j9,u1,g1,g2,g4,g5]
 generalize qM c.aW = b2 at u2
 cases b2
 ·simp -implicitDefEqProofs [j9,u1,u2,g1,g2,g4,g5]
 generalize nO c.aE = b1 at u1
 cases b1
 all_goals
 simp -implicitDefEqProofs [j9,u1,u2,g1,g2,g4,g5]
 all_goals (repeat' split) <;> first | rfl | omega | (simp_all; done) | (simp_all; omega) | skip
end M
set_option maxHeartbeats 4000000
namespace M
open Go
def gH (n : Int) (l : List Bn) : Nat:=(max 0 (min n l.length)).toNat
theorem E3 (n : Int) (l : List Bn) : gH n l≤l.length:=by unfold gH; omega
def kj (l : List Bn) (a : Rp) : Bool:=!(decide (a.kind = 1) && eC (l.take (gH a.aC l)) a.obj)
def vU (c : Ca) : Bool:=mq c && aF (kj c.aE.aC) c.sent && aF (fun k : Kp=>!eC c.aE.aC k.obj) c.aE.aB
theorem uF (c : Ca) : wL aQ c.aE.aC≤bZ c:=by unfold bZ cg; omega
theorem yT (c : Ca) : wL bu c.aE.aB≤bZ c:=by unfold bZ cg; omega
theorem yU (c : Ca) : wL bR c.sent≤bZ c:=by unfold bZ; omega
theorem FB {c : Ca} {x : Rp} (hx : x∈c.sent) : bA x.obj≤bZ c:=by
 have h1:=dx (w:=bR) hx
 have h2 : bR x = bD x.q + bT x.resp + bA x.obj:=rfl
 have h5:=yU c
 omega
theorem ES {c : Ca} {x : Kp} (hx : x∈c.aE.aB) : bA x.obj≤bZ c:=by
 have h1:=Cd hx
 have h5:=yT c
 omega
theorem Ht (c : Ca) (hc : bZ c≤100000000) : aH (ai (ev LI TT) (ak TT) tE) [(1,.ptr .own (cr .af c)),(6,.int .i64 0)] = if aF (fun k : Kp=>!eC c.aE.aC k.obj) (c.aE.aB) = true then some (.exit 2,[(1,.ptr .own (cr .af c)),(6,.int .i64 (c.aE.aB).length),(48,.bool false)]) else some (.ret,[(2,.bool false)]):=by
 refine bX (f:=ai (ev LI TT) (ak TT) tE) (c.aE.aB) (fun i=>[(1,.ptr .own (cr .af c)),(6,.int .i64 i)]) (fun k : Kp=>!eC c.aE.aC k.obj) _ _ (fun i b hi hl=>?_) ?_
 ·have hw:=aM i (by have:=bk (w:=bu) c.aE.aB; have:=yT c; omega)
  obtain ⟨_,rfl⟩:=List.getElem?_eq_some_iff.1 hi
  have hb:=uF c
  have ho:=ES (List.getElem_mem hl)
  have u1:=CQ c.aE.aC (c.aE.aB[i]).obj (by omega) (by omega)
  try simp at u1
  cases hh : eC c.aE.aC (c.aE.aB[i]).obj <;> rw [hh] at u1
  all_goals
  simp -implicitDefEqProofs [tE,BI,hl,hw,u1,hh]
  all_goals (repeat' split) <;> first | rfl | omega | (simp_all; done) | (simp_all; omega) | skip
 ·simp -implicitDefEqProofs [tE,BI]
theorem Hs (c : Ca) (hc : bZ c≤100000000) : aH (ai (ev LI TT) (ak TT) pU) [(1,.ptr .own (cr .af c)),(3,.int .i64 0)] = if aF (kj c.aE.aC) (c.sent) = true then some (.exit 0,[(1,.ptr .own (cr .af c)),(3,.int .i64 (c.sent).length),(14,.bool false)]) else some (.ret,[(2,.bool false)]):=by
 refine bX (f:=ai (ev LI TT) (ak TT) pU) (c.sent) (fun i=>[(1,.ptr .own (cr .af c)),(3,.int .i64 i)]) (kj c.aE.aC) _ _ (fun i b hi hl=>?_) ?_
 ·have hw:=aM i (by have:=bk (w:=bR) c.sent; have:=yU c; omega)
  obtain ⟨_,rfl⟩:=List.getElem?_eq_some_iff.1 hi
  have hb:=uF c
  have ho:=FB (List.getElem_mem hl)
  have ht:=Gi aQ c.aE.aC (gH (c.sent[i]).aC c.aE.aC)
  have u1:=CQ (c.aE.aC.take (gH (c.sent[i]).aC c.aE.aC)) (c.sent[i]).obj (by omega) (by omega)
  have hn:=E3 (c.sent[i]).aC c.aE.aC
  have qG : ∀ v,(if (c.sent[i]).aC < (c.aE.aC.length : Int) then (c.sent[i]).aC else (c.aE.aC.length : Int)) = v→(if 0 < v then v else 0) = (gH (c.sent[i]).aC c.aE.aC : Int):=by intro v hv; subst hv; unfold gH; split <;> split at * <;> omega
  obtain ⟨v,e1⟩ : ∃ v : Int,(if (c.sent[i]).aC < (c.aE.aC.length : Int) then (c.sent[i]).aC else (c.aE.aC.length : Int)) = v:=⟨_,rfl⟩
  have e2:=qG v e1
  clear qG
  unfold kj
  generalize hN : gH (c.sent[i]).aC c.aE.aC = N at u1 hn e2
  have hn2 : (N : Int)≤c.aE.aC.length:=by omega
  try simp at u1
  by_cases g1 : (c.sent[i]).kind = 1
  rotate_left
  ·simp -implicitDefEqProofs [pU,xk,hl,hw,g1,e1,e2]
  cases hh : eC (c.aE.aC.take N) (c.sent[i]).obj <;> rw [hh] at u1
  all_goals
  simp -implicitDefEqProofs [pU,xk,hl,hw,u1,hh,g1,hn,hn2,e1,e2]
  all_goals (repeat' split) <;> first | rfl | omega | (simp_all; done) | (simp_all; omega) | skip
 ·simp -implicitDefEqProofs [pU,xk]
theorem JB (c : Ca) (hc : bZ c≤100000000) : ev LI TT 12 [.agg (cr .af c)] = some (.bool (vU c),[.dead]):=by
 rw [az (b:=pV) (rs:=[.t 2]) (n:=1) rfl rfl]
 unfold vU
 have u1:=Jw  c hc
 try simp at u1
 have u2:=Hs  c hc
 try simp at u2
 have u3:=Ht  c hc
 try simp at u3
 generalize mq c = b1 at u1
 cases b1
 ·simp -implicitDefEqProofs [pV,u1]
 cases h2 : aF (kj c.aE.aC) c.sent <;> rw [h2] at u2
 all_goals try simp at u2
 ·simp -implicitDefEqProofs [pV,u1,u2]
 cases h3 : aF (fun k : Kp=>!eC c.aE.aC k.obj) c.aE.aB <;> rw [h3] at u3
 all_goals try simp at u3
 all_goals
 simp -implicitDefEqProofs [pV,u1,u2,u3]
 all_goals (repeat' split) <;> first | rfl | omega | (simp_all; done) | (simp_all; omega) | skip
theorem Gy (c : Ca) (hc : bZ c≤100000000) : aH (ai (ev LI TT) (ak TT) rI) [(1,.ptr .own (cr .af c)),(40,.ay 1 [] 0 0),(41,.ay 1 [] 0 2),(42,.row .af 9 (c.aE.aB.map (aU .af))),(43,.int .i64 c.aE.aB.length),(44,.int .i64 0)] = if aF (fun k : Kp=>!eC c.aE.aC k.obj) (c.aE.aB) = true then some (.exit 2,[(1,.ptr .own (cr .af c)),(40,.ay 1 [] 0 0),(41,.ay 1 [] 0 2),(42,.row .af 9 (c.aE.aB.map (aU .af))),(43,.int .i64 c.aE.aB.length),(44,.int .i64 (c.aE.aB).length),(45,.bool false)]) else some (.ret,[(2,.bool false)]):=by
 refine bX (f:=ai (ev LI TT) (ak TT) rI) (c.aE.aB) (fun i=>[(1,.ptr .own (cr .af c)),(40,.ay 1 [] 0 0),(41,.ay 1 [] 0 2),(42,.row .af 9 (c.aE.aB.map (aU .af))),(43,.int .i64 c.aE.aB.length),(44,.int .i64 i)]) (fun k : Kp=>!eC c.aE.aC k.obj) _ _ (fun i b hi hl=>?_) ?_
 ·have hw:=aM i (by have:=bk (w:=bu) c.aE.aB; have:=yT c; omega)
  obtain ⟨_,rfl⟩:=List.getElem?_eq_some_iff.1 hi
  have hb:=uF c
  have ho:=ES (List.getElem_mem hl)
  have u1:=CD c.aE.aC (c.aE.aB[i]).obj (by omega) (by omega)
  try simp at u1
  cases hh : eC c.aE.aC (c.aE.aB[i]).obj <;> rw [hh] at u1
  all_goals
  simp -implicitDefEqProofs [rI,Aj,hl,hw,u1,hh]
  all_goals (repeat' split) <;> first | rfl | omega | (simp_all; done) | (simp_all; omega) | skip
 ·simp -implicitDefEqProofs [rI,Aj]
theorem Gx (c : Ca) (hc : bZ c≤100000000) : aH (ai (ev LI TT) (ak TT) oG) [(1,.ptr .own (cr .af c)),(11,.ay 1 [] 0 9),(12,.row .af 18 (c.sent.map (cj .af))),(13,.int .i64 c.sent.length),(14,.int .i64 0)] = if aF (kj c.aE.aC) (c.sent) = true then some (.exit 0,[(1,.ptr .own (cr .af c)),(11,.ay 1 [] 0 9),(12,.row .af 18 (c.sent.map (cj .af))),(13,.int .i64 c.sent.length),(14,.int .i64 (c.sent).length),(15,.bool false)]) else some (.ret,[(2,.bool false)]):=by
 refine bX (f:=ai (ev LI TT) (ak TT) oG) (c.sent) (fun i=>[(1,.ptr .own (cr .af c)),(11,.ay 1 [] 0 9),(12,.row .af 18 (c.sent.map (cj .af))),(13,.int .i64 c.sent.length),(14,.int .i64 i)]) (kj c.aE.aC) _ _ (fun i b hi hl=>?_) ?_
 ·have hw:=aM i (by have:=bk (w:=bR) c.sent; have:=yU c; omega)
  obtain ⟨_,rfl⟩:=List.getElem?_eq_some_iff.1 hi
  have hb:=uF c
  have ho:=FB (List.getElem_mem hl)
  have ht:=Gi aQ c.aE.aC (gH (c.sent[i]).aC c.aE.aC)
  have u1:=CD (c.aE.aC.take (gH (c.sent[i]).aC c.aE.aC)) (c.sent[i]).obj (by omega) (by omega)
  have hn:=E3 (c.sent[i]).aC c.aE.aC
  have qG : ∀ v,(if (c.aE.aC.length : Int) < (c.sent[i]).aC then (c.aE.aC.length : Int) else (c.sent[i]).aC) = v→(if 0 < v then v else 0) = (gH (c.sent[i]).aC c.aE.aC : Int):=by intro v hv; subst hv; unfold gH; split <;> split at * <;> omega
  obtain ⟨v,e1⟩ : ∃ v : Int,(if (c.aE.aC.length : Int) < (c.sent[i]).aC then (c.aE.aC.length : Int) else (c.sent[i]).aC) = v:=⟨_,rfl⟩
  have e2:=qG v e1
  clear qG
  unfold kj
  generalize hN : gH (c.sent[i]).aC c.aE.aC = N at u1 hn e2
  have hn2 : (N : Int)≤c.aE.aC.length:=by omega
  try simp at u1
  by_cases g1 : (c.sent[i]).kind = 1
  rotate_left
  ·simp -implicitDefEqProofs [oG,vw,hl,hw,g1,e1,e2,hn,hn2]
  cases hh : eC (c.aE.aC.take N) (c.sent[i]).obj <;> rw [hh] at u1
  all_goals
  simp -implicitDefEqProofs [oG,vw,hl,hw,u1,hh,g1,hn,hn2,e1,e2]
  all_goals (repeat' split) <;> first | rfl | omega | (simp_all; done) | (simp_all; omega) | skip
 ·simp -implicitDefEqProofs [oG,vw]
theorem Ip (c : Ca) (hc : bZ c≤100000000) : ev LI TT 14 [.agg (cr .af c)] = some (.bool (vU c),[.dead]):=by
 rw [az (b:=oH) (rs:=[.t 2]) (n:=1) rfl rfl]
 unfold vU
 have u1:=Ii  c hc
 try simp at u1
 have u2:=Gx  c hc
 try simp at u2
 have u3:=Gy  c hc
 try simp at u3
 generalize mq c = b1 at u1
 cases b1
 ·simp -implicitDefEqProofs [oH,u1]
 cases h2 : aF (kj c.aE.aC) c.sent <;> rw [h2] at u2
 all_goals try simp at u2
 ·simp -implicitDefEqProofs [oH,u1,u2]
 cases h3 : aF (fun k : Kp=>!eC c.aE.aC k.obj) c.aE.aB <;> rw [h3] at u3
 all_goals try simp at u3
 all_goals
 simp -implicitDefEqProofs [oH,u1,u2,u3]
 all_goals (repeat' split) <;> first | rfl | omega | (simp_all; done) | (simp_all; omega) | skip
end M
set_option maxHeartbeats 4000000
namespace M
open Go
theorem V2 (a0 : Ca) (k0 : uC a0) : ∃ ps,ev LI TT 3 [.agg (cr .sl a0)] = some (.bool true,ps):=by
 rw [az (b:=rU) (rs:=[.t 2]) (n:=1) rfl rfl]
 have s0:=IZ a0 1048576 k0 (by omega) (by omega)
 have w0:=aX 1048576 (bZ a0)
 obtain ⟨m0,e0⟩ : ∃ m,m = av 1048576 (bZ a0):=⟨_,rfl⟩
 rw [← e0] at s0 w0
 try simp at s0
 by_cases z0 : m0 < 0
 ·simp -implicitDefEqProofs [rU,s0,z0]
 have t0:=Jg a0 (by omega)
 try simp at t0
 have q0:=IC a0 a0 (by omega)
 try simp at q0
 have hS:=JB a0 (by omega)
 have hI:=Ip a0 (by omega)
 try simp at hS
 try simp at hI
 simp -implicitDefEqProofs [rU,s0,z0,t0,q0,hS,hI]
end M
